/- DiskApart, walked. -/
import Derived.Test.YtddabjlhidokaaaDkK
import Derived.Test.YtddabjlhidokaaaDkOps
namespace Go.Proofs.Ytddabjlhidokaaa
open Go.RowKit
open Mur (Fil Dk Dsk DskF Byt b8s foot hasF fE)
set_option maxRecDepth 100000
set_option maxHeartbeats 4000000
def Apart_F1 (b : Array Value) (u1 : Value) (u5 : Value) (u36 : Value) (u37 : Value) (u38 : Value) : Act := ⟨#[b.getD 0 undef, u1, b.getD 2 undef, b.getD 3 undef, b.getD 4 undef, u5, b.getD 6 undef, b.getD 7 undef, b.getD 8 undef, b.getD 9 undef, b.getD 10 undef, b.getD 11 undef, b.getD 12 undef, b.getD 13 undef, b.getD 14 undef, b.getD 15 undef, b.getD 16 undef, b.getD 17 undef, b.getD 18 undef, b.getD 19 undef, b.getD 20 undef, b.getD 21 undef, b.getD 22 undef, b.getD 23 undef, b.getD 24 undef, b.getD 25 undef, b.getD 26 undef, b.getD 27 undef, b.getD 28 undef, b.getD 29 undef, b.getD 30 undef, b.getD 31 undef, b.getD 32 undef, b.getD 33 undef, b.getD 34 undef, b.getD 35 undef, u36, u37, u38, b.getD 39 undef, b.getD 40 undef, b.getD 41 undef, b.getD 42 undef, b.getD 43 undef, b.getD 44 undef, b.getD 45 undef, b.getD 46 undef, b.getD 47 undef, b.getD 48 undef, b.getD 49 undef, b.getD 50 undef, b.getD 51 undef, b.getD 52 undef, b.getD 53 undef, b.getD 54 undef, b.getD 55 undef, b.getD 56 undef, b.getD 57 undef, b.getD 58 undef, b.getD 59 undef, b.getD 60 undef, b.getD 61 undef, b.getD 62 undef, b.getD 63 undef, b.getD 64 undef, b.getD 65 undef, b.getD 66 undef, b.getD 67 undef, b.getD 68 undef, b.getD 69 undef, b.getD 70 undef, b.getD 71 undef, b.getD 72 undef, b.getD 73 undef, b.getD 74 undef, b.getD 75 undef, b.getD 76 undef, b.getD 77 undef, b.getD 78 undef, b.getD 79 undef], []⟩
def Apart_F2 (b : Array Value) (u1 : Value) (u5 : Value) (u36 : Value) (u37 : Value) (u38 : Value) : Act := ⟨#[b.getD 0 undef, u1, b.getD 2 undef, b.getD 3 undef, b.getD 4 undef, u5, b.getD 6 undef, b.getD 7 undef, b.getD 8 undef, b.getD 9 undef, b.getD 10 undef, b.getD 11 undef, b.getD 12 undef, b.getD 13 undef, b.getD 14 undef, b.getD 15 undef, b.getD 16 undef, b.getD 17 undef, b.getD 18 undef, b.getD 19 undef, b.getD 20 undef, b.getD 21 undef, b.getD 22 undef, b.getD 23 undef, b.getD 24 undef, b.getD 25 undef, b.getD 26 undef, b.getD 27 undef, b.getD 28 undef, b.getD 29 undef, b.getD 30 undef, b.getD 31 undef, b.getD 32 undef, b.getD 33 undef, b.getD 34 undef, b.getD 35 undef, u36, u37, u38, b.getD 39 undef, b.getD 40 undef, b.getD 41 undef, b.getD 42 undef, b.getD 43 undef, b.getD 44 undef, b.getD 45 undef, b.getD 46 undef, b.getD 47 undef, b.getD 48 undef, b.getD 49 undef, b.getD 50 undef, b.getD 51 undef, b.getD 52 undef, b.getD 53 undef, b.getD 54 undef, b.getD 55 undef, b.getD 56 undef, b.getD 57 undef, b.getD 58 undef, b.getD 59 undef, b.getD 60 undef, b.getD 61 undef, b.getD 62 undef, b.getD 63 undef, b.getD 64 undef, b.getD 65 undef, b.getD 66 undef, b.getD 67 undef, b.getD 68 undef, b.getD 69 undef, b.getD 70 undef, b.getD 71 undef, b.getD 72 undef, b.getD 73 undef, b.getD 74 undef, b.getD 75 undef, b.getD 76 undef, b.getD 77 undef, b.getD 78 undef, b.getD 79 undef], []⟩
theorem apart_any (A : Option Addr) (n c : Nat) (f : Int) (L : List Mur.Dop) (w : World) (hl : Mur.Dops w A n L) (hnc : n ≤ c ∧ n ≤ 9223372036854775807) : Calls Try.prog 4 #[.slice A n c, .int .i64 f] w fun e w' => e = .returned (.bool true) ∧ Below w.heap.size w w' := by
  have HL := Go.Lib.hid hl
  clear hl
  have hn := hnc.2
  by_cases hf : f = 0
  · subst hf
    refine calls_of_wp Try.func4 rfl ?_
    refine wp_seq ?_
    refine Wk.reg ?_
    refine Wk.rPure 0 (some 4) (.bool false) rfl rfl (by kernel_rfl) (by kernel_rfl) ?_
    refine Wk.rEnd 1 rfl ?_
    refine Wk.nxt ?_
    refine wp_seq ?_
    refine Wk.reg ?_
    refine Wk.rCall 0 (some 8) 8 [] #[] [] rfl rfl (by kernel_rfl) rfl (by kernel_rfl) (by kernel_rfl) ?_
    refine (New_any w).mono ?_
    rintro _ W1 ⟨FF1, rfl, hD1, ch1⟩
    have hM1 := Mur.DskF.mem hD1
    have zz1 : w.heap.size < W1.heap.size := Mur.DskF.lt hD1
    have zz2 := ch1.size
    refine ⟨_, rfl, ?_⟩
    refine Wk.rPure 1 (some 5) (.pointer (some ⟨w.heap.size, 0, none⟩)) rfl rfl (by kernel_rfl) (by kernel_rfl) ?_
    refine Wk.rEnd 2 rfl ?_
    refine Wk.nxt ?_
    refine wp_seq ?_
    refine wp_seq ?_
    refine Wk.reg ?_
    refine Wk.rPure 0 (some 9) (.pointer (some ⟨w.heap.size, 0, none⟩)) rfl rfl (by kernel_rfl) (by kernel_rfl) ?_
    refine Wk.rPure 1 (some 10) (.bool false) rfl rfl (by kernel_rfl) (by kernel_rfl) ?_
    refine Wk.rPure 2 (some 11) (.bool false) rfl rfl (by kernel_rfl) (by kernel_rfl) ?_
    refine Wk.rPure 3 (some 12) (.slice A n c) rfl rfl (by kernel_rfl) (by kernel_rfl) ?_
    refine Wk.rPure 4 (some 13) (.int .i64 ((n : Nat) : Int)) rfl rfl (by kernel_rfl) (by kernel_rfl) ?_
    by_cases hx1 : ((n : Nat) : Int) > (60 : Int)
    · refine Wk.rPure 5 (some 14) (.bool true) rfl rfl (by kernel_rfl) (Wk.boolT (b := decide (((n : Nat) : Int) > (60 : Int))) (decide_eq_true (by first | exact hx1 | omega)) (by kernel_rfl)) ?_
      refine Wk.rPure 6 (some 15) (.bool true) rfl rfl (by kernel_rfl) (by kernel_rfl) ?_
      refine Wk.rPure 7 (some 16) (.bool true) rfl rfl (by kernel_rfl) (by kernel_rfl) ?_
      refine Wk.rPass 8 (some 17) rfl rfl (by kernel_rfl) ?_
      refine Wk.rPass 9 (some 18) rfl rfl (by kernel_rfl) ?_
      refine Wk.rPure 10 (some 19) (.bool true) rfl rfl (by kernel_rfl) (by kernel_rfl) ?_
      refine Wk.rPure 11 (some 20) (.bool true) rfl rfl (by kernel_rfl) (by kernel_rfl) ?_
      refine Wk.rPass 12 (some 21) rfl rfl (by kernel_rfl) ?_
      refine Wk.rPass 13 (some 22) rfl rfl (by kernel_rfl) ?_
      refine Wk.rPure 14 (some 23) (.bool true) rfl rfl (by kernel_rfl) (by kernel_rfl) ?_
      refine Wk.rEnd 15 rfl ?_
      refine Wk.nxt ?_
      refine wp_cond_true (by kernel_rfl) ?_
      refine wp_seq ?_
      refine Wk.reg ?_
      refine Wk.rPure 0 (some 24) (.pointer (some ⟨w.heap.size, 0, none⟩)) rfl rfl (by kernel_rfl) (by kernel_rfl) ?_
      refine Wk.rPure 1 (some 25) (.bool true) rfl rfl (by kernel_rfl) (by kernel_rfl) ?_
      refine Wk.rPure 2 (some 26) (.bool true) rfl rfl (by kernel_rfl) (by kernel_rfl) ?_
      refine Wk.rCall 3 (some 27) 9 [] #[] [] rfl rfl (by kernel_rfl) rfl (by kernel_rfl) (by kernel_rfl) ?_
      refine (known_any W1).mono ?_
      rintro _ W2 ⟨rfl, hB1⟩
      have ch2 := Wk.Chg.ofBelow hB1
      have zz3 := ch2.size
      refine ⟨_, rfl, ?_⟩
      refine Wk.rPure 4 (some 28) (.bool true) rfl rfl (by kernel_rfl) (by kernel_rfl) ?_
      refine Wk.rPure 5 (some 4) (.bool true) rfl rfl (by kernel_rfl) (by kernel_rfl) ?_
      refine Wk.rEnd 6 rfl ?_
      refine Wk.nxt ?_
      refine wp_ret ?_
      refine Wk.thR ?_
      have kk1 : Wk.Chg [] w W1 := Wk.Chg.step ((Wk.Chg.refl _).more (by simp)) ch1 trivial
      have kk2 := Wk.Chg.step kk1 ch2 trivial
      refine Wk.ret (.bool true) rfl (by kernel_rfl) ?_
      exact ⟨rfl, Wk.Chg.below0 kk2⟩
    · refine Wk.rPure 5 (some 14) (.bool false) rfl rfl (by kernel_rfl) (Wk.boolF (b := decide (((n : Nat) : Int) > (60 : Int))) (decide_eq_false (by first | exact hx1 | omega)) (by kernel_rfl)) ?_
      refine Wk.rPure 6 (some 15) (.bool false) rfl rfl (by kernel_rfl) (by kernel_rfl) ?_
      refine Wk.rPure 7 (some 16) (.bool false) rfl rfl (by kernel_rfl) (by kernel_rfl) ?_
      refine Wk.rPure 8 (some 17) (.int .i64 0) rfl rfl (by kernel_rfl) (by kernel_rfl) ?_
      refine Wk.rPure 9 (some 18) (.bool false) rfl rfl (by kernel_rfl) (Wk.boolF (b := decide ((0 : Int) < (0 : Int))) (decide_eq_false (by decide)) (by kernel_rfl)) ?_
      refine Wk.rPure 10 (some 19) (.bool false) rfl rfl (by kernel_rfl) (by kernel_rfl) ?_
      refine Wk.rPure 11 (some 20) (.bool false) rfl rfl (by kernel_rfl) (by kernel_rfl) ?_
      refine Wk.rPure 12 (some 21) (.int .i64 0) rfl rfl (by kernel_rfl) (by kernel_rfl) ?_
      refine Wk.rPure 13 (some 22) (.bool false) rfl rfl (by kernel_rfl) (Wk.boolF (b := decide ((0 : Int) > (1 : Int))) (decide_eq_false (by decide)) (by kernel_rfl)) ?_
      refine Wk.rPure 14 (some 23) (.bool false) rfl rfl (by kernel_rfl) (by kernel_rfl) ?_
      refine Wk.rEnd 15 rfl ?_
      refine Wk.nxt ?_
      refine wp_cond_false (by kernel_rfl) ?_
      refine wp_skip ?_
      refine Wk.nxt ?_
      refine wp_seq ?_
      refine wp_seq ?_
      refine Wk.reg ?_
      refine Wk.rPure 0 (some 29) (.pointer (some ⟨w.heap.size, 0, none⟩)) rfl rfl (by kernel_rfl) (by kernel_rfl) ?_
      refine Wk.rPure 1 (some 30) (.int .i64 0) rfl rfl (by kernel_rfl) (by kernel_rfl) ?_
      refine Wk.rPure 2 (some 31) (.int .i64 1) rfl rfl (by kernel_rfl) (Wk.int64 (n := 1 - 0) (z := 1) (by omega) (by omega) (by omega) (by kernel_rfl)) ?_
      refine Wk.rEx 3 (some 32) _ rfl rfl (by kernel_rfl) (Wk.new_ex (.slice (some ⟨W1.heap.size, 0, none⟩) 4 4) #[.int .u8 107, .int .u8 101, .int .u8 112, .int .u8 116] 5 (by kernel_rfl)) ?_
      rintro _ W3 ⟨rfl, hb1, ch3, sz1⟩
      have zz4 := ch3.size
      refine Wk.rEx 4 (some 33) _ rfl rfl (by kernel_rfl) (Mur.run_mark 26 (.tmp 32) 5 rfl Try.underlying26 Try.underlying5 W1.heap.size 4 4 #[.int .u8 107, .int .u8 101, .int .u8 112, .int .u8 116] (by kernel_rfl) hb1) ?_
      rintro _ W4 ⟨rfl, hb2, ch4⟩
      have zz5 := ch4.size
      refine Wk.rCall 5 (some 34) 10 [.tmp 29, .tmp 31, .tmp 33] #[23, 3, 26] [.pointer (some ⟨w.heap.size, 0, none⟩), .int .i64 1, .slice (some ⟨W1.heap.size, 0, none⟩) 4 4] rfl rfl (by kernel_rfl) rfl (by kernel_rfl) (by kernel_rfl) ?_
      have hD2 := Mur.DskF.chg hD1 ch3 (fun s hs hl => trivial)
      have hD3 := Mur.DskF.chg hD2 ch4 (fun s hs hl => ⟨by have := hM1 s hs; omega, trivial⟩)
      refine (Append_any w.heap.size Mur.Dk.new FF1 1 (some ⟨W1.heap.size, 0, none⟩) 4 4 ([107, 101, 112, 116]) W4 hD3 (Mur.byt_row [107, 101, 112, 116] hb2) (fun h => by cases h)).mono ?_
      rw [show Mur.Dk.appE Mur.Dk.new 1 4 = 0 from by decide]
      rw [show Mur.Dk.app Mur.Dk.new 1 [107, 101, 112, 116] = (⟨⟨[], 0⟩, ⟨[107, 101, 112, 116], 0⟩⟩ : Dk) from rfl]
      rintro _ W5 ⟨FF2, rfl, hD4, ch5, no1⟩
      have hM2 := Mur.DskF.mem hD4
      have zz6 := ch5.size
      refine ⟨_, rfl, ?_⟩
      refine Wk.rPure 6 (some 35) (.bool false) rfl rfl (by kernel_rfl) (Wk.boolF (b := ((0 : Int) != (0 : Int))) (bne_eq_false_iff_eq.2 (by decide)) (by kernel_rfl)) ?_
      refine Wk.rEnd 7 rfl ?_
      refine Wk.nxt ?_
      refine wp_cond_false (by kernel_rfl) ?_
      refine wp_skip ?_
      refine Wk.nxt ?_
      refine wp_seq ?_
      refine wp_seq ?_
      refine Wk.reg ?_
      refine Wk.rPure 0 (some 36) (.slice A n c) rfl rfl (by kernel_rfl) (by kernel_rfl) ?_
      refine Wk.rPure 1 (some 37) (.int .i64 ((n : Nat) : Int)) rfl rfl (by kernel_rfl) (by kernel_rfl) ?_
      refine Wk.rPure 2 (some 38) (.int .i64 0) rfl rfl (by kernel_rfl) (by kernel_rfl) ?_
      refine Wk.rEnd 3 rfl ?_
      refine Wk.nxt ?_
      refine wp_block ?_
      refine Wk.loop (fun m_ a wr => ∃ (k : Nat) (fb : List UInt8) (fn : Nat) (F : List Nat), m_ = n - k ∧ a = Apart_F1 a.tmps (.int .i64 0) (.pointer (some ⟨w.heap.size, 0, none⟩)) (.slice A n c) (.int .i64 ((n : Nat) : Int)) (.int .i64 ((k : Nat) : Int)) ∧ k ≤ n ∧ DskF 5 51 wr w.heap.size (⟨⟨fb, fn⟩, ⟨[107, 101, 112, 116], 0⟩⟩ : Dk) F ∧ Wk.Chg [] w wr) (n - 0) ?_ ?_
      · have kk3 : Wk.Chg [] w W1 := Wk.Chg.step ((Wk.Chg.refl _).more (by simp)) ch1 trivial
        have kk4 := Wk.Chg.step kk3 ch3 trivial
        have kk5 := Wk.Chg.step kk4 ch4 ⟨.inr (by omega), trivial⟩
        have kk6 := Wk.Chg.step kk5 ch5 (Mur.newOr_iff.2 (fun t ht => .inr (by have := hM1 t ht; omega)))
        refine ⟨0, [], 0, FF2, rfl, by kernel_rfl, Nat.zero_le _, hD4, kk6⟩
      · rintro mm1 aa1 W6 ⟨k, fb, fn, F, hmm1, hF1, hk, hD, HB⟩
        generalize aa1.tmps = bb1 at hF1
        subst hF1
        have hM := Mur.DskF.mem hD
        have hsz := Mur.DskF.lt hD
        by_cases hlt : k < n
        · obtain ⟨g, off, kd, fx, B, mb, cb, bs, k0, k1, rfl, hg, q, hb, hbc, hbm, hbn⟩ := HL.out.at hlt
          refine wp_seq ?_
          refine Wk.reg ?_
          refine Wk.rPure 0 (some 39) (.bool true) rfl rfl (by kernel_rfl) (Wk.boolT (b := decide (((k : Nat) : Int) < ((n : Nat) : Int))) (decide_eq_true (by omega)) (by kernel_rfl)) ?_
          refine Wk.rEnd 1 rfl ?_
          refine Wk.nxt ?_
          refine wp_seq ?_
          refine wp_cond_true (by kernel_rfl) ?_
          refine wp_skip ?_
          refine Wk.nxt ?_
          refine wp_seq ?_
          refine wp_block ?_
          refine wp_seq ?_
          refine Wk.reg ?_
          refine Wk.rPure 0 (some 40) (.pointer (some ⟨g, off + k * 5, none⟩)) rfl rfl (by kernel_rfl) (Wk.index_sl 22 29 (.tmp 36) (.tmp 38) rfl Try.underlying22 5 (by kernel_rfl) g off n c k .i64 (by kernel_rfl) (by kernel_rfl) (by omega)) ?_
          refine Wk.rPure 1 (some 41) (.agg #[.int .i64 kd, .int .i64 fx, .slice B mb cb, .int .i64 k0, .int .i64 k1]) rfl rfl (by kernel_rfl) (Wk.loadR 29 (.tmp 40) rfl _ Try.underlying29 rfl g (off + k * 5) (by kernel_rfl) ([.int .i64 kd, .int .i64 fx, .slice B mb cb, .int .i64 k0, .int .i64 k1]) (by kernel_rfl) (Wk.Chg.range HB q trivial)) ?_
          refine Wk.rEx 2 (some 7) _ rfl rfl (by kernel_rfl) (Wk.new_ex (.pointer (some ⟨W6.heap.size, 0, none⟩)) #[.int .i64 0, .int .i64 0, .slice none 0 0, .int .i64 0, .int .i64 0] 29 (by kernel_rfl)) ?_
          rintro _ W7 ⟨rfl, hb3, ch6, sz2⟩
          have zz7 := ch6.size
          refine Wk.rExS 3 none _ rfl rfl (by kernel_rfl) (Wk.storeR 29 (.tmp 7) (.tmp 41) rfl W6.heap.size 0 (by kernel_rfl) ([.int .i64 kd, .int .i64 fx, .slice B mb cb, .int .i64 k0, .int .i64 k1]) (by kernel_rfl) (by kernel_rfl) (by intro v hv; simp at hv; rcases hv with h | h | h | h | h <;> (subst h; rfl)) 29 ([.int .i64 0, .int .i64 0, .slice none 0 0, .int .i64 0, .int .i64 0]) hb3 (by simp)) ?_
          rintro W8 ⟨hb4, ch7⟩
          replace hb4 : W8.heap[W6.heap.size]? = some (.cells #[.int .i64 kd, .int .i64 fx, .slice B mb cb, .int .i64 k0, .int .i64 k1] 29 (0, 0)) := hb4
          have zz8 := ch7.size
          refine Wk.rEnd 4 rfl ?_
          refine Wk.nxt ?_
          refine wp_seq ?_
          refine wp_seq ?_
          refine Wk.reg ?_
          refine Wk.rPure 0 (some 42) (.pointer (some ⟨W6.heap.size, 2, none⟩)) rfl rfl (by kernel_rfl) (by kernel_rfl) ?_
          refine Wk.rPure 1 (some 43) (.slice B mb cb) rfl rfl (by kernel_rfl) (Wk.load1 26 (.tmp 42) rfl (by kernel_rfl) ⟨W6.heap.size, 2, none⟩ (by kernel_rfl) (.slice B mb cb) ((cell_of_row _ _ 2 _ _ _ hb4).trans rfl)) ?_
          refine Wk.rPure 2 (some 44) (.int .i64 ((mb : Nat) : Int)) rfl rfl (by kernel_rfl) (by kernel_rfl) ?_
          by_cases hx2 : ((mb : Nat) : Int) > (1000 : Int)
          · refine Wk.rPure 3 (some 45) (.bool true) rfl rfl (by kernel_rfl) (Wk.boolT (b := decide (((mb : Nat) : Int) > (1000 : Int))) (decide_eq_true (by first | exact hx2 | omega)) (by kernel_rfl)) ?_
            refine Wk.rEnd 4 rfl ?_
            refine Wk.nxt ?_
            refine wp_cond_true (by kernel_rfl) ?_
            refine wp_exit ?_
            refine Wk.thX ?_
            refine Wk.inX ?_
            refine Wk.nxt ?_
            refine Wk.reg ?_
            refine Wk.rPure 0 (some 78) (.int .i64 ((k + 1 : Nat) : Int)) rfl rfl (by kernel_rfl) (Wk.int64 (n := ((k : Nat) : Int) + 1) (z := ((k + 1 : Nat) : Int)) (by omega) (by omega) (by omega) (by kernel_rfl)) ?_
            refine Wk.rPure 1 (some 38) (.int .i64 ((k + 1 : Nat) : Int)) rfl rfl (by kernel_rfl) (by kernel_rfl) ?_
            refine Wk.rEnd 2 rfl ?_
            refine Wk.nxt ?_
            have hD5 := Mur.DskF.chg hD ch6 (fun s hs hl => trivial)
            have hD6 := Mur.DskF.chg hD5 ch7 (fun s hs hl => ⟨by have := hM s hs; omega, trivial⟩)
            have kk7 := Wk.Chg.step HB ch6 trivial
            have kk8 := Wk.Chg.step kk7 ch7 ⟨.inr (by omega), trivial⟩
            refine ⟨_, ?_, k + 1, fb, fn, F, rfl, by kernel_rfl, (by omega), hD6, kk8⟩
            · omega
          · refine Wk.rPure 3 (some 45) (.bool false) rfl rfl (by kernel_rfl) (Wk.boolF (b := decide (((mb : Nat) : Int) > (1000 : Int))) (decide_eq_false (by first | exact hx2 | omega)) (by kernel_rfl)) ?_
            refine Wk.rEnd 4 rfl ?_
            refine Wk.nxt ?_
            refine wp_cond_false (by kernel_rfl) ?_
            refine wp_skip ?_
            refine Wk.nxt ?_
            refine wp_seq ?_
            refine wp_seq ?_
            refine Wk.reg ?_
            refine Wk.rPure 0 (some 46) (.pointer (some ⟨W6.heap.size, 0, none⟩)) rfl rfl (by kernel_rfl) (by kernel_rfl) ?_
            refine Wk.rPure 1 (some 47) (.int .i64 kd) rfl rfl (by kernel_rfl) (Wk.load1 3 (.tmp 46) rfl (by kernel_rfl) ⟨W6.heap.size, 0, none⟩ (by kernel_rfl) (.int .i64 kd) ((cell_of_row _ _ 0 _ _ _ hb4).trans rfl)) ?_
            refine Wk.rEnd 2 rfl ?_
            refine Wk.nxt ?_
            refine wp_block ?_
            refine wp_seq ?_
            refine Wk.reg ?_
            by_cases hx3 : kd = (1 : Int)
            · refine Wk.rPure 0 (some 49) (.bool true) rfl rfl (by kernel_rfl) (Wk.boolT (b := (kd == (1 : Int))) (beq_iff_eq.2 (by first | exact hx3 | omega)) (by kernel_rfl)) ?_
              refine Wk.rPure 1 (some 48) (.bool true) rfl rfl (by kernel_rfl) (by kernel_rfl) ?_
              refine Wk.rEnd 2 rfl ?_
              refine Wk.nxt ?_
              refine wp_cond_true (by kernel_rfl) ?_
              refine Wk.reg ?_
              refine Wk.rPure 0 (some 50) (.pointer (some ⟨w.heap.size, 0, none⟩)) rfl rfl (by kernel_rfl) (by kernel_rfl) ?_
              refine Wk.rPure 1 (some 51) (.int .i64 0) rfl rfl (by kernel_rfl) (by kernel_rfl) ?_
              refine Wk.rPure 2 (some 52) (.pointer (some ⟨W6.heap.size, 2, none⟩)) rfl rfl (by kernel_rfl) (by kernel_rfl) ?_
              refine Wk.rPure 3 (some 53) (.slice B mb cb) rfl rfl (by kernel_rfl) (Wk.load1 26 (.tmp 52) rfl (by kernel_rfl) ⟨W6.heap.size, 2, none⟩ (by kernel_rfl) (.slice B mb cb) ((cell_of_row _ _ 2 _ _ _ hb4).trans rfl)) ?_
              refine Wk.rCall 4 (some 54) 10 [.tmp 50, .tmp 51, .tmp 53] #[23, 3, 26] [.pointer (some ⟨w.heap.size, 0, none⟩), .int .i64 0, .slice B mb cb] rfl rfl (by kernel_rfl) rfl (by kernel_rfl) (by kernel_rfl) ?_
              have hD7 := Mur.DskF.chg hD ch6 (fun s hs hl => trivial)
              have hD8 := Mur.DskF.chg hD7 ch7 (fun s hs hl => ⟨by have := hM s hs; omega, trivial⟩)
              have kk9 := Wk.Chg.step HB ch6 trivial
              have kk10 := Wk.Chg.step kk9 ch7 ⟨.inr (by omega), trivial⟩
              obtain ⟨fb1, fn1, ed1⟩ := Mur.app_keep0 ⟨fb, fn⟩ ⟨[107, 101, 112, 116], 0⟩ bs
              refine (Append_any w.heap.size (⟨⟨fb, fn⟩, ⟨[107, 101, 112, 116], 0⟩⟩ : Dk) F 0 B mb cb bs W8 hD8 (Mur.byt_chg hb kk10 (fun g off e hl => trivial)) hbn).mono ?_
              rw [ed1]
              rintro _ W9 ⟨FF3, rfl, hD9, ch8, no2⟩
              have hM3 := Mur.DskF.mem hD9
              have zz9 := ch8.size
              refine ⟨_, rfl, ?_⟩
              refine Wk.rEnd 5 rfl ?_
              refine Wk.inN ?_
              refine Wk.nxt ?_
              refine wp_seq ?_
              refine Wk.reg ?_
              refine Wk.rPure 0 (some 65) (.pointer (some ⟨w.heap.size, 0, none⟩)) rfl rfl (by kernel_rfl) (by kernel_rfl) ?_
              refine Wk.rPure 1 (some 66) (.int .i64 0) rfl rfl (by kernel_rfl) (by kernel_rfl) ?_
              refine Wk.rPure 2 (some 67) (.int .i64 1) rfl rfl (by kernel_rfl) (Wk.int64 (n := 1 - 0) (z := 1) (by omega) (by omega) (by omega) (by kernel_rfl)) ?_
              refine Wk.rCall 3 (some 68) 13 [.tmp 65, .tmp 67] #[23, 3] [.pointer (some ⟨w.heap.size, 0, none⟩), .int .i64 1] rfl rfl (by kernel_rfl) rfl (by kernel_rfl) (by kernel_rfl) ?_
              refine (Bytes_any w.heap.size (⟨⟨fb1, fn1⟩, ⟨[107, 101, 112, 116], 0⟩⟩ : Dk) FF3 1 W9 hD9).mono ?_
              rw [show Mur.Dk.bytes (⟨⟨fb1, fn1⟩, ⟨[107, 101, 112, 116], 0⟩⟩ : Dk) 1 = [107, 101, 112, 116] from rfl]
              rintro _ W10 ⟨vv1, rfl, HO1, ch9⟩
              obtain ⟨AA1, nn1, rfl, hcc1, hmm2, hN1, HS1, hl1⟩ := Wk.own_sl HO1
              have hB2 : Byt W10 AA1 ([107, 101, 112, 116]).length ([107, 101, 112, 116]) := by obtain ⟨_, _, e_, _, _, hq⟩ := Mur.own_byt HO1; cases e_; exact hq
              have zz10 := ch9.size
              refine ⟨_, rfl, ?_⟩
              refine Wk.rPure 4 (some 69) (.string (Mur.str ([107, 101, 112, 116]))) rfl rfl (by kernel_rfl) (Mur.run_str 26 9 (.tmp 68) 5 rfl Try.underlying26 Try.underlying5 Try.underlying9 AA1 (([107, 101, 112, 116]).length) nn1 ([107, 101, 112, 116]) (by kernel_rfl) hB2) ?_
              refine Wk.rPure 5 (some 70) (.bool false) rfl rfl (by kernel_rfl) (Wk.boolF (b := decide (([107, 101, 112, 116]) ≠ ([107, 101, 112, 116]))) (decide_eq_false (fun h => h rfl)) (Mur.strne 9 9 (.tmp 69) (.const (.string ({ data := #[107, 101, 112, 116] }))) rfl ([107, 101, 112, 116]) ([107, 101, 112, 116]) (by kernel_rfl) (by kernel_rfl))) ?_
              refine Wk.rPure 6 (some 71) (.bool false) rfl rfl (by kernel_rfl) (by kernel_rfl) ?_
              refine Wk.rPure 7 (some 72) (.pointer (some ⟨w.heap.size, 0, none⟩)) rfl rfl (by kernel_rfl) (by kernel_rfl) ?_
              refine Wk.rPure 8 (some 73) (.int .i64 0) rfl rfl (by kernel_rfl) (by kernel_rfl) ?_
              refine Wk.rPure 9 (some 74) (.int .i64 1) rfl rfl (by kernel_rfl) (Wk.int64 (n := 1 - 0) (z := 1) (by omega) (by omega) (by omega) (by kernel_rfl)) ?_
              refine Wk.rCall 10 (some 75) 14 [.tmp 72, .tmp 74] #[23, 3] [.pointer (some ⟨w.heap.size, 0, none⟩), .int .i64 1] rfl rfl (by kernel_rfl) rfl (by kernel_rfl) (by kernel_rfl) ?_
              have hD10 := Mur.DskF.chg hD9 ch9 (fun s hs hl => trivial)
              refine (Synced_any w.heap.size (⟨⟨fb1, fn1⟩, ⟨[107, 101, 112, 116], 0⟩⟩ : Dk) FF3 1 W10 hD10).mono ?_
              rw [show Mur.Dk.synced (⟨⟨fb1, fn1⟩, ⟨[107, 101, 112, 116], 0⟩⟩ : Dk) 1 = 0 from rfl]
              rintro _ _ ⟨rfl, rfl⟩
              refine ⟨_, rfl, ?_⟩
              refine Wk.rPure 11 (some 76) (.bool false) rfl rfl (by kernel_rfl) (Wk.boolF (b := ((0 : Int) != (0 : Int))) (bne_eq_false_iff_eq.2 (by decide)) (by kernel_rfl)) ?_
              refine Wk.rPure 12 (some 77) (.bool false) rfl rfl (by kernel_rfl) (by kernel_rfl) ?_
              refine Wk.rEnd 13 rfl ?_
              refine Wk.nxt ?_
              refine wp_cond_false (by kernel_rfl) ?_
              refine wp_skip ?_
              refine Wk.inN ?_
              refine Wk.nxt ?_
              refine Wk.reg ?_
              refine Wk.rPure 0 (some 78) (.int .i64 ((k + 1 : Nat) : Int)) rfl rfl (by kernel_rfl) (Wk.int64 (n := ((k : Nat) : Int) + 1) (z := ((k + 1 : Nat) : Int)) (by omega) (by omega) (by omega) (by kernel_rfl)) ?_
              refine Wk.rPure 1 (some 38) (.int .i64 ((k + 1 : Nat) : Int)) rfl rfl (by kernel_rfl) (by kernel_rfl) ?_
              refine Wk.rEnd 2 rfl ?_
              refine Wk.nxt ?_
              have kk11 := Wk.Chg.step kk10 ch8 (Mur.newOr_iff.2 (fun t ht => .inr (by have := hM t ht; omega)))
              have kk12 := Wk.Chg.step kk11 ch9 trivial
              refine ⟨_, ?_, k + 1, fb1, fn1, FF3, rfl, by kernel_rfl, (by omega), hD10, kk12⟩
              · omega
            · refine Wk.rPure 0 (some 49) (.bool false) rfl rfl (by kernel_rfl) (Wk.boolF (b := (kd == (1 : Int))) (beq_eq_false_iff_ne.2 (by first | exact hx3 | omega)) (by kernel_rfl)) ?_
              refine Wk.rPure 1 (some 48) (.bool false) rfl rfl (by kernel_rfl) (by kernel_rfl) ?_
              refine Wk.rEnd 2 rfl ?_
              refine Wk.nxt ?_
              refine wp_cond_false (by kernel_rfl) ?_
              refine wp_seq ?_
              refine Wk.reg ?_
              by_cases hx4 : kd = (2 : Int)
              · refine Wk.rPure 0 (some 56) (.bool true) rfl rfl (by kernel_rfl) (Wk.boolT (b := (kd == (2 : Int))) (beq_iff_eq.2 (by first | exact hx4 | omega)) (by kernel_rfl)) ?_
                refine Wk.rPure 1 (some 55) (.bool true) rfl rfl (by kernel_rfl) (by kernel_rfl) ?_
                refine Wk.rEnd 2 rfl ?_
                refine Wk.nxt ?_
                refine wp_cond_true (by kernel_rfl) ?_
                refine Wk.reg ?_
                refine Wk.rPure 0 (some 57) (.pointer (some ⟨w.heap.size, 0, none⟩)) rfl rfl (by kernel_rfl) (by kernel_rfl) ?_
                refine Wk.rPure 1 (some 58) (.int .i64 0) rfl rfl (by kernel_rfl) (by kernel_rfl) ?_
                refine Wk.rCall 2 (some 59) 11 [.tmp 57, .tmp 58] #[23, 3] [.pointer (some ⟨w.heap.size, 0, none⟩), .int .i64 0] rfl rfl (by kernel_rfl) rfl (by kernel_rfl) (by kernel_rfl) ?_
                have hD11 := Mur.DskF.chg hD ch6 (fun s hs hl => trivial)
                have hD12 := Mur.DskF.chg hD11 ch7 (fun s hs hl => ⟨by have := hM s hs; omega, trivial⟩)
                refine (Sync_any w.heap.size (⟨⟨fb, fn⟩, ⟨[107, 101, 112, 116], 0⟩⟩ : Dk) F 0 W8 hD12).mono ?_
                rw [show fE 0 = 0 from by decide]
                rw [show Mur.Dk.sync (⟨⟨fb, fn⟩, ⟨[107, 101, 112, 116], 0⟩⟩ : Dk) 0 = (⟨⟨fb, fb.length⟩, ⟨[107, 101, 112, 116], 0⟩⟩ : Dk) from rfl]
                rintro _ W11 ⟨FF4, rfl, hD13, ch10, no3⟩
                have hM4 := Mur.DskF.mem hD13
                have zz11 := ch10.size
                refine ⟨_, rfl, ?_⟩
                refine Wk.rEnd 3 rfl ?_
                refine Wk.inN ?_
                refine Wk.nxt ?_
                refine wp_seq ?_
                refine Wk.reg ?_
                refine Wk.rPure 0 (some 65) (.pointer (some ⟨w.heap.size, 0, none⟩)) rfl rfl (by kernel_rfl) (by kernel_rfl) ?_
                refine Wk.rPure 1 (some 66) (.int .i64 0) rfl rfl (by kernel_rfl) (by kernel_rfl) ?_
                refine Wk.rPure 2 (some 67) (.int .i64 1) rfl rfl (by kernel_rfl) (Wk.int64 (n := 1 - 0) (z := 1) (by omega) (by omega) (by omega) (by kernel_rfl)) ?_
                refine Wk.rCall 3 (some 68) 13 [.tmp 65, .tmp 67] #[23, 3] [.pointer (some ⟨w.heap.size, 0, none⟩), .int .i64 1] rfl rfl (by kernel_rfl) rfl (by kernel_rfl) (by kernel_rfl) ?_
                refine (Bytes_any w.heap.size (⟨⟨fb, fb.length⟩, ⟨[107, 101, 112, 116], 0⟩⟩ : Dk) FF4 1 W11 hD13).mono ?_
                rw [show Mur.Dk.bytes (⟨⟨fb, fb.length⟩, ⟨[107, 101, 112, 116], 0⟩⟩ : Dk) 1 = [107, 101, 112, 116] from rfl]
                rintro _ W12 ⟨vv2, rfl, HO2, ch11⟩
                obtain ⟨AA2, nn2, rfl, hcc2, hmm3, hN2, HS2, hl2⟩ := Wk.own_sl HO2
                have hB3 : Byt W12 AA2 ([107, 101, 112, 116]).length ([107, 101, 112, 116]) := by obtain ⟨_, _, e_, _, _, hq⟩ := Mur.own_byt HO2; cases e_; exact hq
                have zz12 := ch11.size
                refine ⟨_, rfl, ?_⟩
                refine Wk.rPure 4 (some 69) (.string (Mur.str ([107, 101, 112, 116]))) rfl rfl (by kernel_rfl) (Mur.run_str 26 9 (.tmp 68) 5 rfl Try.underlying26 Try.underlying5 Try.underlying9 AA2 (([107, 101, 112, 116]).length) nn2 ([107, 101, 112, 116]) (by kernel_rfl) hB3) ?_
                refine Wk.rPure 5 (some 70) (.bool false) rfl rfl (by kernel_rfl) (Wk.boolF (b := decide (([107, 101, 112, 116]) ≠ ([107, 101, 112, 116]))) (decide_eq_false (fun h => h rfl)) (Mur.strne 9 9 (.tmp 69) (.const (.string ({ data := #[107, 101, 112, 116] }))) rfl ([107, 101, 112, 116]) ([107, 101, 112, 116]) (by kernel_rfl) (by kernel_rfl))) ?_
                refine Wk.rPure 6 (some 71) (.bool false) rfl rfl (by kernel_rfl) (by kernel_rfl) ?_
                refine Wk.rPure 7 (some 72) (.pointer (some ⟨w.heap.size, 0, none⟩)) rfl rfl (by kernel_rfl) (by kernel_rfl) ?_
                refine Wk.rPure 8 (some 73) (.int .i64 0) rfl rfl (by kernel_rfl) (by kernel_rfl) ?_
                refine Wk.rPure 9 (some 74) (.int .i64 1) rfl rfl (by kernel_rfl) (Wk.int64 (n := 1 - 0) (z := 1) (by omega) (by omega) (by omega) (by kernel_rfl)) ?_
                refine Wk.rCall 10 (some 75) 14 [.tmp 72, .tmp 74] #[23, 3] [.pointer (some ⟨w.heap.size, 0, none⟩), .int .i64 1] rfl rfl (by kernel_rfl) rfl (by kernel_rfl) (by kernel_rfl) ?_
                have hD14 := Mur.DskF.chg hD13 ch11 (fun s hs hl => trivial)
                refine (Synced_any w.heap.size (⟨⟨fb, fb.length⟩, ⟨[107, 101, 112, 116], 0⟩⟩ : Dk) FF4 1 W12 hD14).mono ?_
                rw [show Mur.Dk.synced (⟨⟨fb, fb.length⟩, ⟨[107, 101, 112, 116], 0⟩⟩ : Dk) 1 = 0 from rfl]
                rintro _ _ ⟨rfl, rfl⟩
                refine ⟨_, rfl, ?_⟩
                refine Wk.rPure 11 (some 76) (.bool false) rfl rfl (by kernel_rfl) (Wk.boolF (b := ((0 : Int) != (0 : Int))) (bne_eq_false_iff_eq.2 (by decide)) (by kernel_rfl)) ?_
                refine Wk.rPure 12 (some 77) (.bool false) rfl rfl (by kernel_rfl) (by kernel_rfl) ?_
                refine Wk.rEnd 13 rfl ?_
                refine Wk.nxt ?_
                refine wp_cond_false (by kernel_rfl) ?_
                refine wp_skip ?_
                refine Wk.inN ?_
                refine Wk.nxt ?_
                refine Wk.reg ?_
                refine Wk.rPure 0 (some 78) (.int .i64 ((k + 1 : Nat) : Int)) rfl rfl (by kernel_rfl) (Wk.int64 (n := ((k : Nat) : Int) + 1) (z := ((k + 1 : Nat) : Int)) (by omega) (by omega) (by omega) (by kernel_rfl)) ?_
                refine Wk.rPure 1 (some 38) (.int .i64 ((k + 1 : Nat) : Int)) rfl rfl (by kernel_rfl) (by kernel_rfl) ?_
                refine Wk.rEnd 2 rfl ?_
                refine Wk.nxt ?_
                have kk13 := Wk.Chg.step HB ch6 trivial
                have kk14 := Wk.Chg.step kk13 ch7 ⟨.inr (by omega), trivial⟩
                have kk15 := Wk.Chg.step kk14 ch10 (Mur.newOr_iff.2 (fun t ht => .inr (by have := hM t ht; omega)))
                have kk16 := Wk.Chg.step kk15 ch11 trivial
                refine ⟨_, ?_, k + 1, fb, fb.length, FF4, rfl, by kernel_rfl, (by omega), hD14, kk16⟩
                · omega
              · refine Wk.rPure 0 (some 56) (.bool false) rfl rfl (by kernel_rfl) (Wk.boolF (b := (kd == (2 : Int))) (beq_eq_false_iff_ne.2 (by first | exact hx4 | omega)) (by kernel_rfl)) ?_
                refine Wk.rPure 1 (some 55) (.bool false) rfl rfl (by kernel_rfl) (by kernel_rfl) ?_
                refine Wk.rEnd 2 rfl ?_
                refine Wk.nxt ?_
                refine wp_cond_false (by kernel_rfl) ?_
                refine wp_seq ?_
                refine Wk.reg ?_
                by_cases hx5 : kd = (3 : Int)
                · refine Wk.rPure 0 (some 61) (.bool true) rfl rfl (by kernel_rfl) (Wk.boolT (b := (kd == (3 : Int))) (beq_iff_eq.2 (by first | exact hx5 | omega)) (by kernel_rfl)) ?_
                  refine Wk.rPure 1 (some 60) (.bool true) rfl rfl (by kernel_rfl) (by kernel_rfl) ?_
                  refine Wk.rEnd 2 rfl ?_
                  refine Wk.nxt ?_
                  refine wp_cond_true (by kernel_rfl) ?_
                  refine Wk.reg ?_
                  refine Wk.rPure 0 (some 62) (.pointer (some ⟨w.heap.size, 0, none⟩)) rfl rfl (by kernel_rfl) (by kernel_rfl) ?_
                  refine Wk.rPure 1 (some 63) (.int .i64 0) rfl rfl (by kernel_rfl) (by kernel_rfl) ?_
                  refine Wk.rCall 2 (some 64) 12 [.tmp 62, .tmp 63] #[23, 3] [.pointer (some ⟨w.heap.size, 0, none⟩), .int .i64 0] rfl rfl (by kernel_rfl) rfl (by kernel_rfl) (by kernel_rfl) ?_
                  have hD15 := Mur.DskF.chg hD ch6 (fun s hs hl => trivial)
                  have hD16 := Mur.DskF.chg hD15 ch7 (fun s hs hl => ⟨by have := hM s hs; omega, trivial⟩)
                  refine (Clear_any w.heap.size (⟨⟨fb, fn⟩, ⟨[107, 101, 112, 116], 0⟩⟩ : Dk) F 0 W8 hD16).mono ?_
                  rw [show fE 0 = 0 from by decide]
                  rw [show Mur.Dk.clear (⟨⟨fb, fn⟩, ⟨[107, 101, 112, 116], 0⟩⟩ : Dk) 0 = (⟨⟨[], 0⟩, ⟨[107, 101, 112, 116], 0⟩⟩ : Dk) from rfl]
                  rintro _ W13 ⟨FF5, rfl, hD17, ch12, no4⟩
                  have hM5 := Mur.DskF.mem hD17
                  have zz13 := ch12.size
                  refine ⟨_, rfl, ?_⟩
                  refine Wk.rEnd 3 rfl ?_
                  refine Wk.inN ?_
                  refine Wk.nxt ?_
                  refine wp_seq ?_
                  refine Wk.reg ?_
                  refine Wk.rPure 0 (some 65) (.pointer (some ⟨w.heap.size, 0, none⟩)) rfl rfl (by kernel_rfl) (by kernel_rfl) ?_
                  refine Wk.rPure 1 (some 66) (.int .i64 0) rfl rfl (by kernel_rfl) (by kernel_rfl) ?_
                  refine Wk.rPure 2 (some 67) (.int .i64 1) rfl rfl (by kernel_rfl) (Wk.int64 (n := 1 - 0) (z := 1) (by omega) (by omega) (by omega) (by kernel_rfl)) ?_
                  refine Wk.rCall 3 (some 68) 13 [.tmp 65, .tmp 67] #[23, 3] [.pointer (some ⟨w.heap.size, 0, none⟩), .int .i64 1] rfl rfl (by kernel_rfl) rfl (by kernel_rfl) (by kernel_rfl) ?_
                  refine (Bytes_any w.heap.size (⟨⟨[], 0⟩, ⟨[107, 101, 112, 116], 0⟩⟩ : Dk) FF5 1 W13 hD17).mono ?_
                  rw [show Mur.Dk.bytes (⟨⟨[], 0⟩, ⟨[107, 101, 112, 116], 0⟩⟩ : Dk) 1 = [107, 101, 112, 116] from rfl]
                  rintro _ W14 ⟨vv3, rfl, HO3, ch13⟩
                  obtain ⟨AA3, nn3, rfl, hcc3, hmm4, hN3, HS3, hl3⟩ := Wk.own_sl HO3
                  have hB4 : Byt W14 AA3 ([107, 101, 112, 116]).length ([107, 101, 112, 116]) := by obtain ⟨_, _, e_, _, _, hq⟩ := Mur.own_byt HO3; cases e_; exact hq
                  have zz14 := ch13.size
                  refine ⟨_, rfl, ?_⟩
                  refine Wk.rPure 4 (some 69) (.string (Mur.str ([107, 101, 112, 116]))) rfl rfl (by kernel_rfl) (Mur.run_str 26 9 (.tmp 68) 5 rfl Try.underlying26 Try.underlying5 Try.underlying9 AA3 (([107, 101, 112, 116]).length) nn3 ([107, 101, 112, 116]) (by kernel_rfl) hB4) ?_
                  refine Wk.rPure 5 (some 70) (.bool false) rfl rfl (by kernel_rfl) (Wk.boolF (b := decide (([107, 101, 112, 116]) ≠ ([107, 101, 112, 116]))) (decide_eq_false (fun h => h rfl)) (Mur.strne 9 9 (.tmp 69) (.const (.string ({ data := #[107, 101, 112, 116] }))) rfl ([107, 101, 112, 116]) ([107, 101, 112, 116]) (by kernel_rfl) (by kernel_rfl))) ?_
                  refine Wk.rPure 6 (some 71) (.bool false) rfl rfl (by kernel_rfl) (by kernel_rfl) ?_
                  refine Wk.rPure 7 (some 72) (.pointer (some ⟨w.heap.size, 0, none⟩)) rfl rfl (by kernel_rfl) (by kernel_rfl) ?_
                  refine Wk.rPure 8 (some 73) (.int .i64 0) rfl rfl (by kernel_rfl) (by kernel_rfl) ?_
                  refine Wk.rPure 9 (some 74) (.int .i64 1) rfl rfl (by kernel_rfl) (Wk.int64 (n := 1 - 0) (z := 1) (by omega) (by omega) (by omega) (by kernel_rfl)) ?_
                  refine Wk.rCall 10 (some 75) 14 [.tmp 72, .tmp 74] #[23, 3] [.pointer (some ⟨w.heap.size, 0, none⟩), .int .i64 1] rfl rfl (by kernel_rfl) rfl (by kernel_rfl) (by kernel_rfl) ?_
                  have hD18 := Mur.DskF.chg hD17 ch13 (fun s hs hl => trivial)
                  refine (Synced_any w.heap.size (⟨⟨[], 0⟩, ⟨[107, 101, 112, 116], 0⟩⟩ : Dk) FF5 1 W14 hD18).mono ?_
                  rw [show Mur.Dk.synced (⟨⟨[], 0⟩, ⟨[107, 101, 112, 116], 0⟩⟩ : Dk) 1 = 0 from rfl]
                  rintro _ _ ⟨rfl, rfl⟩
                  refine ⟨_, rfl, ?_⟩
                  refine Wk.rPure 11 (some 76) (.bool false) rfl rfl (by kernel_rfl) (Wk.boolF (b := ((0 : Int) != (0 : Int))) (bne_eq_false_iff_eq.2 (by decide)) (by kernel_rfl)) ?_
                  refine Wk.rPure 12 (some 77) (.bool false) rfl rfl (by kernel_rfl) (by kernel_rfl) ?_
                  refine Wk.rEnd 13 rfl ?_
                  refine Wk.nxt ?_
                  refine wp_cond_false (by kernel_rfl) ?_
                  refine wp_skip ?_
                  refine Wk.inN ?_
                  refine Wk.nxt ?_
                  refine Wk.reg ?_
                  refine Wk.rPure 0 (some 78) (.int .i64 ((k + 1 : Nat) : Int)) rfl rfl (by kernel_rfl) (Wk.int64 (n := ((k : Nat) : Int) + 1) (z := ((k + 1 : Nat) : Int)) (by omega) (by omega) (by omega) (by kernel_rfl)) ?_
                  refine Wk.rPure 1 (some 38) (.int .i64 ((k + 1 : Nat) : Int)) rfl rfl (by kernel_rfl) (by kernel_rfl) ?_
                  refine Wk.rEnd 2 rfl ?_
                  refine Wk.nxt ?_
                  have kk17 := Wk.Chg.step HB ch6 trivial
                  have kk18 := Wk.Chg.step kk17 ch7 ⟨.inr (by omega), trivial⟩
                  have kk19 := Wk.Chg.step kk18 ch12 (Mur.newOr_iff.2 (fun t ht => .inr (by have := hM t ht; omega)))
                  have kk20 := Wk.Chg.step kk19 ch13 trivial
                  refine ⟨_, ?_, k + 1, [], 0, FF5, rfl, by kernel_rfl, (by omega), hD18, kk20⟩
                  · omega
                · refine Wk.rPure 0 (some 61) (.bool false) rfl rfl (by kernel_rfl) (Wk.boolF (b := (kd == (3 : Int))) (beq_eq_false_iff_ne.2 (by first | exact hx5 | omega)) (by kernel_rfl)) ?_
                  refine Wk.rPure 1 (some 60) (.bool false) rfl rfl (by kernel_rfl) (by kernel_rfl) ?_
                  refine Wk.rEnd 2 rfl ?_
                  refine Wk.nxt ?_
                  refine wp_cond_false (by kernel_rfl) ?_
                  refine wp_skip ?_
                  refine Wk.inN ?_
                  refine Wk.nxt ?_
                  refine wp_seq ?_
                  refine Wk.reg ?_
                  refine Wk.rPure 0 (some 65) (.pointer (some ⟨w.heap.size, 0, none⟩)) rfl rfl (by kernel_rfl) (by kernel_rfl) ?_
                  refine Wk.rPure 1 (some 66) (.int .i64 0) rfl rfl (by kernel_rfl) (by kernel_rfl) ?_
                  refine Wk.rPure 2 (some 67) (.int .i64 1) rfl rfl (by kernel_rfl) (Wk.int64 (n := 1 - 0) (z := 1) (by omega) (by omega) (by omega) (by kernel_rfl)) ?_
                  refine Wk.rCall 3 (some 68) 13 [.tmp 65, .tmp 67] #[23, 3] [.pointer (some ⟨w.heap.size, 0, none⟩), .int .i64 1] rfl rfl (by kernel_rfl) rfl (by kernel_rfl) (by kernel_rfl) ?_
                  have hD19 := Mur.DskF.chg hD ch6 (fun s hs hl => trivial)
                  have hD20 := Mur.DskF.chg hD19 ch7 (fun s hs hl => ⟨by have := hM s hs; omega, trivial⟩)
                  refine (Bytes_any w.heap.size (⟨⟨fb, fn⟩, ⟨[107, 101, 112, 116], 0⟩⟩ : Dk) F 1 W8 hD20).mono ?_
                  rw [show Mur.Dk.bytes (⟨⟨fb, fn⟩, ⟨[107, 101, 112, 116], 0⟩⟩ : Dk) 1 = [107, 101, 112, 116] from rfl]
                  rintro _ W15 ⟨vv4, rfl, HO4, ch14⟩
                  obtain ⟨AA4, nn4, rfl, hcc4, hmm5, hN4, HS4, hl4⟩ := Wk.own_sl HO4
                  have hB5 : Byt W15 AA4 ([107, 101, 112, 116]).length ([107, 101, 112, 116]) := by obtain ⟨_, _, e_, _, _, hq⟩ := Mur.own_byt HO4; cases e_; exact hq
                  have zz15 := ch14.size
                  refine ⟨_, rfl, ?_⟩
                  refine Wk.rPure 4 (some 69) (.string (Mur.str ([107, 101, 112, 116]))) rfl rfl (by kernel_rfl) (Mur.run_str 26 9 (.tmp 68) 5 rfl Try.underlying26 Try.underlying5 Try.underlying9 AA4 (([107, 101, 112, 116]).length) nn4 ([107, 101, 112, 116]) (by kernel_rfl) hB5) ?_
                  refine Wk.rPure 5 (some 70) (.bool false) rfl rfl (by kernel_rfl) (Wk.boolF (b := decide (([107, 101, 112, 116]) ≠ ([107, 101, 112, 116]))) (decide_eq_false (fun h => h rfl)) (Mur.strne 9 9 (.tmp 69) (.const (.string ({ data := #[107, 101, 112, 116] }))) rfl ([107, 101, 112, 116]) ([107, 101, 112, 116]) (by kernel_rfl) (by kernel_rfl))) ?_
                  refine Wk.rPure 6 (some 71) (.bool false) rfl rfl (by kernel_rfl) (by kernel_rfl) ?_
                  refine Wk.rPure 7 (some 72) (.pointer (some ⟨w.heap.size, 0, none⟩)) rfl rfl (by kernel_rfl) (by kernel_rfl) ?_
                  refine Wk.rPure 8 (some 73) (.int .i64 0) rfl rfl (by kernel_rfl) (by kernel_rfl) ?_
                  refine Wk.rPure 9 (some 74) (.int .i64 1) rfl rfl (by kernel_rfl) (Wk.int64 (n := 1 - 0) (z := 1) (by omega) (by omega) (by omega) (by kernel_rfl)) ?_
                  refine Wk.rCall 10 (some 75) 14 [.tmp 72, .tmp 74] #[23, 3] [.pointer (some ⟨w.heap.size, 0, none⟩), .int .i64 1] rfl rfl (by kernel_rfl) rfl (by kernel_rfl) (by kernel_rfl) ?_
                  have hD21 := Mur.DskF.chg hD20 ch14 (fun s hs hl => trivial)
                  refine (Synced_any w.heap.size (⟨⟨fb, fn⟩, ⟨[107, 101, 112, 116], 0⟩⟩ : Dk) F 1 W15 hD21).mono ?_
                  rw [show Mur.Dk.synced (⟨⟨fb, fn⟩, ⟨[107, 101, 112, 116], 0⟩⟩ : Dk) 1 = 0 from rfl]
                  rintro _ _ ⟨rfl, rfl⟩
                  refine ⟨_, rfl, ?_⟩
                  refine Wk.rPure 11 (some 76) (.bool false) rfl rfl (by kernel_rfl) (Wk.boolF (b := ((0 : Int) != (0 : Int))) (bne_eq_false_iff_eq.2 (by decide)) (by kernel_rfl)) ?_
                  refine Wk.rPure 12 (some 77) (.bool false) rfl rfl (by kernel_rfl) (by kernel_rfl) ?_
                  refine Wk.rEnd 13 rfl ?_
                  refine Wk.nxt ?_
                  refine wp_cond_false (by kernel_rfl) ?_
                  refine wp_skip ?_
                  refine Wk.inN ?_
                  refine Wk.nxt ?_
                  refine Wk.reg ?_
                  refine Wk.rPure 0 (some 78) (.int .i64 ((k + 1 : Nat) : Int)) rfl rfl (by kernel_rfl) (Wk.int64 (n := ((k : Nat) : Int) + 1) (z := ((k + 1 : Nat) : Int)) (by omega) (by omega) (by omega) (by kernel_rfl)) ?_
                  refine Wk.rPure 1 (some 38) (.int .i64 ((k + 1 : Nat) : Int)) rfl rfl (by kernel_rfl) (by kernel_rfl) ?_
                  refine Wk.rEnd 2 rfl ?_
                  refine Wk.nxt ?_
                  have kk21 := Wk.Chg.step HB ch6 trivial
                  have kk22 := Wk.Chg.step kk21 ch7 ⟨.inr (by omega), trivial⟩
                  have kk23 := Wk.Chg.step kk22 ch14 trivial
                  refine ⟨_, ?_, k + 1, fb, fn, F, rfl, by kernel_rfl, (by omega), hD21, kk23⟩
                  · omega
        · refine wp_seq ?_
          refine Wk.reg ?_
          refine Wk.rPure 0 (some 39) (.bool false) rfl rfl (by kernel_rfl) (Wk.boolF (b := decide (((k : Nat) : Int) < ((n : Nat) : Int))) (decide_eq_false (by omega)) (by kernel_rfl)) ?_
          refine Wk.rEnd 1 rfl ?_
          refine Wk.nxt ?_
          refine wp_seq ?_
          refine wp_cond_false (by kernel_rfl) ?_
          refine wp_exit ?_
          refine Wk.thX ?_
          refine Wk.thX ?_
          refine Wk.inX ?_
          refine Wk.nxt ?_
          refine wp_seq ?_
          refine Wk.reg ?_
          refine Wk.rCall 0 (some 79) 9 [] #[] [] rfl rfl (by kernel_rfl) rfl (by kernel_rfl) (by kernel_rfl) ?_
          refine (known_any W6).mono ?_
          rintro _ W16 ⟨rfl, hB6⟩
          have ch15 := Wk.Chg.ofBelow hB6
          have zz16 := ch15.size
          refine ⟨_, rfl, ?_⟩
          refine Wk.rPure 1 (some 4) (.bool true) rfl rfl (by kernel_rfl) (by kernel_rfl) ?_
          refine Wk.rEnd 2 rfl ?_
          refine Wk.nxt ?_
          refine wp_ret ?_
          have kk24 := Wk.Chg.step HB ch15 trivial
          refine Wk.ret (.bool true) rfl (by kernel_rfl) ?_
          exact ⟨rfl, Wk.Chg.below0 kk24⟩
  · by_cases hf1 : f = 1
    · subst hf1
      refine calls_of_wp Try.func4 rfl ?_
      refine wp_seq ?_
      refine Wk.reg ?_
      refine Wk.rPure 0 (some 4) (.bool false) rfl rfl (by kernel_rfl) (by kernel_rfl) ?_
      refine Wk.rEnd 1 rfl ?_
      refine Wk.nxt ?_
      refine wp_seq ?_
      refine Wk.reg ?_
      refine Wk.rCall 0 (some 8) 8 [] #[] [] rfl rfl (by kernel_rfl) rfl (by kernel_rfl) (by kernel_rfl) ?_
      refine (New_any w).mono ?_
      rintro _ W17 ⟨FF6, rfl, hD22, ch16⟩
      have hM6 := Mur.DskF.mem hD22
      have zz17 : w.heap.size < W17.heap.size := Mur.DskF.lt hD22
      have zz18 := ch16.size
      refine ⟨_, rfl, ?_⟩
      refine Wk.rPure 1 (some 5) (.pointer (some ⟨w.heap.size, 0, none⟩)) rfl rfl (by kernel_rfl) (by kernel_rfl) ?_
      refine Wk.rEnd 2 rfl ?_
      refine Wk.nxt ?_
      refine wp_seq ?_
      refine wp_seq ?_
      refine Wk.reg ?_
      refine Wk.rPure 0 (some 9) (.pointer (some ⟨w.heap.size, 0, none⟩)) rfl rfl (by kernel_rfl) (by kernel_rfl) ?_
      refine Wk.rPure 1 (some 10) (.bool false) rfl rfl (by kernel_rfl) (by kernel_rfl) ?_
      refine Wk.rPure 2 (some 11) (.bool false) rfl rfl (by kernel_rfl) (by kernel_rfl) ?_
      refine Wk.rPure 3 (some 12) (.slice A n c) rfl rfl (by kernel_rfl) (by kernel_rfl) ?_
      refine Wk.rPure 4 (some 13) (.int .i64 ((n : Nat) : Int)) rfl rfl (by kernel_rfl) (by kernel_rfl) ?_
      by_cases hx6 : ((n : Nat) : Int) > (60 : Int)
      · refine Wk.rPure 5 (some 14) (.bool true) rfl rfl (by kernel_rfl) (Wk.boolT (b := decide (((n : Nat) : Int) > (60 : Int))) (decide_eq_true (by first | exact hx6 | omega)) (by kernel_rfl)) ?_
        refine Wk.rPure 6 (some 15) (.bool true) rfl rfl (by kernel_rfl) (by kernel_rfl) ?_
        refine Wk.rPure 7 (some 16) (.bool true) rfl rfl (by kernel_rfl) (by kernel_rfl) ?_
        refine Wk.rPass 8 (some 17) rfl rfl (by kernel_rfl) ?_
        refine Wk.rPass 9 (some 18) rfl rfl (by kernel_rfl) ?_
        refine Wk.rPure 10 (some 19) (.bool true) rfl rfl (by kernel_rfl) (by kernel_rfl) ?_
        refine Wk.rPure 11 (some 20) (.bool true) rfl rfl (by kernel_rfl) (by kernel_rfl) ?_
        refine Wk.rPass 12 (some 21) rfl rfl (by kernel_rfl) ?_
        refine Wk.rPass 13 (some 22) rfl rfl (by kernel_rfl) ?_
        refine Wk.rPure 14 (some 23) (.bool true) rfl rfl (by kernel_rfl) (by kernel_rfl) ?_
        refine Wk.rEnd 15 rfl ?_
        refine Wk.nxt ?_
        refine wp_cond_true (by kernel_rfl) ?_
        refine wp_seq ?_
        refine Wk.reg ?_
        refine Wk.rPure 0 (some 24) (.pointer (some ⟨w.heap.size, 0, none⟩)) rfl rfl (by kernel_rfl) (by kernel_rfl) ?_
        refine Wk.rPure 1 (some 25) (.bool true) rfl rfl (by kernel_rfl) (by kernel_rfl) ?_
        refine Wk.rPure 2 (some 26) (.bool true) rfl rfl (by kernel_rfl) (by kernel_rfl) ?_
        refine Wk.rCall 3 (some 27) 9 [] #[] [] rfl rfl (by kernel_rfl) rfl (by kernel_rfl) (by kernel_rfl) ?_
        refine (known_any W17).mono ?_
        rintro _ W18 ⟨rfl, hB7⟩
        have ch17 := Wk.Chg.ofBelow hB7
        have zz19 := ch17.size
        refine ⟨_, rfl, ?_⟩
        refine Wk.rPure 4 (some 28) (.bool true) rfl rfl (by kernel_rfl) (by kernel_rfl) ?_
        refine Wk.rPure 5 (some 4) (.bool true) rfl rfl (by kernel_rfl) (by kernel_rfl) ?_
        refine Wk.rEnd 6 rfl ?_
        refine Wk.nxt ?_
        refine wp_ret ?_
        refine Wk.thR ?_
        have kk25 : Wk.Chg [] w W17 := Wk.Chg.step ((Wk.Chg.refl _).more (by simp)) ch16 trivial
        have kk26 := Wk.Chg.step kk25 ch17 trivial
        refine Wk.ret (.bool true) rfl (by kernel_rfl) ?_
        exact ⟨rfl, Wk.Chg.below0 kk26⟩
      · refine Wk.rPure 5 (some 14) (.bool false) rfl rfl (by kernel_rfl) (Wk.boolF (b := decide (((n : Nat) : Int) > (60 : Int))) (decide_eq_false (by first | exact hx6 | omega)) (by kernel_rfl)) ?_
        refine Wk.rPure 6 (some 15) (.bool false) rfl rfl (by kernel_rfl) (by kernel_rfl) ?_
        refine Wk.rPure 7 (some 16) (.bool false) rfl rfl (by kernel_rfl) (by kernel_rfl) ?_
        refine Wk.rPure 8 (some 17) (.int .i64 1) rfl rfl (by kernel_rfl) (by kernel_rfl) ?_
        refine Wk.rPure 9 (some 18) (.bool false) rfl rfl (by kernel_rfl) (Wk.boolF (b := decide ((1 : Int) < (0 : Int))) (decide_eq_false (by decide)) (by kernel_rfl)) ?_
        refine Wk.rPure 10 (some 19) (.bool false) rfl rfl (by kernel_rfl) (by kernel_rfl) ?_
        refine Wk.rPure 11 (some 20) (.bool false) rfl rfl (by kernel_rfl) (by kernel_rfl) ?_
        refine Wk.rPure 12 (some 21) (.int .i64 1) rfl rfl (by kernel_rfl) (by kernel_rfl) ?_
        refine Wk.rPure 13 (some 22) (.bool false) rfl rfl (by kernel_rfl) (Wk.boolF (b := decide ((1 : Int) > (1 : Int))) (decide_eq_false (by decide)) (by kernel_rfl)) ?_
        refine Wk.rPure 14 (some 23) (.bool false) rfl rfl (by kernel_rfl) (by kernel_rfl) ?_
        refine Wk.rEnd 15 rfl ?_
        refine Wk.nxt ?_
        refine wp_cond_false (by kernel_rfl) ?_
        refine wp_skip ?_
        refine Wk.nxt ?_
        refine wp_seq ?_
        refine wp_seq ?_
        refine Wk.reg ?_
        refine Wk.rPure 0 (some 29) (.pointer (some ⟨w.heap.size, 0, none⟩)) rfl rfl (by kernel_rfl) (by kernel_rfl) ?_
        refine Wk.rPure 1 (some 30) (.int .i64 1) rfl rfl (by kernel_rfl) (by kernel_rfl) ?_
        refine Wk.rPure 2 (some 31) (.int .i64 0) rfl rfl (by kernel_rfl) (Wk.int64 (n := 1 - 1) (z := 0) (by omega) (by omega) (by omega) (by kernel_rfl)) ?_
        refine Wk.rEx 3 (some 32) _ rfl rfl (by kernel_rfl) (Wk.new_ex (.slice (some ⟨W17.heap.size, 0, none⟩) 4 4) #[.int .u8 107, .int .u8 101, .int .u8 112, .int .u8 116] 5 (by kernel_rfl)) ?_
        rintro _ W19 ⟨rfl, hb5, ch18, sz3⟩
        have zz20 := ch18.size
        refine Wk.rEx 4 (some 33) _ rfl rfl (by kernel_rfl) (Mur.run_mark 26 (.tmp 32) 5 rfl Try.underlying26 Try.underlying5 W17.heap.size 4 4 #[.int .u8 107, .int .u8 101, .int .u8 112, .int .u8 116] (by kernel_rfl) hb5) ?_
        rintro _ W20 ⟨rfl, hb6, ch19⟩
        have zz21 := ch19.size
        refine Wk.rCall 5 (some 34) 10 [.tmp 29, .tmp 31, .tmp 33] #[23, 3, 26] [.pointer (some ⟨w.heap.size, 0, none⟩), .int .i64 0, .slice (some ⟨W17.heap.size, 0, none⟩) 4 4] rfl rfl (by kernel_rfl) rfl (by kernel_rfl) (by kernel_rfl) ?_
        have hD23 := Mur.DskF.chg hD22 ch18 (fun s hs hl => trivial)
        have hD24 := Mur.DskF.chg hD23 ch19 (fun s hs hl => ⟨by have := hM6 s hs; omega, trivial⟩)
        refine (Append_any w.heap.size Mur.Dk.new FF6 0 (some ⟨W17.heap.size, 0, none⟩) 4 4 ([107, 101, 112, 116]) W20 hD24 (Mur.byt_row [107, 101, 112, 116] hb6) (fun h => by cases h)).mono ?_
        rw [show Mur.Dk.appE Mur.Dk.new 0 4 = 0 from by decide]
        rw [show Mur.Dk.app Mur.Dk.new 0 [107, 101, 112, 116] = (⟨⟨[107, 101, 112, 116], 0⟩, ⟨[], 0⟩⟩ : Dk) from rfl]
        rintro _ W21 ⟨FF7, rfl, hD25, ch20, no5⟩
        have hM7 := Mur.DskF.mem hD25
        have zz22 := ch20.size
        refine ⟨_, rfl, ?_⟩
        refine Wk.rPure 6 (some 35) (.bool false) rfl rfl (by kernel_rfl) (Wk.boolF (b := ((0 : Int) != (0 : Int))) (bne_eq_false_iff_eq.2 (by decide)) (by kernel_rfl)) ?_
        refine Wk.rEnd 7 rfl ?_
        refine Wk.nxt ?_
        refine wp_cond_false (by kernel_rfl) ?_
        refine wp_skip ?_
        refine Wk.nxt ?_
        refine wp_seq ?_
        refine wp_seq ?_
        refine Wk.reg ?_
        refine Wk.rPure 0 (some 36) (.slice A n c) rfl rfl (by kernel_rfl) (by kernel_rfl) ?_
        refine Wk.rPure 1 (some 37) (.int .i64 ((n : Nat) : Int)) rfl rfl (by kernel_rfl) (by kernel_rfl) ?_
        refine Wk.rPure 2 (some 38) (.int .i64 0) rfl rfl (by kernel_rfl) (by kernel_rfl) ?_
        refine Wk.rEnd 3 rfl ?_
        refine Wk.nxt ?_
        refine wp_block ?_
        refine Wk.loop (fun m_ a wr => ∃ (k : Nat) (fb : List UInt8) (fn : Nat) (F : List Nat), m_ = n - k ∧ a = Apart_F2 a.tmps (.int .i64 1) (.pointer (some ⟨w.heap.size, 0, none⟩)) (.slice A n c) (.int .i64 ((n : Nat) : Int)) (.int .i64 ((k : Nat) : Int)) ∧ k ≤ n ∧ DskF 5 51 wr w.heap.size (⟨⟨[107, 101, 112, 116], 0⟩, ⟨fb, fn⟩⟩ : Dk) F ∧ Wk.Chg [] w wr) (n - 0) ?_ ?_
        · have kk27 : Wk.Chg [] w W17 := Wk.Chg.step ((Wk.Chg.refl _).more (by simp)) ch16 trivial
          have kk28 := Wk.Chg.step kk27 ch18 trivial
          have kk29 := Wk.Chg.step kk28 ch19 ⟨.inr (by omega), trivial⟩
          have kk30 := Wk.Chg.step kk29 ch20 (Mur.newOr_iff.2 (fun t ht => .inr (by have := hM6 t ht; omega)))
          refine ⟨0, [], 0, FF7, rfl, by kernel_rfl, Nat.zero_le _, hD25, kk30⟩
        · rintro mm2 aa2 W22 ⟨k, fb, fn, F, hmm6, hF2, hk, hD, HB⟩
          generalize aa2.tmps = bb2 at hF2
          subst hF2
          have hM := Mur.DskF.mem hD
          have hsz := Mur.DskF.lt hD
          by_cases hlt : k < n
          · obtain ⟨g, off, kd, fx, B, mb, cb, bs, k0, k1, rfl, hg, q, hb, hbc, hbm, hbn⟩ := HL.out.at hlt
            refine wp_seq ?_
            refine Wk.reg ?_
            refine Wk.rPure 0 (some 39) (.bool true) rfl rfl (by kernel_rfl) (Wk.boolT (b := decide (((k : Nat) : Int) < ((n : Nat) : Int))) (decide_eq_true (by omega)) (by kernel_rfl)) ?_
            refine Wk.rEnd 1 rfl ?_
            refine Wk.nxt ?_
            refine wp_seq ?_
            refine wp_cond_true (by kernel_rfl) ?_
            refine wp_skip ?_
            refine Wk.nxt ?_
            refine wp_seq ?_
            refine wp_block ?_
            refine wp_seq ?_
            refine Wk.reg ?_
            refine Wk.rPure 0 (some 40) (.pointer (some ⟨g, off + k * 5, none⟩)) rfl rfl (by kernel_rfl) (Wk.index_sl 22 29 (.tmp 36) (.tmp 38) rfl Try.underlying22 5 (by kernel_rfl) g off n c k .i64 (by kernel_rfl) (by kernel_rfl) (by omega)) ?_
            refine Wk.rPure 1 (some 41) (.agg #[.int .i64 kd, .int .i64 fx, .slice B mb cb, .int .i64 k0, .int .i64 k1]) rfl rfl (by kernel_rfl) (Wk.loadR 29 (.tmp 40) rfl _ Try.underlying29 rfl g (off + k * 5) (by kernel_rfl) ([.int .i64 kd, .int .i64 fx, .slice B mb cb, .int .i64 k0, .int .i64 k1]) (by kernel_rfl) (Wk.Chg.range HB q trivial)) ?_
            refine Wk.rEx 2 (some 7) _ rfl rfl (by kernel_rfl) (Wk.new_ex (.pointer (some ⟨W22.heap.size, 0, none⟩)) #[.int .i64 0, .int .i64 0, .slice none 0 0, .int .i64 0, .int .i64 0] 29 (by kernel_rfl)) ?_
            rintro _ W23 ⟨rfl, hb7, ch21, sz4⟩
            have zz23 := ch21.size
            refine Wk.rExS 3 none _ rfl rfl (by kernel_rfl) (Wk.storeR 29 (.tmp 7) (.tmp 41) rfl W22.heap.size 0 (by kernel_rfl) ([.int .i64 kd, .int .i64 fx, .slice B mb cb, .int .i64 k0, .int .i64 k1]) (by kernel_rfl) (by kernel_rfl) (by intro v hv; simp at hv; rcases hv with h | h | h | h | h <;> (subst h; rfl)) 29 ([.int .i64 0, .int .i64 0, .slice none 0 0, .int .i64 0, .int .i64 0]) hb7 (by simp)) ?_
            rintro W24 ⟨hb8, ch22⟩
            replace hb8 : W24.heap[W22.heap.size]? = some (.cells #[.int .i64 kd, .int .i64 fx, .slice B mb cb, .int .i64 k0, .int .i64 k1] 29 (0, 0)) := hb8
            have zz24 := ch22.size
            refine Wk.rEnd 4 rfl ?_
            refine Wk.nxt ?_
            refine wp_seq ?_
            refine wp_seq ?_
            refine Wk.reg ?_
            refine Wk.rPure 0 (some 42) (.pointer (some ⟨W22.heap.size, 2, none⟩)) rfl rfl (by kernel_rfl) (by kernel_rfl) ?_
            refine Wk.rPure 1 (some 43) (.slice B mb cb) rfl rfl (by kernel_rfl) (Wk.load1 26 (.tmp 42) rfl (by kernel_rfl) ⟨W22.heap.size, 2, none⟩ (by kernel_rfl) (.slice B mb cb) ((cell_of_row _ _ 2 _ _ _ hb8).trans rfl)) ?_
            refine Wk.rPure 2 (some 44) (.int .i64 ((mb : Nat) : Int)) rfl rfl (by kernel_rfl) (by kernel_rfl) ?_
            by_cases hx7 : ((mb : Nat) : Int) > (1000 : Int)
            · refine Wk.rPure 3 (some 45) (.bool true) rfl rfl (by kernel_rfl) (Wk.boolT (b := decide (((mb : Nat) : Int) > (1000 : Int))) (decide_eq_true (by first | exact hx7 | omega)) (by kernel_rfl)) ?_
              refine Wk.rEnd 4 rfl ?_
              refine Wk.nxt ?_
              refine wp_cond_true (by kernel_rfl) ?_
              refine wp_exit ?_
              refine Wk.thX ?_
              refine Wk.inX ?_
              refine Wk.nxt ?_
              refine Wk.reg ?_
              refine Wk.rPure 0 (some 78) (.int .i64 ((k + 1 : Nat) : Int)) rfl rfl (by kernel_rfl) (Wk.int64 (n := ((k : Nat) : Int) + 1) (z := ((k + 1 : Nat) : Int)) (by omega) (by omega) (by omega) (by kernel_rfl)) ?_
              refine Wk.rPure 1 (some 38) (.int .i64 ((k + 1 : Nat) : Int)) rfl rfl (by kernel_rfl) (by kernel_rfl) ?_
              refine Wk.rEnd 2 rfl ?_
              refine Wk.nxt ?_
              have hD26 := Mur.DskF.chg hD ch21 (fun s hs hl => trivial)
              have hD27 := Mur.DskF.chg hD26 ch22 (fun s hs hl => ⟨by have := hM s hs; omega, trivial⟩)
              have kk31 := Wk.Chg.step HB ch21 trivial
              have kk32 := Wk.Chg.step kk31 ch22 ⟨.inr (by omega), trivial⟩
              refine ⟨_, ?_, k + 1, fb, fn, F, rfl, by kernel_rfl, (by omega), hD27, kk32⟩
              · omega
            · refine Wk.rPure 3 (some 45) (.bool false) rfl rfl (by kernel_rfl) (Wk.boolF (b := decide (((mb : Nat) : Int) > (1000 : Int))) (decide_eq_false (by first | exact hx7 | omega)) (by kernel_rfl)) ?_
              refine Wk.rEnd 4 rfl ?_
              refine Wk.nxt ?_
              refine wp_cond_false (by kernel_rfl) ?_
              refine wp_skip ?_
              refine Wk.nxt ?_
              refine wp_seq ?_
              refine wp_seq ?_
              refine Wk.reg ?_
              refine Wk.rPure 0 (some 46) (.pointer (some ⟨W22.heap.size, 0, none⟩)) rfl rfl (by kernel_rfl) (by kernel_rfl) ?_
              refine Wk.rPure 1 (some 47) (.int .i64 kd) rfl rfl (by kernel_rfl) (Wk.load1 3 (.tmp 46) rfl (by kernel_rfl) ⟨W22.heap.size, 0, none⟩ (by kernel_rfl) (.int .i64 kd) ((cell_of_row _ _ 0 _ _ _ hb8).trans rfl)) ?_
              refine Wk.rEnd 2 rfl ?_
              refine Wk.nxt ?_
              refine wp_block ?_
              refine wp_seq ?_
              refine Wk.reg ?_
              by_cases hx8 : kd = (1 : Int)
              · refine Wk.rPure 0 (some 49) (.bool true) rfl rfl (by kernel_rfl) (Wk.boolT (b := (kd == (1 : Int))) (beq_iff_eq.2 (by first | exact hx8 | omega)) (by kernel_rfl)) ?_
                refine Wk.rPure 1 (some 48) (.bool true) rfl rfl (by kernel_rfl) (by kernel_rfl) ?_
                refine Wk.rEnd 2 rfl ?_
                refine Wk.nxt ?_
                refine wp_cond_true (by kernel_rfl) ?_
                refine Wk.reg ?_
                refine Wk.rPure 0 (some 50) (.pointer (some ⟨w.heap.size, 0, none⟩)) rfl rfl (by kernel_rfl) (by kernel_rfl) ?_
                refine Wk.rPure 1 (some 51) (.int .i64 1) rfl rfl (by kernel_rfl) (by kernel_rfl) ?_
                refine Wk.rPure 2 (some 52) (.pointer (some ⟨W22.heap.size, 2, none⟩)) rfl rfl (by kernel_rfl) (by kernel_rfl) ?_
                refine Wk.rPure 3 (some 53) (.slice B mb cb) rfl rfl (by kernel_rfl) (Wk.load1 26 (.tmp 52) rfl (by kernel_rfl) ⟨W22.heap.size, 2, none⟩ (by kernel_rfl) (.slice B mb cb) ((cell_of_row _ _ 2 _ _ _ hb8).trans rfl)) ?_
                refine Wk.rCall 4 (some 54) 10 [.tmp 50, .tmp 51, .tmp 53] #[23, 3, 26] [.pointer (some ⟨w.heap.size, 0, none⟩), .int .i64 1, .slice B mb cb] rfl rfl (by kernel_rfl) rfl (by kernel_rfl) (by kernel_rfl) ?_
                have hD28 := Mur.DskF.chg hD ch21 (fun s hs hl => trivial)
                have hD29 := Mur.DskF.chg hD28 ch22 (fun s hs hl => ⟨by have := hM s hs; omega, trivial⟩)
                have kk33 := Wk.Chg.step HB ch21 trivial
                have kk34 := Wk.Chg.step kk33 ch22 ⟨.inr (by omega), trivial⟩
                obtain ⟨fb2, fn2, ed2⟩ := Mur.app_keep1 ⟨[107, 101, 112, 116], 0⟩ ⟨fb, fn⟩ bs
                refine (Append_any w.heap.size (⟨⟨[107, 101, 112, 116], 0⟩, ⟨fb, fn⟩⟩ : Dk) F 1 B mb cb bs W24 hD29 (Mur.byt_chg hb kk34 (fun g off e hl => trivial)) hbn).mono ?_
                rw [ed2]
                rintro _ W25 ⟨FF8, rfl, hD30, ch23, no6⟩
                have hM8 := Mur.DskF.mem hD30
                have zz25 := ch23.size
                refine ⟨_, rfl, ?_⟩
                refine Wk.rEnd 5 rfl ?_
                refine Wk.inN ?_
                refine Wk.nxt ?_
                refine wp_seq ?_
                refine Wk.reg ?_
                refine Wk.rPure 0 (some 65) (.pointer (some ⟨w.heap.size, 0, none⟩)) rfl rfl (by kernel_rfl) (by kernel_rfl) ?_
                refine Wk.rPure 1 (some 66) (.int .i64 1) rfl rfl (by kernel_rfl) (by kernel_rfl) ?_
                refine Wk.rPure 2 (some 67) (.int .i64 0) rfl rfl (by kernel_rfl) (Wk.int64 (n := 1 - 1) (z := 0) (by omega) (by omega) (by omega) (by kernel_rfl)) ?_
                refine Wk.rCall 3 (some 68) 13 [.tmp 65, .tmp 67] #[23, 3] [.pointer (some ⟨w.heap.size, 0, none⟩), .int .i64 0] rfl rfl (by kernel_rfl) rfl (by kernel_rfl) (by kernel_rfl) ?_
                refine (Bytes_any w.heap.size (⟨⟨[107, 101, 112, 116], 0⟩, ⟨fb2, fn2⟩⟩ : Dk) FF8 0 W25 hD30).mono ?_
                rw [show Mur.Dk.bytes (⟨⟨[107, 101, 112, 116], 0⟩, ⟨fb2, fn2⟩⟩ : Dk) 0 = [107, 101, 112, 116] from rfl]
                rintro _ W26 ⟨vv5, rfl, HO5, ch24⟩
                obtain ⟨AA5, nn5, rfl, hcc5, hmm7, hN5, HS5, hl5⟩ := Wk.own_sl HO5
                have hB8 : Byt W26 AA5 ([107, 101, 112, 116]).length ([107, 101, 112, 116]) := by obtain ⟨_, _, e_, _, _, hq⟩ := Mur.own_byt HO5; cases e_; exact hq
                have zz26 := ch24.size
                refine ⟨_, rfl, ?_⟩
                refine Wk.rPure 4 (some 69) (.string (Mur.str ([107, 101, 112, 116]))) rfl rfl (by kernel_rfl) (Mur.run_str 26 9 (.tmp 68) 5 rfl Try.underlying26 Try.underlying5 Try.underlying9 AA5 (([107, 101, 112, 116]).length) nn5 ([107, 101, 112, 116]) (by kernel_rfl) hB8) ?_
                refine Wk.rPure 5 (some 70) (.bool false) rfl rfl (by kernel_rfl) (Wk.boolF (b := decide (([107, 101, 112, 116]) ≠ ([107, 101, 112, 116]))) (decide_eq_false (fun h => h rfl)) (Mur.strne 9 9 (.tmp 69) (.const (.string ({ data := #[107, 101, 112, 116] }))) rfl ([107, 101, 112, 116]) ([107, 101, 112, 116]) (by kernel_rfl) (by kernel_rfl))) ?_
                refine Wk.rPure 6 (some 71) (.bool false) rfl rfl (by kernel_rfl) (by kernel_rfl) ?_
                refine Wk.rPure 7 (some 72) (.pointer (some ⟨w.heap.size, 0, none⟩)) rfl rfl (by kernel_rfl) (by kernel_rfl) ?_
                refine Wk.rPure 8 (some 73) (.int .i64 1) rfl rfl (by kernel_rfl) (by kernel_rfl) ?_
                refine Wk.rPure 9 (some 74) (.int .i64 0) rfl rfl (by kernel_rfl) (Wk.int64 (n := 1 - 1) (z := 0) (by omega) (by omega) (by omega) (by kernel_rfl)) ?_
                refine Wk.rCall 10 (some 75) 14 [.tmp 72, .tmp 74] #[23, 3] [.pointer (some ⟨w.heap.size, 0, none⟩), .int .i64 0] rfl rfl (by kernel_rfl) rfl (by kernel_rfl) (by kernel_rfl) ?_
                have hD31 := Mur.DskF.chg hD30 ch24 (fun s hs hl => trivial)
                refine (Synced_any w.heap.size (⟨⟨[107, 101, 112, 116], 0⟩, ⟨fb2, fn2⟩⟩ : Dk) FF8 0 W26 hD31).mono ?_
                rw [show Mur.Dk.synced (⟨⟨[107, 101, 112, 116], 0⟩, ⟨fb2, fn2⟩⟩ : Dk) 0 = 0 from rfl]
                rintro _ _ ⟨rfl, rfl⟩
                refine ⟨_, rfl, ?_⟩
                refine Wk.rPure 11 (some 76) (.bool false) rfl rfl (by kernel_rfl) (Wk.boolF (b := ((0 : Int) != (0 : Int))) (bne_eq_false_iff_eq.2 (by decide)) (by kernel_rfl)) ?_
                refine Wk.rPure 12 (some 77) (.bool false) rfl rfl (by kernel_rfl) (by kernel_rfl) ?_
                refine Wk.rEnd 13 rfl ?_
                refine Wk.nxt ?_
                refine wp_cond_false (by kernel_rfl) ?_
                refine wp_skip ?_
                refine Wk.inN ?_
                refine Wk.nxt ?_
                refine Wk.reg ?_
                refine Wk.rPure 0 (some 78) (.int .i64 ((k + 1 : Nat) : Int)) rfl rfl (by kernel_rfl) (Wk.int64 (n := ((k : Nat) : Int) + 1) (z := ((k + 1 : Nat) : Int)) (by omega) (by omega) (by omega) (by kernel_rfl)) ?_
                refine Wk.rPure 1 (some 38) (.int .i64 ((k + 1 : Nat) : Int)) rfl rfl (by kernel_rfl) (by kernel_rfl) ?_
                refine Wk.rEnd 2 rfl ?_
                refine Wk.nxt ?_
                have kk35 := Wk.Chg.step kk34 ch23 (Mur.newOr_iff.2 (fun t ht => .inr (by have := hM t ht; omega)))
                have kk36 := Wk.Chg.step kk35 ch24 trivial
                refine ⟨_, ?_, k + 1, fb2, fn2, FF8, rfl, by kernel_rfl, (by omega), hD31, kk36⟩
                · omega
              · refine Wk.rPure 0 (some 49) (.bool false) rfl rfl (by kernel_rfl) (Wk.boolF (b := (kd == (1 : Int))) (beq_eq_false_iff_ne.2 (by first | exact hx8 | omega)) (by kernel_rfl)) ?_
                refine Wk.rPure 1 (some 48) (.bool false) rfl rfl (by kernel_rfl) (by kernel_rfl) ?_
                refine Wk.rEnd 2 rfl ?_
                refine Wk.nxt ?_
                refine wp_cond_false (by kernel_rfl) ?_
                refine wp_seq ?_
                refine Wk.reg ?_
                by_cases hx9 : kd = (2 : Int)
                · refine Wk.rPure 0 (some 56) (.bool true) rfl rfl (by kernel_rfl) (Wk.boolT (b := (kd == (2 : Int))) (beq_iff_eq.2 (by first | exact hx9 | omega)) (by kernel_rfl)) ?_
                  refine Wk.rPure 1 (some 55) (.bool true) rfl rfl (by kernel_rfl) (by kernel_rfl) ?_
                  refine Wk.rEnd 2 rfl ?_
                  refine Wk.nxt ?_
                  refine wp_cond_true (by kernel_rfl) ?_
                  refine Wk.reg ?_
                  refine Wk.rPure 0 (some 57) (.pointer (some ⟨w.heap.size, 0, none⟩)) rfl rfl (by kernel_rfl) (by kernel_rfl) ?_
                  refine Wk.rPure 1 (some 58) (.int .i64 1) rfl rfl (by kernel_rfl) (by kernel_rfl) ?_
                  refine Wk.rCall 2 (some 59) 11 [.tmp 57, .tmp 58] #[23, 3] [.pointer (some ⟨w.heap.size, 0, none⟩), .int .i64 1] rfl rfl (by kernel_rfl) rfl (by kernel_rfl) (by kernel_rfl) ?_
                  have hD32 := Mur.DskF.chg hD ch21 (fun s hs hl => trivial)
                  have hD33 := Mur.DskF.chg hD32 ch22 (fun s hs hl => ⟨by have := hM s hs; omega, trivial⟩)
                  refine (Sync_any w.heap.size (⟨⟨[107, 101, 112, 116], 0⟩, ⟨fb, fn⟩⟩ : Dk) F 1 W24 hD33).mono ?_
                  rw [show fE 1 = 0 from by decide]
                  rw [show Mur.Dk.sync (⟨⟨[107, 101, 112, 116], 0⟩, ⟨fb, fn⟩⟩ : Dk) 1 = (⟨⟨[107, 101, 112, 116], 0⟩, ⟨fb, fb.length⟩⟩ : Dk) from rfl]
                  rintro _ W27 ⟨FF9, rfl, hD34, ch25, no7⟩
                  have hM9 := Mur.DskF.mem hD34
                  have zz27 := ch25.size
                  refine ⟨_, rfl, ?_⟩
                  refine Wk.rEnd 3 rfl ?_
                  refine Wk.inN ?_
                  refine Wk.nxt ?_
                  refine wp_seq ?_
                  refine Wk.reg ?_
                  refine Wk.rPure 0 (some 65) (.pointer (some ⟨w.heap.size, 0, none⟩)) rfl rfl (by kernel_rfl) (by kernel_rfl) ?_
                  refine Wk.rPure 1 (some 66) (.int .i64 1) rfl rfl (by kernel_rfl) (by kernel_rfl) ?_
                  refine Wk.rPure 2 (some 67) (.int .i64 0) rfl rfl (by kernel_rfl) (Wk.int64 (n := 1 - 1) (z := 0) (by omega) (by omega) (by omega) (by kernel_rfl)) ?_
                  refine Wk.rCall 3 (some 68) 13 [.tmp 65, .tmp 67] #[23, 3] [.pointer (some ⟨w.heap.size, 0, none⟩), .int .i64 0] rfl rfl (by kernel_rfl) rfl (by kernel_rfl) (by kernel_rfl) ?_
                  refine (Bytes_any w.heap.size (⟨⟨[107, 101, 112, 116], 0⟩, ⟨fb, fb.length⟩⟩ : Dk) FF9 0 W27 hD34).mono ?_
                  rw [show Mur.Dk.bytes (⟨⟨[107, 101, 112, 116], 0⟩, ⟨fb, fb.length⟩⟩ : Dk) 0 = [107, 101, 112, 116] from rfl]
                  rintro _ W28 ⟨vv6, rfl, HO6, ch26⟩
                  obtain ⟨AA6, nn6, rfl, hcc6, hmm8, hN6, HS6, hl6⟩ := Wk.own_sl HO6
                  have hB9 : Byt W28 AA6 ([107, 101, 112, 116]).length ([107, 101, 112, 116]) := by obtain ⟨_, _, e_, _, _, hq⟩ := Mur.own_byt HO6; cases e_; exact hq
                  have zz28 := ch26.size
                  refine ⟨_, rfl, ?_⟩
                  refine Wk.rPure 4 (some 69) (.string (Mur.str ([107, 101, 112, 116]))) rfl rfl (by kernel_rfl) (Mur.run_str 26 9 (.tmp 68) 5 rfl Try.underlying26 Try.underlying5 Try.underlying9 AA6 (([107, 101, 112, 116]).length) nn6 ([107, 101, 112, 116]) (by kernel_rfl) hB9) ?_
                  refine Wk.rPure 5 (some 70) (.bool false) rfl rfl (by kernel_rfl) (Wk.boolF (b := decide (([107, 101, 112, 116]) ≠ ([107, 101, 112, 116]))) (decide_eq_false (fun h => h rfl)) (Mur.strne 9 9 (.tmp 69) (.const (.string ({ data := #[107, 101, 112, 116] }))) rfl ([107, 101, 112, 116]) ([107, 101, 112, 116]) (by kernel_rfl) (by kernel_rfl))) ?_
                  refine Wk.rPure 6 (some 71) (.bool false) rfl rfl (by kernel_rfl) (by kernel_rfl) ?_
                  refine Wk.rPure 7 (some 72) (.pointer (some ⟨w.heap.size, 0, none⟩)) rfl rfl (by kernel_rfl) (by kernel_rfl) ?_
                  refine Wk.rPure 8 (some 73) (.int .i64 1) rfl rfl (by kernel_rfl) (by kernel_rfl) ?_
                  refine Wk.rPure 9 (some 74) (.int .i64 0) rfl rfl (by kernel_rfl) (Wk.int64 (n := 1 - 1) (z := 0) (by omega) (by omega) (by omega) (by kernel_rfl)) ?_
                  refine Wk.rCall 10 (some 75) 14 [.tmp 72, .tmp 74] #[23, 3] [.pointer (some ⟨w.heap.size, 0, none⟩), .int .i64 0] rfl rfl (by kernel_rfl) rfl (by kernel_rfl) (by kernel_rfl) ?_
                  have hD35 := Mur.DskF.chg hD34 ch26 (fun s hs hl => trivial)
                  refine (Synced_any w.heap.size (⟨⟨[107, 101, 112, 116], 0⟩, ⟨fb, fb.length⟩⟩ : Dk) FF9 0 W28 hD35).mono ?_
                  rw [show Mur.Dk.synced (⟨⟨[107, 101, 112, 116], 0⟩, ⟨fb, fb.length⟩⟩ : Dk) 0 = 0 from rfl]
                  rintro _ _ ⟨rfl, rfl⟩
                  refine ⟨_, rfl, ?_⟩
                  refine Wk.rPure 11 (some 76) (.bool false) rfl rfl (by kernel_rfl) (Wk.boolF (b := ((0 : Int) != (0 : Int))) (bne_eq_false_iff_eq.2 (by decide)) (by kernel_rfl)) ?_
                  refine Wk.rPure 12 (some 77) (.bool false) rfl rfl (by kernel_rfl) (by kernel_rfl) ?_
                  refine Wk.rEnd 13 rfl ?_
                  refine Wk.nxt ?_
                  refine wp_cond_false (by kernel_rfl) ?_
                  refine wp_skip ?_
                  refine Wk.inN ?_
                  refine Wk.nxt ?_
                  refine Wk.reg ?_
                  refine Wk.rPure 0 (some 78) (.int .i64 ((k + 1 : Nat) : Int)) rfl rfl (by kernel_rfl) (Wk.int64 (n := ((k : Nat) : Int) + 1) (z := ((k + 1 : Nat) : Int)) (by omega) (by omega) (by omega) (by kernel_rfl)) ?_
                  refine Wk.rPure 1 (some 38) (.int .i64 ((k + 1 : Nat) : Int)) rfl rfl (by kernel_rfl) (by kernel_rfl) ?_
                  refine Wk.rEnd 2 rfl ?_
                  refine Wk.nxt ?_
                  have kk37 := Wk.Chg.step HB ch21 trivial
                  have kk38 := Wk.Chg.step kk37 ch22 ⟨.inr (by omega), trivial⟩
                  have kk39 := Wk.Chg.step kk38 ch25 (Mur.newOr_iff.2 (fun t ht => .inr (by have := hM t ht; omega)))
                  have kk40 := Wk.Chg.step kk39 ch26 trivial
                  refine ⟨_, ?_, k + 1, fb, fb.length, FF9, rfl, by kernel_rfl, (by omega), hD35, kk40⟩
                  · omega
                · refine Wk.rPure 0 (some 56) (.bool false) rfl rfl (by kernel_rfl) (Wk.boolF (b := (kd == (2 : Int))) (beq_eq_false_iff_ne.2 (by first | exact hx9 | omega)) (by kernel_rfl)) ?_
                  refine Wk.rPure 1 (some 55) (.bool false) rfl rfl (by kernel_rfl) (by kernel_rfl) ?_
                  refine Wk.rEnd 2 rfl ?_
                  refine Wk.nxt ?_
                  refine wp_cond_false (by kernel_rfl) ?_
                  refine wp_seq ?_
                  refine Wk.reg ?_
                  by_cases hx10 : kd = (3 : Int)
                  · refine Wk.rPure 0 (some 61) (.bool true) rfl rfl (by kernel_rfl) (Wk.boolT (b := (kd == (3 : Int))) (beq_iff_eq.2 (by first | exact hx10 | omega)) (by kernel_rfl)) ?_
                    refine Wk.rPure 1 (some 60) (.bool true) rfl rfl (by kernel_rfl) (by kernel_rfl) ?_
                    refine Wk.rEnd 2 rfl ?_
                    refine Wk.nxt ?_
                    refine wp_cond_true (by kernel_rfl) ?_
                    refine Wk.reg ?_
                    refine Wk.rPure 0 (some 62) (.pointer (some ⟨w.heap.size, 0, none⟩)) rfl rfl (by kernel_rfl) (by kernel_rfl) ?_
                    refine Wk.rPure 1 (some 63) (.int .i64 1) rfl rfl (by kernel_rfl) (by kernel_rfl) ?_
                    refine Wk.rCall 2 (some 64) 12 [.tmp 62, .tmp 63] #[23, 3] [.pointer (some ⟨w.heap.size, 0, none⟩), .int .i64 1] rfl rfl (by kernel_rfl) rfl (by kernel_rfl) (by kernel_rfl) ?_
                    have hD36 := Mur.DskF.chg hD ch21 (fun s hs hl => trivial)
                    have hD37 := Mur.DskF.chg hD36 ch22 (fun s hs hl => ⟨by have := hM s hs; omega, trivial⟩)
                    refine (Clear_any w.heap.size (⟨⟨[107, 101, 112, 116], 0⟩, ⟨fb, fn⟩⟩ : Dk) F 1 W24 hD37).mono ?_
                    rw [show fE 1 = 0 from by decide]
                    rw [show Mur.Dk.clear (⟨⟨[107, 101, 112, 116], 0⟩, ⟨fb, fn⟩⟩ : Dk) 1 = (⟨⟨[107, 101, 112, 116], 0⟩, ⟨[], 0⟩⟩ : Dk) from rfl]
                    rintro _ W29 ⟨FF10, rfl, hD38, ch27, no8⟩
                    have hM10 := Mur.DskF.mem hD38
                    have zz29 := ch27.size
                    refine ⟨_, rfl, ?_⟩
                    refine Wk.rEnd 3 rfl ?_
                    refine Wk.inN ?_
                    refine Wk.nxt ?_
                    refine wp_seq ?_
                    refine Wk.reg ?_
                    refine Wk.rPure 0 (some 65) (.pointer (some ⟨w.heap.size, 0, none⟩)) rfl rfl (by kernel_rfl) (by kernel_rfl) ?_
                    refine Wk.rPure 1 (some 66) (.int .i64 1) rfl rfl (by kernel_rfl) (by kernel_rfl) ?_
                    refine Wk.rPure 2 (some 67) (.int .i64 0) rfl rfl (by kernel_rfl) (Wk.int64 (n := 1 - 1) (z := 0) (by omega) (by omega) (by omega) (by kernel_rfl)) ?_
                    refine Wk.rCall 3 (some 68) 13 [.tmp 65, .tmp 67] #[23, 3] [.pointer (some ⟨w.heap.size, 0, none⟩), .int .i64 0] rfl rfl (by kernel_rfl) rfl (by kernel_rfl) (by kernel_rfl) ?_
                    refine (Bytes_any w.heap.size (⟨⟨[107, 101, 112, 116], 0⟩, ⟨[], 0⟩⟩ : Dk) FF10 0 W29 hD38).mono ?_
                    rw [show Mur.Dk.bytes (⟨⟨[107, 101, 112, 116], 0⟩, ⟨[], 0⟩⟩ : Dk) 0 = [107, 101, 112, 116] from rfl]
                    rintro _ W30 ⟨vv7, rfl, HO7, ch28⟩
                    obtain ⟨AA7, nn7, rfl, hcc7, hmm9, hN7, HS7, hl7⟩ := Wk.own_sl HO7
                    have hB10 : Byt W30 AA7 ([107, 101, 112, 116]).length ([107, 101, 112, 116]) := by obtain ⟨_, _, e_, _, _, hq⟩ := Mur.own_byt HO7; cases e_; exact hq
                    have zz30 := ch28.size
                    refine ⟨_, rfl, ?_⟩
                    refine Wk.rPure 4 (some 69) (.string (Mur.str ([107, 101, 112, 116]))) rfl rfl (by kernel_rfl) (Mur.run_str 26 9 (.tmp 68) 5 rfl Try.underlying26 Try.underlying5 Try.underlying9 AA7 (([107, 101, 112, 116]).length) nn7 ([107, 101, 112, 116]) (by kernel_rfl) hB10) ?_
                    refine Wk.rPure 5 (some 70) (.bool false) rfl rfl (by kernel_rfl) (Wk.boolF (b := decide (([107, 101, 112, 116]) ≠ ([107, 101, 112, 116]))) (decide_eq_false (fun h => h rfl)) (Mur.strne 9 9 (.tmp 69) (.const (.string ({ data := #[107, 101, 112, 116] }))) rfl ([107, 101, 112, 116]) ([107, 101, 112, 116]) (by kernel_rfl) (by kernel_rfl))) ?_
                    refine Wk.rPure 6 (some 71) (.bool false) rfl rfl (by kernel_rfl) (by kernel_rfl) ?_
                    refine Wk.rPure 7 (some 72) (.pointer (some ⟨w.heap.size, 0, none⟩)) rfl rfl (by kernel_rfl) (by kernel_rfl) ?_
                    refine Wk.rPure 8 (some 73) (.int .i64 1) rfl rfl (by kernel_rfl) (by kernel_rfl) ?_
                    refine Wk.rPure 9 (some 74) (.int .i64 0) rfl rfl (by kernel_rfl) (Wk.int64 (n := 1 - 1) (z := 0) (by omega) (by omega) (by omega) (by kernel_rfl)) ?_
                    refine Wk.rCall 10 (some 75) 14 [.tmp 72, .tmp 74] #[23, 3] [.pointer (some ⟨w.heap.size, 0, none⟩), .int .i64 0] rfl rfl (by kernel_rfl) rfl (by kernel_rfl) (by kernel_rfl) ?_
                    have hD39 := Mur.DskF.chg hD38 ch28 (fun s hs hl => trivial)
                    refine (Synced_any w.heap.size (⟨⟨[107, 101, 112, 116], 0⟩, ⟨[], 0⟩⟩ : Dk) FF10 0 W30 hD39).mono ?_
                    rw [show Mur.Dk.synced (⟨⟨[107, 101, 112, 116], 0⟩, ⟨[], 0⟩⟩ : Dk) 0 = 0 from rfl]
                    rintro _ _ ⟨rfl, rfl⟩
                    refine ⟨_, rfl, ?_⟩
                    refine Wk.rPure 11 (some 76) (.bool false) rfl rfl (by kernel_rfl) (Wk.boolF (b := ((0 : Int) != (0 : Int))) (bne_eq_false_iff_eq.2 (by decide)) (by kernel_rfl)) ?_
                    refine Wk.rPure 12 (some 77) (.bool false) rfl rfl (by kernel_rfl) (by kernel_rfl) ?_
                    refine Wk.rEnd 13 rfl ?_
                    refine Wk.nxt ?_
                    refine wp_cond_false (by kernel_rfl) ?_
                    refine wp_skip ?_
                    refine Wk.inN ?_
                    refine Wk.nxt ?_
                    refine Wk.reg ?_
                    refine Wk.rPure 0 (some 78) (.int .i64 ((k + 1 : Nat) : Int)) rfl rfl (by kernel_rfl) (Wk.int64 (n := ((k : Nat) : Int) + 1) (z := ((k + 1 : Nat) : Int)) (by omega) (by omega) (by omega) (by kernel_rfl)) ?_
                    refine Wk.rPure 1 (some 38) (.int .i64 ((k + 1 : Nat) : Int)) rfl rfl (by kernel_rfl) (by kernel_rfl) ?_
                    refine Wk.rEnd 2 rfl ?_
                    refine Wk.nxt ?_
                    have kk41 := Wk.Chg.step HB ch21 trivial
                    have kk42 := Wk.Chg.step kk41 ch22 ⟨.inr (by omega), trivial⟩
                    have kk43 := Wk.Chg.step kk42 ch27 (Mur.newOr_iff.2 (fun t ht => .inr (by have := hM t ht; omega)))
                    have kk44 := Wk.Chg.step kk43 ch28 trivial
                    refine ⟨_, ?_, k + 1, [], 0, FF10, rfl, by kernel_rfl, (by omega), hD39, kk44⟩
                    · omega
                  · refine Wk.rPure 0 (some 61) (.bool false) rfl rfl (by kernel_rfl) (Wk.boolF (b := (kd == (3 : Int))) (beq_eq_false_iff_ne.2 (by first | exact hx10 | omega)) (by kernel_rfl)) ?_
                    refine Wk.rPure 1 (some 60) (.bool false) rfl rfl (by kernel_rfl) (by kernel_rfl) ?_
                    refine Wk.rEnd 2 rfl ?_
                    refine Wk.nxt ?_
                    refine wp_cond_false (by kernel_rfl) ?_
                    refine wp_skip ?_
                    refine Wk.inN ?_
                    refine Wk.nxt ?_
                    refine wp_seq ?_
                    refine Wk.reg ?_
                    refine Wk.rPure 0 (some 65) (.pointer (some ⟨w.heap.size, 0, none⟩)) rfl rfl (by kernel_rfl) (by kernel_rfl) ?_
                    refine Wk.rPure 1 (some 66) (.int .i64 1) rfl rfl (by kernel_rfl) (by kernel_rfl) ?_
                    refine Wk.rPure 2 (some 67) (.int .i64 0) rfl rfl (by kernel_rfl) (Wk.int64 (n := 1 - 1) (z := 0) (by omega) (by omega) (by omega) (by kernel_rfl)) ?_
                    refine Wk.rCall 3 (some 68) 13 [.tmp 65, .tmp 67] #[23, 3] [.pointer (some ⟨w.heap.size, 0, none⟩), .int .i64 0] rfl rfl (by kernel_rfl) rfl (by kernel_rfl) (by kernel_rfl) ?_
                    have hD40 := Mur.DskF.chg hD ch21 (fun s hs hl => trivial)
                    have hD41 := Mur.DskF.chg hD40 ch22 (fun s hs hl => ⟨by have := hM s hs; omega, trivial⟩)
                    refine (Bytes_any w.heap.size (⟨⟨[107, 101, 112, 116], 0⟩, ⟨fb, fn⟩⟩ : Dk) F 0 W24 hD41).mono ?_
                    rw [show Mur.Dk.bytes (⟨⟨[107, 101, 112, 116], 0⟩, ⟨fb, fn⟩⟩ : Dk) 0 = [107, 101, 112, 116] from rfl]
                    rintro _ W31 ⟨vv8, rfl, HO8, ch29⟩
                    obtain ⟨AA8, nn8, rfl, hcc8, hmm10, hN8, HS8, hl8⟩ := Wk.own_sl HO8
                    have hB11 : Byt W31 AA8 ([107, 101, 112, 116]).length ([107, 101, 112, 116]) := by obtain ⟨_, _, e_, _, _, hq⟩ := Mur.own_byt HO8; cases e_; exact hq
                    have zz31 := ch29.size
                    refine ⟨_, rfl, ?_⟩
                    refine Wk.rPure 4 (some 69) (.string (Mur.str ([107, 101, 112, 116]))) rfl rfl (by kernel_rfl) (Mur.run_str 26 9 (.tmp 68) 5 rfl Try.underlying26 Try.underlying5 Try.underlying9 AA8 (([107, 101, 112, 116]).length) nn8 ([107, 101, 112, 116]) (by kernel_rfl) hB11) ?_
                    refine Wk.rPure 5 (some 70) (.bool false) rfl rfl (by kernel_rfl) (Wk.boolF (b := decide (([107, 101, 112, 116]) ≠ ([107, 101, 112, 116]))) (decide_eq_false (fun h => h rfl)) (Mur.strne 9 9 (.tmp 69) (.const (.string ({ data := #[107, 101, 112, 116] }))) rfl ([107, 101, 112, 116]) ([107, 101, 112, 116]) (by kernel_rfl) (by kernel_rfl))) ?_
                    refine Wk.rPure 6 (some 71) (.bool false) rfl rfl (by kernel_rfl) (by kernel_rfl) ?_
                    refine Wk.rPure 7 (some 72) (.pointer (some ⟨w.heap.size, 0, none⟩)) rfl rfl (by kernel_rfl) (by kernel_rfl) ?_
                    refine Wk.rPure 8 (some 73) (.int .i64 1) rfl rfl (by kernel_rfl) (by kernel_rfl) ?_
                    refine Wk.rPure 9 (some 74) (.int .i64 0) rfl rfl (by kernel_rfl) (Wk.int64 (n := 1 - 1) (z := 0) (by omega) (by omega) (by omega) (by kernel_rfl)) ?_
                    refine Wk.rCall 10 (some 75) 14 [.tmp 72, .tmp 74] #[23, 3] [.pointer (some ⟨w.heap.size, 0, none⟩), .int .i64 0] rfl rfl (by kernel_rfl) rfl (by kernel_rfl) (by kernel_rfl) ?_
                    have hD42 := Mur.DskF.chg hD41 ch29 (fun s hs hl => trivial)
                    refine (Synced_any w.heap.size (⟨⟨[107, 101, 112, 116], 0⟩, ⟨fb, fn⟩⟩ : Dk) F 0 W31 hD42).mono ?_
                    rw [show Mur.Dk.synced (⟨⟨[107, 101, 112, 116], 0⟩, ⟨fb, fn⟩⟩ : Dk) 0 = 0 from rfl]
                    rintro _ _ ⟨rfl, rfl⟩
                    refine ⟨_, rfl, ?_⟩
                    refine Wk.rPure 11 (some 76) (.bool false) rfl rfl (by kernel_rfl) (Wk.boolF (b := ((0 : Int) != (0 : Int))) (bne_eq_false_iff_eq.2 (by decide)) (by kernel_rfl)) ?_
                    refine Wk.rPure 12 (some 77) (.bool false) rfl rfl (by kernel_rfl) (by kernel_rfl) ?_
                    refine Wk.rEnd 13 rfl ?_
                    refine Wk.nxt ?_
                    refine wp_cond_false (by kernel_rfl) ?_
                    refine wp_skip ?_
                    refine Wk.inN ?_
                    refine Wk.nxt ?_
                    refine Wk.reg ?_
                    refine Wk.rPure 0 (some 78) (.int .i64 ((k + 1 : Nat) : Int)) rfl rfl (by kernel_rfl) (Wk.int64 (n := ((k : Nat) : Int) + 1) (z := ((k + 1 : Nat) : Int)) (by omega) (by omega) (by omega) (by kernel_rfl)) ?_
                    refine Wk.rPure 1 (some 38) (.int .i64 ((k + 1 : Nat) : Int)) rfl rfl (by kernel_rfl) (by kernel_rfl) ?_
                    refine Wk.rEnd 2 rfl ?_
                    refine Wk.nxt ?_
                    have kk45 := Wk.Chg.step HB ch21 trivial
                    have kk46 := Wk.Chg.step kk45 ch22 ⟨.inr (by omega), trivial⟩
                    have kk47 := Wk.Chg.step kk46 ch29 trivial
                    refine ⟨_, ?_, k + 1, fb, fn, F, rfl, by kernel_rfl, (by omega), hD42, kk47⟩
                    · omega
          · refine wp_seq ?_
            refine Wk.reg ?_
            refine Wk.rPure 0 (some 39) (.bool false) rfl rfl (by kernel_rfl) (Wk.boolF (b := decide (((k : Nat) : Int) < ((n : Nat) : Int))) (decide_eq_false (by omega)) (by kernel_rfl)) ?_
            refine Wk.rEnd 1 rfl ?_
            refine Wk.nxt ?_
            refine wp_seq ?_
            refine wp_cond_false (by kernel_rfl) ?_
            refine wp_exit ?_
            refine Wk.thX ?_
            refine Wk.thX ?_
            refine Wk.inX ?_
            refine Wk.nxt ?_
            refine wp_seq ?_
            refine Wk.reg ?_
            refine Wk.rCall 0 (some 79) 9 [] #[] [] rfl rfl (by kernel_rfl) rfl (by kernel_rfl) (by kernel_rfl) ?_
            refine (known_any W22).mono ?_
            rintro _ W32 ⟨rfl, hB12⟩
            have ch30 := Wk.Chg.ofBelow hB12
            have zz32 := ch30.size
            refine ⟨_, rfl, ?_⟩
            refine Wk.rPure 1 (some 4) (.bool true) rfl rfl (by kernel_rfl) (by kernel_rfl) ?_
            refine Wk.rEnd 2 rfl ?_
            refine Wk.nxt ?_
            refine wp_ret ?_
            have kk48 := Wk.Chg.step HB ch30 trivial
            refine Wk.ret (.bool true) rfl (by kernel_rfl) ?_
            exact ⟨rfl, Wk.Chg.below0 kk48⟩
    · refine calls_of_wp Try.func4 rfl ?_
      refine wp_seq ?_
      refine Wk.reg ?_
      refine Wk.rPure 0 (some 4) (.bool false) rfl rfl (by kernel_rfl) (by kernel_rfl) ?_
      refine Wk.rEnd 1 rfl ?_
      refine Wk.nxt ?_
      refine wp_seq ?_
      refine Wk.reg ?_
      refine Wk.rCall 0 (some 8) 8 [] #[] [] rfl rfl (by kernel_rfl) rfl (by kernel_rfl) (by kernel_rfl) ?_
      refine (New_any w).mono ?_
      rintro _ W33 ⟨FF11, rfl, hD43, ch31⟩
      have hM11 := Mur.DskF.mem hD43
      have zz33 : w.heap.size < W33.heap.size := Mur.DskF.lt hD43
      have zz34 := ch31.size
      refine ⟨_, rfl, ?_⟩
      refine Wk.rPure 1 (some 5) (.pointer (some ⟨w.heap.size, 0, none⟩)) rfl rfl (by kernel_rfl) (by kernel_rfl) ?_
      refine Wk.rEnd 2 rfl ?_
      refine Wk.nxt ?_
      refine wp_seq ?_
      refine wp_seq ?_
      refine Wk.reg ?_
      refine Wk.rPure 0 (some 9) (.pointer (some ⟨w.heap.size, 0, none⟩)) rfl rfl (by kernel_rfl) (by kernel_rfl) ?_
      refine Wk.rPure 1 (some 10) (.bool false) rfl rfl (by kernel_rfl) (by kernel_rfl) ?_
      refine Wk.rPure 2 (some 11) (.bool false) rfl rfl (by kernel_rfl) (by kernel_rfl) ?_
      refine Wk.rPure 3 (some 12) (.slice A n c) rfl rfl (by kernel_rfl) (by kernel_rfl) ?_
      refine Wk.rPure 4 (some 13) (.int .i64 ((n : Nat) : Int)) rfl rfl (by kernel_rfl) (by kernel_rfl) ?_
      by_cases hx11 : ((n : Nat) : Int) > (60 : Int)
      · refine Wk.rPure 5 (some 14) (.bool true) rfl rfl (by kernel_rfl) (Wk.boolT (b := decide (((n : Nat) : Int) > (60 : Int))) (decide_eq_true (by first | exact hx11 | omega)) (by kernel_rfl)) ?_
        refine Wk.rPure 6 (some 15) (.bool true) rfl rfl (by kernel_rfl) (by kernel_rfl) ?_
        refine Wk.rPure 7 (some 16) (.bool true) rfl rfl (by kernel_rfl) (by kernel_rfl) ?_
        refine Wk.rPass 8 (some 17) rfl rfl (by kernel_rfl) ?_
        refine Wk.rPass 9 (some 18) rfl rfl (by kernel_rfl) ?_
        refine Wk.rPure 10 (some 19) (.bool true) rfl rfl (by kernel_rfl) (by kernel_rfl) ?_
        refine Wk.rPure 11 (some 20) (.bool true) rfl rfl (by kernel_rfl) (by kernel_rfl) ?_
        refine Wk.rPass 12 (some 21) rfl rfl (by kernel_rfl) ?_
        refine Wk.rPass 13 (some 22) rfl rfl (by kernel_rfl) ?_
        refine Wk.rPure 14 (some 23) (.bool true) rfl rfl (by kernel_rfl) (by kernel_rfl) ?_
        refine Wk.rEnd 15 rfl ?_
        refine Wk.nxt ?_
        refine wp_cond_true (by kernel_rfl) ?_
        refine wp_seq ?_
        refine Wk.reg ?_
        refine Wk.rPure 0 (some 24) (.pointer (some ⟨w.heap.size, 0, none⟩)) rfl rfl (by kernel_rfl) (by kernel_rfl) ?_
        refine Wk.rPure 1 (some 25) (.bool true) rfl rfl (by kernel_rfl) (by kernel_rfl) ?_
        refine Wk.rPure 2 (some 26) (.bool true) rfl rfl (by kernel_rfl) (by kernel_rfl) ?_
        refine Wk.rCall 3 (some 27) 9 [] #[] [] rfl rfl (by kernel_rfl) rfl (by kernel_rfl) (by kernel_rfl) ?_
        refine (known_any W33).mono ?_
        rintro _ W34 ⟨rfl, hB13⟩
        have ch32 := Wk.Chg.ofBelow hB13
        have zz35 := ch32.size
        refine ⟨_, rfl, ?_⟩
        refine Wk.rPure 4 (some 28) (.bool true) rfl rfl (by kernel_rfl) (by kernel_rfl) ?_
        refine Wk.rPure 5 (some 4) (.bool true) rfl rfl (by kernel_rfl) (by kernel_rfl) ?_
        refine Wk.rEnd 6 rfl ?_
        refine Wk.nxt ?_
        refine wp_ret ?_
        refine Wk.thR ?_
        have kk49 : Wk.Chg [] w W33 := Wk.Chg.step ((Wk.Chg.refl _).more (by simp)) ch31 trivial
        have kk50 := Wk.Chg.step kk49 ch32 trivial
        refine Wk.ret (.bool true) rfl (by kernel_rfl) ?_
        exact ⟨rfl, Wk.Chg.below0 kk50⟩
      · refine Wk.rPure 5 (some 14) (.bool false) rfl rfl (by kernel_rfl) (Wk.boolF (b := decide (((n : Nat) : Int) > (60 : Int))) (decide_eq_false (by first | exact hx11 | omega)) (by kernel_rfl)) ?_
        refine Wk.rPure 6 (some 15) (.bool false) rfl rfl (by kernel_rfl) (by kernel_rfl) ?_
        refine Wk.rPure 7 (some 16) (.bool false) rfl rfl (by kernel_rfl) (by kernel_rfl) ?_
        refine Wk.rPure 8 (some 17) (.int .i64 f) rfl rfl (by kernel_rfl) (by kernel_rfl) ?_
        by_cases hx12 : f < (0 : Int)
        · refine Wk.rPure 9 (some 18) (.bool true) rfl rfl (by kernel_rfl) (Wk.boolT (b := decide (f < (0 : Int))) (decide_eq_true (by first | exact hx12 | omega)) (by kernel_rfl)) ?_
          refine Wk.rPure 10 (some 19) (.bool true) rfl rfl (by kernel_rfl) (by kernel_rfl) ?_
          refine Wk.rPure 11 (some 20) (.bool true) rfl rfl (by kernel_rfl) (by kernel_rfl) ?_
          refine Wk.rPass 12 (some 21) rfl rfl (by kernel_rfl) ?_
          refine Wk.rPass 13 (some 22) rfl rfl (by kernel_rfl) ?_
          refine Wk.rPure 14 (some 23) (.bool true) rfl rfl (by kernel_rfl) (by kernel_rfl) ?_
          refine Wk.rEnd 15 rfl ?_
          refine Wk.nxt ?_
          refine wp_cond_true (by kernel_rfl) ?_
          refine wp_seq ?_
          refine Wk.reg ?_
          refine Wk.rPure 0 (some 24) (.pointer (some ⟨w.heap.size, 0, none⟩)) rfl rfl (by kernel_rfl) (by kernel_rfl) ?_
          refine Wk.rPure 1 (some 25) (.bool true) rfl rfl (by kernel_rfl) (by kernel_rfl) ?_
          refine Wk.rPure 2 (some 26) (.bool true) rfl rfl (by kernel_rfl) (by kernel_rfl) ?_
          refine Wk.rCall 3 (some 27) 9 [] #[] [] rfl rfl (by kernel_rfl) rfl (by kernel_rfl) (by kernel_rfl) ?_
          refine (known_any W33).mono ?_
          rintro _ W35 ⟨rfl, hB14⟩
          have ch33 := Wk.Chg.ofBelow hB14
          have zz36 := ch33.size
          refine ⟨_, rfl, ?_⟩
          refine Wk.rPure 4 (some 28) (.bool true) rfl rfl (by kernel_rfl) (by kernel_rfl) ?_
          refine Wk.rPure 5 (some 4) (.bool true) rfl rfl (by kernel_rfl) (by kernel_rfl) ?_
          refine Wk.rEnd 6 rfl ?_
          refine Wk.nxt ?_
          refine wp_ret ?_
          refine Wk.thR ?_
          have kk51 : Wk.Chg [] w W33 := Wk.Chg.step ((Wk.Chg.refl _).more (by simp)) ch31 trivial
          have kk52 := Wk.Chg.step kk51 ch33 trivial
          refine Wk.ret (.bool true) rfl (by kernel_rfl) ?_
          exact ⟨rfl, Wk.Chg.below0 kk52⟩
        · refine Wk.rPure 9 (some 18) (.bool false) rfl rfl (by kernel_rfl) (Wk.boolF (b := decide (f < (0 : Int))) (decide_eq_false (by first | exact hx12 | omega)) (by kernel_rfl)) ?_
          refine Wk.rPure 10 (some 19) (.bool false) rfl rfl (by kernel_rfl) (by kernel_rfl) ?_
          refine Wk.rPure 11 (some 20) (.bool false) rfl rfl (by kernel_rfl) (by kernel_rfl) ?_
          refine Wk.rPure 12 (some 21) (.int .i64 f) rfl rfl (by kernel_rfl) (by kernel_rfl) ?_
          by_cases hx13 : f > (1 : Int)
          · refine Wk.rPure 13 (some 22) (.bool true) rfl rfl (by kernel_rfl) (Wk.boolT (b := decide (f > (1 : Int))) (decide_eq_true (by first | exact hx13 | omega)) (by kernel_rfl)) ?_
            refine Wk.rPure 14 (some 23) (.bool true) rfl rfl (by kernel_rfl) (by kernel_rfl) ?_
            refine Wk.rEnd 15 rfl ?_
            refine Wk.nxt ?_
            refine wp_cond_true (by kernel_rfl) ?_
            refine wp_seq ?_
            refine Wk.reg ?_
            refine Wk.rPure 0 (some 24) (.pointer (some ⟨w.heap.size, 0, none⟩)) rfl rfl (by kernel_rfl) (by kernel_rfl) ?_
            refine Wk.rPure 1 (some 25) (.bool true) rfl rfl (by kernel_rfl) (by kernel_rfl) ?_
            refine Wk.rPure 2 (some 26) (.bool true) rfl rfl (by kernel_rfl) (by kernel_rfl) ?_
            refine Wk.rCall 3 (some 27) 9 [] #[] [] rfl rfl (by kernel_rfl) rfl (by kernel_rfl) (by kernel_rfl) ?_
            refine (known_any W33).mono ?_
            rintro _ W36 ⟨rfl, hB15⟩
            have ch34 := Wk.Chg.ofBelow hB15
            have zz37 := ch34.size
            refine ⟨_, rfl, ?_⟩
            refine Wk.rPure 4 (some 28) (.bool true) rfl rfl (by kernel_rfl) (by kernel_rfl) ?_
            refine Wk.rPure 5 (some 4) (.bool true) rfl rfl (by kernel_rfl) (by kernel_rfl) ?_
            refine Wk.rEnd 6 rfl ?_
            refine Wk.nxt ?_
            refine wp_ret ?_
            refine Wk.thR ?_
            have kk53 : Wk.Chg [] w W33 := Wk.Chg.step ((Wk.Chg.refl _).more (by simp)) ch31 trivial
            have kk54 := Wk.Chg.step kk53 ch34 trivial
            refine Wk.ret (.bool true) rfl (by kernel_rfl) ?_
            exact ⟨rfl, Wk.Chg.below0 kk54⟩
          · refine Wk.rPure 13 (some 22) (.bool false) rfl rfl (by kernel_rfl) (Wk.boolF (b := decide (f > (1 : Int))) (decide_eq_false (by first | exact hx13 | omega)) (by kernel_rfl)) ?_
            refine Wk.rPure 14 (some 23) (.bool false) rfl rfl (by kernel_rfl) (by kernel_rfl) ?_
            refine Wk.rEnd 15 rfl ?_
            refine Wk.nxt ?_
            refine wp_cond_false (by kernel_rfl) ?_
            refine wp_skip ?_
            refine Wk.nxt ?_
            refine wp_seq ?_
            refine wp_seq ?_
            refine Wk.reg ?_
            exfalso; omega
end Go.Proofs.Ytddabjlhidokaaa
