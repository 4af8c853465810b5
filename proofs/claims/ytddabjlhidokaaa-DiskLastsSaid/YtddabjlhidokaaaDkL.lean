/- DiskLasts, walked. -/
import Derived.Test.YtddabjlhidokaaaDkK
import Derived.Test.YtddabjlhidokaaaDkOps
namespace Go.Proofs.Ytddabjlhidokaaa
open Go.RowKit
open Mur (Fil Dk Dsk DskF Byt b8s foot hasF fE)
set_option maxRecDepth 100000
set_option maxHeartbeats 4000000
def Lasts_F5 (b : Array Value) (u3 : Value) (u24 : Value) (u25 : Value) (u26 : Value) : Act := ⟨#[b.getD 0 undef, b.getD 1 undef, b.getD 2 undef, u3, b.getD 4 undef, b.getD 5 undef, b.getD 6 undef, b.getD 7 undef, b.getD 8 undef, b.getD 9 undef, b.getD 10 undef, b.getD 11 undef, b.getD 12 undef, b.getD 13 undef, b.getD 14 undef, b.getD 15 undef, b.getD 16 undef, b.getD 17 undef, b.getD 18 undef, b.getD 19 undef, b.getD 20 undef, b.getD 21 undef, b.getD 22 undef, b.getD 23 undef, u24, u25, u26, b.getD 27 undef, b.getD 28 undef, b.getD 29 undef, b.getD 30 undef, b.getD 31 undef, b.getD 32 undef, b.getD 33 undef, b.getD 34 undef, b.getD 35 undef, b.getD 36 undef, b.getD 37 undef, b.getD 38 undef, b.getD 39 undef, b.getD 40 undef, b.getD 41 undef, b.getD 42 undef, b.getD 43 undef, b.getD 44 undef, b.getD 45 undef, b.getD 46 undef, b.getD 47 undef, b.getD 48 undef, b.getD 49 undef, b.getD 50 undef, b.getD 51 undef, b.getD 52 undef, b.getD 53 undef, b.getD 54 undef, b.getD 55 undef, b.getD 56 undef, b.getD 57 undef, b.getD 58 undef, b.getD 59 undef, b.getD 60 undef, b.getD 61 undef, b.getD 62 undef, b.getD 63 undef, b.getD 64 undef, b.getD 65 undef, b.getD 66 undef, b.getD 67 undef, b.getD 68 undef, b.getD 69 undef, b.getD 70 undef, b.getD 71 undef, b.getD 72 undef, b.getD 73 undef, b.getD 74 undef, b.getD 75 undef, b.getD 76 undef, b.getD 77 undef, b.getD 78 undef, b.getD 79 undef, b.getD 80 undef, b.getD 81 undef, b.getD 82 undef, b.getD 83 undef, b.getD 84 undef, b.getD 85 undef, b.getD 86 undef, b.getD 87 undef, b.getD 88 undef, b.getD 89 undef, b.getD 90 undef, b.getD 91 undef, b.getD 92 undef, b.getD 93 undef, b.getD 94 undef, b.getD 95 undef, b.getD 96 undef, b.getD 97 undef, b.getD 98 undef, b.getD 99 undef, b.getD 100 undef, b.getD 101 undef, b.getD 102 undef, b.getD 103 undef, b.getD 104 undef, b.getD 105 undef, b.getD 106 undef, b.getD 107 undef, b.getD 108 undef, b.getD 109 undef, b.getD 110 undef, b.getD 111 undef, b.getD 112 undef, b.getD 113 undef, b.getD 114 undef, b.getD 115 undef, b.getD 116 undef, b.getD 117 undef], []⟩
theorem lasts_any (A : Option Addr) (n c : Nat) (L : List Mur.Dop) (w : World) (hl : Mur.Dops w A n L) (hnc : n ≤ c ∧ n ≤ 9223372036854775807) : Calls Try.prog 3 #[.slice A n c] w fun e w' => e = .returned (.bool true) ∧ Below w.heap.size w w' := by
  have HL := Go.Lib.hid hl
  clear hl
  have hn := hnc.2
  refine calls_of_wp Try.func3 rfl ?_
  refine wp_seq ?_
  refine Wk.reg ?_
  refine Wk.rPure 0 (some 2) (.bool false) rfl rfl (by kernel_rfl) (by kernel_rfl) ?_
  refine Wk.rEnd 1 rfl ?_
  refine Wk.nxt ?_
  refine wp_seq ?_
  refine Wk.reg ?_
  refine Wk.rCall 0 (some 11) 8 [] #[] [] rfl rfl (by kernel_rfl) rfl (by kernel_rfl) (by kernel_rfl) ?_
  refine (New_any w).mono ?_
  rintro _ W1 ⟨FF1, rfl, hD1, ch1⟩
  have hM1 := Mur.DskF.mem hD1
  have zz1 : w.heap.size < W1.heap.size := Mur.DskF.lt hD1
  have zz2 := ch1.size
  refine ⟨_, rfl, ?_⟩
  refine Wk.rPure 1 (some 3) (.pointer (some ⟨w.heap.size, 0, none⟩)) rfl rfl (by kernel_rfl) (by kernel_rfl) ?_
  refine Wk.rEnd 2 rfl ?_
  refine Wk.nxt ?_
  refine wp_seq ?_
  refine wp_seq ?_
  refine Wk.reg ?_
  refine Wk.rPure 0 (some 12) (.pointer (some ⟨w.heap.size, 0, none⟩)) rfl rfl (by kernel_rfl) (by kernel_rfl) ?_
  refine Wk.rPure 1 (some 13) (.bool false) rfl rfl (by kernel_rfl) (by kernel_rfl) ?_
  refine Wk.rPure 2 (some 14) (.bool false) rfl rfl (by kernel_rfl) (by kernel_rfl) ?_
  refine Wk.rPure 3 (some 15) (.slice A n c) rfl rfl (by kernel_rfl) (by kernel_rfl) ?_
  refine Wk.rPure 4 (some 16) (.int .i64 ((n : Nat) : Int)) rfl rfl (by kernel_rfl) (by kernel_rfl) ?_
  by_cases hx1 : ((n : Nat) : Int) > (60 : Int)
  · refine Wk.rPure 5 (some 17) (.bool true) rfl rfl (by kernel_rfl) (Wk.boolT (b := decide (((n : Nat) : Int) > (60 : Int))) (decide_eq_true (by first | exact hx1 | omega)) (by kernel_rfl)) ?_
    refine Wk.rPure 6 (some 18) (.bool true) rfl rfl (by kernel_rfl) (by kernel_rfl) ?_
    refine Wk.rEnd 7 rfl ?_
    refine Wk.nxt ?_
    refine wp_cond_true (by kernel_rfl) ?_
    refine wp_seq ?_
    refine Wk.reg ?_
    refine Wk.rPure 0 (some 19) (.pointer (some ⟨w.heap.size, 0, none⟩)) rfl rfl (by kernel_rfl) (by kernel_rfl) ?_
    refine Wk.rPure 1 (some 20) (.bool true) rfl rfl (by kernel_rfl) (by kernel_rfl) ?_
    refine Wk.rPure 2 (some 21) (.bool true) rfl rfl (by kernel_rfl) (by kernel_rfl) ?_
    refine Wk.rCall 3 (some 22) 9 [] #[] [] rfl rfl (by kernel_rfl) rfl (by kernel_rfl) (by kernel_rfl) ?_
    refine (known_any W1).mono ?_
    rintro _ W2 ⟨rfl, hB1⟩
    have ch2 := Wk.Chg.ofBelow hB1
    have zz3 := ch2.size
    refine ⟨_, rfl, ?_⟩
    refine Wk.rPure 4 (some 23) (.bool true) rfl rfl (by kernel_rfl) (by kernel_rfl) ?_
    refine Wk.rPure 5 (some 2) (.bool true) rfl rfl (by kernel_rfl) (by kernel_rfl) ?_
    refine Wk.rEnd 6 rfl ?_
    refine Wk.nxt ?_
    refine wp_ret ?_
    refine Wk.thR ?_
    have kk1 : Wk.Chg [] w W1 := Wk.Chg.step ((Wk.Chg.refl _).more (by simp)) ch1 trivial
    have kk2 := Wk.Chg.step kk1 ch2 trivial
    refine Wk.ret (.bool true) rfl (by kernel_rfl) ?_
    exact ⟨rfl, Wk.Chg.below0 kk2⟩
  · refine Wk.rPure 5 (some 17) (.bool false) rfl rfl (by kernel_rfl) (Wk.boolF (b := decide (((n : Nat) : Int) > (60 : Int))) (decide_eq_false (by first | exact hx1 | omega)) (by kernel_rfl)) ?_
    refine Wk.rPure 6 (some 18) (.bool false) rfl rfl (by kernel_rfl) (by kernel_rfl) ?_
    refine Wk.rEnd 7 rfl ?_
    refine Wk.nxt ?_
    refine wp_cond_false (by kernel_rfl) ?_
    refine wp_skip ?_
    refine Wk.nxt ?_
    refine wp_seq ?_
    refine wp_seq ?_
    refine Wk.reg ?_
    refine Wk.rPure 0 (some 24) (.slice A n c) rfl rfl (by kernel_rfl) (by kernel_rfl) ?_
    refine Wk.rPure 1 (some 25) (.int .i64 ((n : Nat) : Int)) rfl rfl (by kernel_rfl) (by kernel_rfl) ?_
    refine Wk.rPure 2 (some 26) (.int .i64 0) rfl rfl (by kernel_rfl) (by kernel_rfl) ?_
    refine Wk.rEnd 3 rfl ?_
    refine Wk.nxt ?_
    refine wp_block ?_
    refine Wk.loop (fun m_ a wr => ∃ (k : Nat) (d : Dk) (F : List Nat), m_ = n - k ∧ a = Lasts_F5 a.tmps (.pointer (some ⟨w.heap.size, 0, none⟩)) (.slice A n c) (.int .i64 ((n : Nat) : Int)) (.int .i64 ((k : Nat) : Int)) ∧ k ≤ n ∧ DskF 5 51 wr w.heap.size d F ∧ Wk.Chg [] w wr) (n - 0) ?_ ?_
    · have kk3 : Wk.Chg [] w W1 := Wk.Chg.step ((Wk.Chg.refl _).more (by simp)) ch1 trivial
      refine ⟨0, Mur.Dk.new, FF1, rfl, by kernel_rfl, Nat.zero_le _, hD1, kk3⟩
    · rintro mm1 aa1 W3 ⟨k, d, F, hmm1, hF1, hk, hD, HB⟩
      generalize aa1.tmps = bb1 at hF1
      subst hF1
      have hM := Mur.DskF.mem hD
      have hsz := Mur.DskF.lt hD
      by_cases hlt : k < n
      · obtain ⟨g, off, kd, f, B, mb, cb, bs, k0, k1, rfl, hg, q, hb, hbc, hbm, hbn⟩ := HL.out.at hlt
        refine wp_seq ?_
        refine Wk.reg ?_
        refine Wk.rPure 0 (some 27) (.bool true) rfl rfl (by kernel_rfl) (Wk.boolT (b := decide (((k : Nat) : Int) < ((n : Nat) : Int))) (decide_eq_true (by omega)) (by kernel_rfl)) ?_
        refine Wk.rEnd 1 rfl ?_
        refine Wk.nxt ?_
        refine wp_seq ?_
        refine wp_cond_true (by kernel_rfl) ?_
        refine wp_skip ?_
        refine Wk.nxt ?_
        refine wp_seq ?_
        refine wp_block ?_
        refine wp_seq ?_
        refine Wk.reg ?_
        refine Wk.rPure 0 (some 28) (.pointer (some ⟨g, off + k * 5, none⟩)) rfl rfl (by kernel_rfl) (Wk.index_sl 22 29 (.tmp 24) (.tmp 26) rfl Try.underlying22 5 (by kernel_rfl) g off n c k .i64 (by kernel_rfl) (by kernel_rfl) (by omega)) ?_
        refine Wk.rPure 1 (some 29) (.agg #[.int .i64 kd, .int .i64 f, .slice B mb cb, .int .i64 k0, .int .i64 k1]) rfl rfl (by kernel_rfl) (Wk.loadR 29 (.tmp 28) rfl _ Try.underlying29 rfl g (off + k * 5) (by kernel_rfl) ([.int .i64 kd, .int .i64 f, .slice B mb cb, .int .i64 k0, .int .i64 k1]) (by kernel_rfl) (Wk.Chg.range HB q trivial)) ?_
        refine Wk.rEx 2 (some 5) _ rfl rfl (by kernel_rfl) (Wk.new_ex (.pointer (some ⟨W3.heap.size, 0, none⟩)) #[.int .i64 0, .int .i64 0, .slice none 0 0, .int .i64 0, .int .i64 0] 29 (by kernel_rfl)) ?_
        rintro _ W4 ⟨rfl, hb1, ch3, sz1⟩
        have zz4 := ch3.size
        refine Wk.rExS 3 none _ rfl rfl (by kernel_rfl) (Wk.storeR 29 (.tmp 5) (.tmp 29) rfl W3.heap.size 0 (by kernel_rfl) ([.int .i64 kd, .int .i64 f, .slice B mb cb, .int .i64 k0, .int .i64 k1]) (by kernel_rfl) (by kernel_rfl) (by intro v hv; simp at hv; rcases hv with h | h | h | h | h <;> (subst h; rfl)) 29 ([.int .i64 0, .int .i64 0, .slice none 0 0, .int .i64 0, .int .i64 0]) hb1 (by simp)) ?_
        rintro W5 ⟨hb2, ch4⟩
        replace hb2 : W5.heap[W3.heap.size]? = some (.cells #[.int .i64 kd, .int .i64 f, .slice B mb cb, .int .i64 k0, .int .i64 k1] 29 (0, 0)) := hb2
        have zz5 := ch4.size
        refine Wk.rEnd 4 rfl ?_
        refine Wk.nxt ?_
        refine wp_seq ?_
        refine wp_seq ?_
        refine Wk.reg ?_
        refine Wk.rPure 0 (some 30) (.pointer (some ⟨W3.heap.size, 2, none⟩)) rfl rfl (by kernel_rfl) (by kernel_rfl) ?_
        refine Wk.rPure 1 (some 31) (.slice B mb cb) rfl rfl (by kernel_rfl) (Wk.load1 26 (.tmp 30) rfl (by kernel_rfl) ⟨W3.heap.size, 2, none⟩ (by kernel_rfl) (.slice B mb cb) ((cell_of_row _ _ 2 _ _ _ hb2).trans rfl)) ?_
        refine Wk.rPure 2 (some 32) (.int .i64 ((mb : Nat) : Int)) rfl rfl (by kernel_rfl) (by kernel_rfl) ?_
        by_cases hx2 : ((mb : Nat) : Int) > (1000 : Int)
        · refine Wk.rPure 3 (some 33) (.bool true) rfl rfl (by kernel_rfl) (Wk.boolT (b := decide (((mb : Nat) : Int) > (1000 : Int))) (decide_eq_true (by first | exact hx2 | omega)) (by kernel_rfl)) ?_
          refine Wk.rEnd 4 rfl ?_
          refine Wk.nxt ?_
          refine wp_cond_true (by kernel_rfl) ?_
          refine wp_exit ?_
          refine Wk.thX ?_
          refine Wk.inX ?_
          refine Wk.nxt ?_
          refine Wk.reg ?_
          refine Wk.rPure 0 (some 116) (.int .i64 ((k + 1 : Nat) : Int)) rfl rfl (by kernel_rfl) (Wk.int64 (n := ((k : Nat) : Int) + 1) (z := ((k + 1 : Nat) : Int)) (by omega) (by omega) (by omega) (by kernel_rfl)) ?_
          refine Wk.rPure 1 (some 26) (.int .i64 ((k + 1 : Nat) : Int)) rfl rfl (by kernel_rfl) (by kernel_rfl) ?_
          refine Wk.rEnd 2 rfl ?_
          refine Wk.nxt ?_
          have hD2 := Mur.DskF.chg hD ch3 (fun s hs hl => trivial)
          have hD3 := Mur.DskF.chg hD2 ch4 (fun s hs hl => ⟨by have := hM s hs; omega, trivial⟩)
          have kk4 := Wk.Chg.step HB ch3 trivial
          have kk5 := Wk.Chg.step kk4 ch4 ⟨.inr (by omega), trivial⟩
          refine ⟨_, ?_, k + 1, d, F, rfl, by kernel_rfl, (by omega), hD3, kk5⟩
          · omega
        · refine Wk.rPure 3 (some 33) (.bool false) rfl rfl (by kernel_rfl) (Wk.boolF (b := decide (((mb : Nat) : Int) > (1000 : Int))) (decide_eq_false (by first | exact hx2 | omega)) (by kernel_rfl)) ?_
          refine Wk.rEnd 4 rfl ?_
          refine Wk.nxt ?_
          refine wp_cond_false (by kernel_rfl) ?_
          refine wp_skip ?_
          refine Wk.nxt ?_
          refine wp_seq ?_
          refine Wk.reg ?_
          refine Wk.rPure 0 (some 34) (.pointer (some ⟨W3.heap.size, 0, none⟩)) rfl rfl (by kernel_rfl) (by kernel_rfl) ?_
          refine Wk.rPure 1 (some 35) (.int .i64 kd) rfl rfl (by kernel_rfl) (Wk.load1 3 (.tmp 34) rfl (by kernel_rfl) ⟨W3.heap.size, 0, none⟩ (by kernel_rfl) (.int .i64 kd) ((cell_of_row _ _ 0 _ _ _ hb2).trans rfl)) ?_
          refine Wk.rEnd 2 rfl ?_
          refine Wk.nxt ?_
          refine wp_block ?_
          refine wp_seq ?_
          refine Wk.reg ?_
          by_cases hx3 : kd = (1 : Int)
          · refine Wk.rPure 0 (some 97) (.bool true) rfl rfl (by kernel_rfl) (Wk.boolT (b := (kd == (1 : Int))) (beq_iff_eq.2 (by first | exact hx3 | omega)) (by kernel_rfl)) ?_
            refine Wk.rPure 1 (some 96) (.bool true) rfl rfl (by kernel_rfl) (by kernel_rfl) ?_
            refine Wk.rEnd 2 rfl ?_
            refine Wk.nxt ?_
            refine wp_cond_true (by kernel_rfl) ?_
            refine Wk.reg ?_
            refine Wk.rPure 0 (some 98) (.pointer (some ⟨w.heap.size, 0, none⟩)) rfl rfl (by kernel_rfl) (by kernel_rfl) ?_
            refine Wk.rPure 1 (some 99) (.pointer (some ⟨W3.heap.size, 1, none⟩)) rfl rfl (by kernel_rfl) (by kernel_rfl) ?_
            refine Wk.rPure 2 (some 100) (.int .i64 f) rfl rfl (by kernel_rfl) (Wk.load1 3 (.tmp 99) rfl (by kernel_rfl) ⟨W3.heap.size, 1, none⟩ (by kernel_rfl) (.int .i64 f) ((cell_of_row _ _ 1 _ _ _ hb2).trans rfl)) ?_
            refine Wk.rPure 3 (some 101) (.pointer (some ⟨W3.heap.size, 2, none⟩)) rfl rfl (by kernel_rfl) (by kernel_rfl) ?_
            refine Wk.rPure 4 (some 102) (.slice B mb cb) rfl rfl (by kernel_rfl) (Wk.load1 26 (.tmp 101) rfl (by kernel_rfl) ⟨W3.heap.size, 2, none⟩ (by kernel_rfl) (.slice B mb cb) ((cell_of_row _ _ 2 _ _ _ hb2).trans rfl)) ?_
            refine Wk.rCall 5 (some 103) 10 [.tmp 98, .tmp 100, .tmp 102] #[23, 3, 26] [.pointer (some ⟨w.heap.size, 0, none⟩), .int .i64 f, .slice B mb cb] rfl rfl (by kernel_rfl) rfl (by kernel_rfl) (by kernel_rfl) ?_
            have hD4 := Mur.DskF.chg hD ch3 (fun s hs hl => trivial)
            have hD5 := Mur.DskF.chg hD4 ch4 (fun s hs hl => ⟨by have := hM s hs; omega, trivial⟩)
            have kk6 := Wk.Chg.step HB ch3 trivial
            have kk7 := Wk.Chg.step kk6 ch4 ⟨.inr (by omega), trivial⟩
            refine (Append_any w.heap.size d F f B mb cb bs W5 hD5 (Mur.byt_chg hb kk7 (fun g off e hl => trivial)) hbn).mono ?_
            rintro _ W6 ⟨FF2, rfl, hD6, ch5, no1⟩
            have hM2 := Mur.DskF.mem hD6
            have zz6 := ch5.size
            refine ⟨_, rfl, ?_⟩
            refine Wk.rEnd 6 rfl ?_
            refine Wk.inN ?_
            refine Wk.inN ?_
            refine Wk.nxt ?_
            refine Wk.reg ?_
            refine Wk.rPure 0 (some 116) (.int .i64 ((k + 1 : Nat) : Int)) rfl rfl (by kernel_rfl) (Wk.int64 (n := ((k : Nat) : Int) + 1) (z := ((k + 1 : Nat) : Int)) (by omega) (by omega) (by omega) (by kernel_rfl)) ?_
            refine Wk.rPure 1 (some 26) (.int .i64 ((k + 1 : Nat) : Int)) rfl rfl (by kernel_rfl) (by kernel_rfl) ?_
            refine Wk.rEnd 2 rfl ?_
            refine Wk.nxt ?_
            have kk8 := Wk.Chg.step kk7 ch5 (Mur.newOr_iff.2 (fun t ht => .inr (by have := hM t ht; omega)))
            refine ⟨_, ?_, k + 1, (Mur.Dk.app d f bs), FF2, rfl, by kernel_rfl, (by omega), hD6, kk8⟩
            · omega
          · refine Wk.rPure 0 (some 97) (.bool false) rfl rfl (by kernel_rfl) (Wk.boolF (b := (kd == (1 : Int))) (beq_eq_false_iff_ne.2 (by first | exact hx3 | omega)) (by kernel_rfl)) ?_
            refine Wk.rPure 1 (some 96) (.bool false) rfl rfl (by kernel_rfl) (by kernel_rfl) ?_
            refine Wk.rEnd 2 rfl ?_
            refine Wk.nxt ?_
            refine wp_cond_false (by kernel_rfl) ?_
            refine wp_seq ?_
            refine Wk.reg ?_
            by_cases hx4 : kd = (2 : Int)
            · refine Wk.rPure 0 (some 105) (.bool true) rfl rfl (by kernel_rfl) (Wk.boolT (b := (kd == (2 : Int))) (beq_iff_eq.2 (by first | exact hx4 | omega)) (by kernel_rfl)) ?_
              refine Wk.rPure 1 (some 104) (.bool true) rfl rfl (by kernel_rfl) (by kernel_rfl) ?_
              refine Wk.rEnd 2 rfl ?_
              refine Wk.nxt ?_
              refine wp_cond_true (by kernel_rfl) ?_
              refine Wk.reg ?_
              refine Wk.rPure 0 (some 106) (.pointer (some ⟨w.heap.size, 0, none⟩)) rfl rfl (by kernel_rfl) (by kernel_rfl) ?_
              refine Wk.rPure 1 (some 107) (.pointer (some ⟨W3.heap.size, 1, none⟩)) rfl rfl (by kernel_rfl) (by kernel_rfl) ?_
              refine Wk.rPure 2 (some 108) (.int .i64 f) rfl rfl (by kernel_rfl) (Wk.load1 3 (.tmp 107) rfl (by kernel_rfl) ⟨W3.heap.size, 1, none⟩ (by kernel_rfl) (.int .i64 f) ((cell_of_row _ _ 1 _ _ _ hb2).trans rfl)) ?_
              refine Wk.rCall 3 (some 109) 11 [.tmp 106, .tmp 108] #[23, 3] [.pointer (some ⟨w.heap.size, 0, none⟩), .int .i64 f] rfl rfl (by kernel_rfl) rfl (by kernel_rfl) (by kernel_rfl) ?_
              have hD7 := Mur.DskF.chg hD ch3 (fun s hs hl => trivial)
              have hD8 := Mur.DskF.chg hD7 ch4 (fun s hs hl => ⟨by have := hM s hs; omega, trivial⟩)
              refine (Sync_any w.heap.size d F f W5 hD8).mono ?_
              rintro _ W7 ⟨FF3, rfl, hD9, ch6, no2⟩
              have hM3 := Mur.DskF.mem hD9
              have zz7 := ch6.size
              refine ⟨_, rfl, ?_⟩
              refine Wk.rEnd 4 rfl ?_
              refine Wk.inN ?_
              refine Wk.inN ?_
              refine Wk.nxt ?_
              refine Wk.reg ?_
              refine Wk.rPure 0 (some 116) (.int .i64 ((k + 1 : Nat) : Int)) rfl rfl (by kernel_rfl) (Wk.int64 (n := ((k : Nat) : Int) + 1) (z := ((k + 1 : Nat) : Int)) (by omega) (by omega) (by omega) (by kernel_rfl)) ?_
              refine Wk.rPure 1 (some 26) (.int .i64 ((k + 1 : Nat) : Int)) rfl rfl (by kernel_rfl) (by kernel_rfl) ?_
              refine Wk.rEnd 2 rfl ?_
              refine Wk.nxt ?_
              have kk9 := Wk.Chg.step HB ch3 trivial
              have kk10 := Wk.Chg.step kk9 ch4 ⟨.inr (by omega), trivial⟩
              have kk11 := Wk.Chg.step kk10 ch6 (Mur.newOr_iff.2 (fun t ht => .inr (by have := hM t ht; omega)))
              refine ⟨_, ?_, k + 1, (Mur.Dk.sync d f), FF3, rfl, by kernel_rfl, (by omega), hD9, kk11⟩
              · omega
            · refine Wk.rPure 0 (some 105) (.bool false) rfl rfl (by kernel_rfl) (Wk.boolF (b := (kd == (2 : Int))) (beq_eq_false_iff_ne.2 (by first | exact hx4 | omega)) (by kernel_rfl)) ?_
              refine Wk.rPure 1 (some 104) (.bool false) rfl rfl (by kernel_rfl) (by kernel_rfl) ?_
              refine Wk.rEnd 2 rfl ?_
              refine Wk.nxt ?_
              refine wp_cond_false (by kernel_rfl) ?_
              refine wp_seq ?_
              refine Wk.reg ?_
              by_cases hx5 : kd = (3 : Int)
              · refine Wk.rPure 0 (some 111) (.bool true) rfl rfl (by kernel_rfl) (Wk.boolT (b := (kd == (3 : Int))) (beq_iff_eq.2 (by first | exact hx5 | omega)) (by kernel_rfl)) ?_
                refine Wk.rPure 1 (some 110) (.bool true) rfl rfl (by kernel_rfl) (by kernel_rfl) ?_
                refine Wk.rEnd 2 rfl ?_
                refine Wk.nxt ?_
                refine wp_cond_true (by kernel_rfl) ?_
                refine Wk.reg ?_
                refine Wk.rPure 0 (some 112) (.pointer (some ⟨w.heap.size, 0, none⟩)) rfl rfl (by kernel_rfl) (by kernel_rfl) ?_
                refine Wk.rPure 1 (some 113) (.pointer (some ⟨W3.heap.size, 1, none⟩)) rfl rfl (by kernel_rfl) (by kernel_rfl) ?_
                refine Wk.rPure 2 (some 114) (.int .i64 f) rfl rfl (by kernel_rfl) (Wk.load1 3 (.tmp 113) rfl (by kernel_rfl) ⟨W3.heap.size, 1, none⟩ (by kernel_rfl) (.int .i64 f) ((cell_of_row _ _ 1 _ _ _ hb2).trans rfl)) ?_
                refine Wk.rCall 3 (some 115) 12 [.tmp 112, .tmp 114] #[23, 3] [.pointer (some ⟨w.heap.size, 0, none⟩), .int .i64 f] rfl rfl (by kernel_rfl) rfl (by kernel_rfl) (by kernel_rfl) ?_
                have hD10 := Mur.DskF.chg hD ch3 (fun s hs hl => trivial)
                have hD11 := Mur.DskF.chg hD10 ch4 (fun s hs hl => ⟨by have := hM s hs; omega, trivial⟩)
                refine (Clear_any w.heap.size d F f W5 hD11).mono ?_
                rintro _ W8 ⟨FF4, rfl, hD12, ch7, no3⟩
                have hM4 := Mur.DskF.mem hD12
                have zz8 := ch7.size
                refine ⟨_, rfl, ?_⟩
                refine Wk.rEnd 4 rfl ?_
                refine Wk.inN ?_
                refine Wk.inN ?_
                refine Wk.nxt ?_
                refine Wk.reg ?_
                refine Wk.rPure 0 (some 116) (.int .i64 ((k + 1 : Nat) : Int)) rfl rfl (by kernel_rfl) (Wk.int64 (n := ((k : Nat) : Int) + 1) (z := ((k + 1 : Nat) : Int)) (by omega) (by omega) (by omega) (by kernel_rfl)) ?_
                refine Wk.rPure 1 (some 26) (.int .i64 ((k + 1 : Nat) : Int)) rfl rfl (by kernel_rfl) (by kernel_rfl) ?_
                refine Wk.rEnd 2 rfl ?_
                refine Wk.nxt ?_
                have kk12 := Wk.Chg.step HB ch3 trivial
                have kk13 := Wk.Chg.step kk12 ch4 ⟨.inr (by omega), trivial⟩
                have kk14 := Wk.Chg.step kk13 ch7 (Mur.newOr_iff.2 (fun t ht => .inr (by have := hM t ht; omega)))
                refine ⟨_, ?_, k + 1, (Mur.Dk.clear d f), FF4, rfl, by kernel_rfl, (by omega), hD12, kk14⟩
                · omega
              · refine Wk.rPure 0 (some 111) (.bool false) rfl rfl (by kernel_rfl) (Wk.boolF (b := (kd == (3 : Int))) (beq_eq_false_iff_ne.2 (by first | exact hx5 | omega)) (by kernel_rfl)) ?_
                refine Wk.rPure 1 (some 110) (.bool false) rfl rfl (by kernel_rfl) (by kernel_rfl) ?_
                refine Wk.rEnd 2 rfl ?_
                refine Wk.nxt ?_
                refine wp_cond_false (by kernel_rfl) ?_
                refine wp_seq ?_
                refine Wk.reg ?_
                refine Wk.rEx 0 (some 6) _ rfl rfl (by kernel_rfl) (Wk.new_ex (.pointer (some ⟨W5.heap.size, 0, none⟩)) (#[.string ⟨#[]⟩, .string ⟨#[]⟩]) 33 (by kernel_rfl)) ?_
                rintro _ W9 ⟨rfl, hb3, ch8, sz2⟩
                have zz9 := ch8.size
                refine Wk.rEnd 1 rfl ?_
                refine Wk.nxt ?_
                refine wp_seq ?_
                refine Wk.reg ?_
                refine Wk.rEx 0 (some 7) _ rfl rfl (by kernel_rfl) (Wk.new_ex (.pointer (some ⟨W9.heap.size, 0, none⟩)) #[.int .i64 0, .int .i64 0] 27 (by kernel_rfl)) ?_
                rintro _ W10 ⟨rfl, hb4, ch9, sz3⟩
                have zz10 := ch9.size
                refine Wk.rEnd 1 rfl ?_
                refine Wk.nxt ?_
                refine wp_seq ?_
                refine wp_seq ?_
                refine Wk.reg ?_
                refine Wk.rPure 0 (some 36) (.int .i64 0) rfl rfl (by kernel_rfl) (by kernel_rfl) ?_
                refine Wk.rEnd 1 rfl ?_
                refine Wk.nxt ?_
                refine wp_block ?_
                refine Wk.loopN 3 ?_
                refine Wk.rdS ?_
                refine wp_seq ?_
                refine Wk.reg ?_
                refine Wk.rPure 0 (some 37) (.bool true) rfl rfl (by kernel_rfl) (Wk.boolT (b := decide ((0 : Int) < (2 : Int))) (decide_eq_true (by decide)) (by kernel_rfl)) ?_
                refine Wk.rEnd 1 rfl ?_
                refine Wk.nxt ?_
                refine wp_seq ?_
                refine wp_cond_true (by kernel_rfl) ?_
                refine wp_skip ?_
                refine Wk.nxt ?_
                refine wp_seq ?_
                refine wp_block ?_
                refine wp_seq ?_
                refine Wk.reg ?_
                refine Wk.rPure 0 (some 38) (.int .i64 0) rfl rfl (by kernel_rfl) (by kernel_rfl) ?_
                refine Wk.rPure 1 (some 8) (.int .i64 0) rfl rfl (by kernel_rfl) (by kernel_rfl) ?_
                refine Wk.rEnd 2 rfl ?_
                refine Wk.nxt ?_
                refine Wk.dReg [W5.heap.size, W9.heap.size] (by kernel_rfl) ?_
                intro W11 ch10 sz4
                have zz11 := ch10.size
                have sS1 : Wk.Chg [W5.heap.size, W9.heap.size] W11 W11 := (Wk.Chg.refl _).more (by simp)
                refine Wk.dVal 0 (some 39) (.int .i64 0) rfl rfl (by kernel_rfl) (by kernel_rfl) (by kernel_rfl) (fun _ _ _ h => h) (by kernel_rfl) (fun w' hw' => by kernel_rfl) sS1 ?_
                refine Wk.dVal 1 (some 40) (.int .i64 0) rfl rfl (by kernel_rfl) (by kernel_rfl) (by kernel_rfl) (fun _ _ _ h => h) (by kernel_rfl) (fun w' hw' => by kernel_rfl) sS1 ?_
                refine Wk.dVal 2 (some 41) (.pointer (some ⟨w.heap.size, 0, none⟩)) rfl rfl (by kernel_rfl) (by kernel_rfl) (by kernel_rfl) (fun _ _ _ h => h) (by kernel_rfl) (fun w' hw' => by kernel_rfl) sS1 ?_
                refine Wk.dVal 3 (some 42) (.int .i64 0) rfl rfl (by kernel_rfl) (by kernel_rfl) (by kernel_rfl) (fun _ _ _ h => h) (by kernel_rfl) (fun w' hw' => by kernel_rfl) sS1 ?_
                refine Wk.dVal 6 (some 45) (.pointer (some ⟨w.heap.size, 0, none⟩)) rfl rfl (by kernel_rfl) (by kernel_rfl) (by kernel_rfl) (fun _ _ _ h => h) (by kernel_rfl) (fun w' hw' => by kernel_rfl) sS1 ?_
                refine Wk.dVal 7 (some 46) (.int .i64 0) rfl rfl (by kernel_rfl) (by kernel_rfl) (by kernel_rfl) (fun _ _ _ h => h) (by kernel_rfl) (fun w' hw' => by kernel_rfl) sS1 ?_
                refine Wk.dOp 4 (by kernel_rfl) ?_
                refine Wk.oCall (some 43) 13 [.tmp 41, .tmp 42] #[23, 3] [.pointer (some ⟨w.heap.size, 0, none⟩), .int .i64 0] rfl rfl (by kernel_rfl) rfl (by kernel_rfl) (by kernel_rfl) ?_
                have hD13 := Mur.DskF.chg hD ch3 (fun s hs hl => trivial)
                have hD14 := Mur.DskF.chg hD13 ch4 (fun s hs hl => ⟨by have := hM s hs; omega, trivial⟩)
                have hD15 := Mur.DskF.chg hD14 ch8 (fun s hs hl => trivial)
                have hD16 := Mur.DskF.chg hD15 ch9 (fun s hs hl => trivial)
                have hD17 := Mur.DskF.chg hD16 ch10 (fun s hs hl => trivial)
                have hkd := Mur.DskF.ok hD17
                obtain ⟨⟨xb, xn⟩, ⟨yb, yn⟩⟩ := d
                obtain ⟨⟨hx1, hx2⟩, hy1, hy2⟩ := hkd
                simp only at hx1 hx2 hy1 hy2
                refine (Bytes_any w.heap.size (⟨⟨xb, xn⟩, ⟨yb, yn⟩⟩ : Dk) F 0 W11 hD17).mono ?_
                rw [show Mur.Dk.bytes (⟨⟨xb, xn⟩, ⟨yb, yn⟩⟩ : Dk) 0 = xb from rfl]
                rintro _ W12 ⟨vv1, rfl, HO1, ch11⟩
                obtain ⟨AA1, nn1, rfl, hcc1, hmm2, hN1, HS1, hl1⟩ := Wk.own_sl HO1
                have hB2 : Byt W12 AA1 xb.length xb := by obtain ⟨_, _, e_, _, _, hq⟩ := Mur.own_byt HO1; cases e_; exact hq
                have zz12 := ch11.size
                have sS2 := Wk.Chg.step sS1 ch11 trivial
                refine ⟨_, rfl, sS2, ?_⟩
                refine Wk.dOp2 5 8 (by kernel_rfl) ?_ ?_
                · refine Wk.oVal (some 44) (.string (Mur.str xb)) rfl rfl (by kernel_rfl) (Mur.run_str 26 9 (.tmp 43) 5 rfl Try.underlying26 Try.underlying5 Try.underlying9 AA1 xb.length nn1 xb (by kernel_rfl) hB2) ?_
                  refine ⟨sS2, ?_⟩
                  refine Wk.dVal 9 (some 48) (.pointer (some ⟨W5.heap.size, 0, none⟩)) rfl rfl (by kernel_rfl) (by kernel_rfl) (by kernel_rfl) (fun _ _ _ h => h) (by kernel_rfl) (fun w' hw' => (Wk.index_arr 33 9 (.tmp 6) (.tmp 39) rfl 2 Try.underlying33 1 (by kernel_rfl) W5.heap.size 0 0 .i64 (by kernel_rfl) (by kernel_rfl) (by decide))) sS2 ?_
                  refine Wk.dOp 8 (by kernel_rfl) ?_
                  refine Wk.oCall (some 47) 14 [.tmp 45, .tmp 46] #[23, 3] [.pointer (some ⟨w.heap.size, 0, none⟩), .int .i64 0] rfl rfl (by kernel_rfl) rfl (by kernel_rfl) (by kernel_rfl) ?_
                  have hD18 := Mur.DskF.chg hD17 ch11 (fun s hs hl => trivial)
                  refine (Synced_any w.heap.size (⟨⟨xb, xn⟩, ⟨yb, yn⟩⟩ : Dk) F 0 W12 hD18).mono ?_
                  rw [show Mur.Dk.synced (⟨⟨xb, xn⟩, ⟨yb, yn⟩⟩ : Dk) 0 = xn from rfl]
                  rintro _ _ ⟨rfl, rfl⟩
                  refine ⟨_, rfl, sS2, ?_⟩
                  refine Wk.dOp 10 (by kernel_rfl) ?_
                  refine Wk.oExS none _ rfl rfl (by kernel_rfl) (Wk.store1 9 (.tmp 48) (.tmp 44) rfl (by kernel_rfl) W5.heap.size 0 (by kernel_rfl) (.string (Mur.str xb)) (by kernel_rfl) rfl 33 (#[.string ⟨#[]⟩, .string ⟨#[]⟩]) (Wk.Chg.hp ch11 (Wk.Chg.hp ch10 (Wk.Chg.hp ch9 hb3 trivial) trivial) trivial) (by simp)) ?_
                  rintro W13 ⟨hb5, ch12⟩
                  replace hb5 : W13.heap[W5.heap.size]? = some (.cells (#[.string (Mur.str xb), .string ⟨#[]⟩]) 33 (0, 0)) := hb5
                  have zz13 := ch12.size
                  have sS3 := Wk.Chg.step sS2 ch12 ⟨.inl (by simp), trivial⟩
                  refine ⟨sS3, ?_⟩
                  refine Wk.dVal 11 (some 49) (.pointer (some ⟨W9.heap.size, 0, none⟩)) rfl rfl (by kernel_rfl) (by kernel_rfl) (by kernel_rfl) (fun _ _ _ h => h) (by kernel_rfl) (fun w' hw' => (Wk.index_arr 27 3 (.tmp 7) (.tmp 40) rfl 2 Try.underlying27 1 (by kernel_rfl) W9.heap.size 0 0 .i64 (by kernel_rfl) (by kernel_rfl) (by decide))) sS3 ?_
                  refine Wk.dOp 12 (by kernel_rfl) ?_
                  refine Wk.oExS none _ rfl rfl (by kernel_rfl) (Wk.store1 3 (.tmp 49) (.tmp 47) rfl (by kernel_rfl) W9.heap.size 0 (by kernel_rfl) (.int .i64 ((xn : Nat) : Int)) (by kernel_rfl) rfl 27 #[.int .i64 0, .int .i64 0] (Wk.Chg.hp ch12 (Wk.Chg.hp ch11 (Wk.Chg.hp ch10 hb4 trivial) trivial) ⟨by omega, trivial⟩) (by simp)) ?_
                  rintro W14 ⟨hb6, ch13⟩
                  replace hb6 : W14.heap[W9.heap.size]? = some (.cells #[.int .i64 ((xn : Nat) : Int), .int .i64 0] 27 (0, 0)) := hb6
                  have zz14 := ch13.size
                  have sS4 := Wk.Chg.step sS3 ch13 ⟨.inl (by simp), trivial⟩
                  refine ⟨sS4, ?_⟩
                  refine Wk.dEnd (by kernel_rfl) ?_
                  refine Wk.inN ?_
                  refine Wk.nxt ?_
                  refine Wk.reg ?_
                  refine Wk.rPure 0 (some 50) (.int .i64 1) rfl rfl (by kernel_rfl) (Wk.int64 (n := 0 + 1) (z := 1) (by omega) (by omega) (by omega) (by kernel_rfl)) ?_
                  refine Wk.rPure 1 (some 36) (.int .i64 1) rfl rfl (by kernel_rfl) (by kernel_rfl) ?_
                  refine Wk.rEnd 2 rfl ?_
                  refine Wk.nxt ?_
                  refine Wk.rdS ?_
                  refine wp_seq ?_
                  refine Wk.reg ?_
                  refine Wk.rPure 0 (some 37) (.bool true) rfl rfl (by kernel_rfl) (Wk.boolT (b := decide ((1 : Int) < (2 : Int))) (decide_eq_true (by decide)) (by kernel_rfl)) ?_
                  refine Wk.rEnd 1 rfl ?_
                  refine Wk.nxt ?_
                  refine wp_seq ?_
                  refine wp_cond_true (by kernel_rfl) ?_
                  refine wp_skip ?_
                  refine Wk.nxt ?_
                  refine wp_seq ?_
                  refine wp_block ?_
                  refine wp_seq ?_
                  refine Wk.reg ?_
                  refine Wk.rPure 0 (some 38) (.int .i64 1) rfl rfl (by kernel_rfl) (by kernel_rfl) ?_
                  refine Wk.rPure 1 (some 8) (.int .i64 1) rfl rfl (by kernel_rfl) (by kernel_rfl) ?_
                  refine Wk.rEnd 2 rfl ?_
                  refine Wk.nxt ?_
                  refine Wk.dReg [W5.heap.size, W9.heap.size] (by kernel_rfl) ?_
                  intro W15 ch14 sz5
                  have zz15 := ch14.size
                  have sS5 : Wk.Chg [W5.heap.size, W9.heap.size] W15 W15 := (Wk.Chg.refl _).more (by simp)
                  refine Wk.dVal 0 (some 39) (.int .i64 1) rfl rfl (by kernel_rfl) (by kernel_rfl) (by kernel_rfl) (fun _ _ _ h => h) (by kernel_rfl) (fun w' hw' => by kernel_rfl) sS5 ?_
                  refine Wk.dVal 1 (some 40) (.int .i64 1) rfl rfl (by kernel_rfl) (by kernel_rfl) (by kernel_rfl) (fun _ _ _ h => h) (by kernel_rfl) (fun w' hw' => by kernel_rfl) sS5 ?_
                  refine Wk.dVal 2 (some 41) (.pointer (some ⟨w.heap.size, 0, none⟩)) rfl rfl (by kernel_rfl) (by kernel_rfl) (by kernel_rfl) (fun _ _ _ h => h) (by kernel_rfl) (fun w' hw' => by kernel_rfl) sS5 ?_
                  refine Wk.dVal 3 (some 42) (.int .i64 1) rfl rfl (by kernel_rfl) (by kernel_rfl) (by kernel_rfl) (fun _ _ _ h => h) (by kernel_rfl) (fun w' hw' => by kernel_rfl) sS5 ?_
                  refine Wk.dVal 6 (some 45) (.pointer (some ⟨w.heap.size, 0, none⟩)) rfl rfl (by kernel_rfl) (by kernel_rfl) (by kernel_rfl) (fun _ _ _ h => h) (by kernel_rfl) (fun w' hw' => by kernel_rfl) sS5 ?_
                  refine Wk.dVal 7 (some 46) (.int .i64 1) rfl rfl (by kernel_rfl) (by kernel_rfl) (by kernel_rfl) (fun _ _ _ h => h) (by kernel_rfl) (fun w' hw' => by kernel_rfl) sS5 ?_
                  refine Wk.dOp 4 (by kernel_rfl) ?_
                  refine Wk.oCall (some 43) 13 [.tmp 41, .tmp 42] #[23, 3] [.pointer (some ⟨w.heap.size, 0, none⟩), .int .i64 1] rfl rfl (by kernel_rfl) rfl (by kernel_rfl) (by kernel_rfl) ?_
                  have hD19 := Mur.DskF.chg hD18 ch12 (fun s hs hl => ⟨by have := hM s hs; omega, trivial⟩)
                  have hD20 := Mur.DskF.chg hD19 ch13 (fun s hs hl => ⟨by have := hM s hs; omega, trivial⟩)
                  have hD21 := Mur.DskF.chg hD20 ch14 (fun s hs hl => trivial)
                  refine (Bytes_any w.heap.size (⟨⟨xb, xn⟩, ⟨yb, yn⟩⟩ : Dk) F 1 W15 hD21).mono ?_
                  rw [show Mur.Dk.bytes (⟨⟨xb, xn⟩, ⟨yb, yn⟩⟩ : Dk) 1 = yb from rfl]
                  rintro _ W16 ⟨vv2, rfl, HO2, ch15⟩
                  obtain ⟨AA2, nn2, rfl, hcc2, hmm3, hN2, HS2, hl2⟩ := Wk.own_sl HO2
                  have hB3 : Byt W16 AA2 yb.length yb := by obtain ⟨_, _, e_, _, _, hq⟩ := Mur.own_byt HO2; cases e_; exact hq
                  have zz16 := ch15.size
                  have sS6 := Wk.Chg.step sS5 ch15 trivial
                  refine ⟨_, rfl, sS6, ?_⟩
                  refine Wk.dOp2 5 8 (by kernel_rfl) ?_ ?_
                  · refine Wk.oVal (some 44) (.string (Mur.str yb)) rfl rfl (by kernel_rfl) (Mur.run_str 26 9 (.tmp 43) 5 rfl Try.underlying26 Try.underlying5 Try.underlying9 AA2 yb.length nn2 yb (by kernel_rfl) hB3) ?_
                    refine ⟨sS6, ?_⟩
                    refine Wk.dVal 9 (some 48) (.pointer (some ⟨W5.heap.size, 1, none⟩)) rfl rfl (by kernel_rfl) (by kernel_rfl) (by kernel_rfl) (fun _ _ _ h => h) (by kernel_rfl) (fun w' hw' => (Wk.index_arr 33 9 (.tmp 6) (.tmp 39) rfl 2 Try.underlying33 1 (by kernel_rfl) W5.heap.size 0 1 .i64 (by kernel_rfl) (by kernel_rfl) (by decide))) sS6 ?_
                    refine Wk.dOp 8 (by kernel_rfl) ?_
                    refine Wk.oCall (some 47) 14 [.tmp 45, .tmp 46] #[23, 3] [.pointer (some ⟨w.heap.size, 0, none⟩), .int .i64 1] rfl rfl (by kernel_rfl) rfl (by kernel_rfl) (by kernel_rfl) ?_
                    have hD22 := Mur.DskF.chg hD21 ch15 (fun s hs hl => trivial)
                    refine (Synced_any w.heap.size (⟨⟨xb, xn⟩, ⟨yb, yn⟩⟩ : Dk) F 1 W16 hD22).mono ?_
                    rw [show Mur.Dk.synced (⟨⟨xb, xn⟩, ⟨yb, yn⟩⟩ : Dk) 1 = yn from rfl]
                    rintro _ _ ⟨rfl, rfl⟩
                    refine ⟨_, rfl, sS6, ?_⟩
                    refine Wk.dOp 10 (by kernel_rfl) ?_
                    refine Wk.oExS none _ rfl rfl (by kernel_rfl) (Wk.store1 9 (.tmp 48) (.tmp 44) rfl (by kernel_rfl) W5.heap.size 1 (by kernel_rfl) (.string (Mur.str yb)) (by kernel_rfl) rfl 33 (#[.string (Mur.str xb), .string ⟨#[]⟩]) (Wk.Chg.hp ch15 (Wk.Chg.hp ch14 (Wk.Chg.hp ch13 hb5 ⟨by omega, trivial⟩) trivial) trivial) (by simp)) ?_
                    rintro W17 ⟨hb7, ch16⟩
                    replace hb7 : W17.heap[W5.heap.size]? = some (.cells #[.string (Mur.str xb), .string (Mur.str yb)] 33 (0, 0)) := hb7
                    have zz17 := ch16.size
                    have sS7 := Wk.Chg.step sS6 ch16 ⟨.inl (by simp), trivial⟩
                    refine ⟨sS7, ?_⟩
                    refine Wk.dVal 11 (some 49) (.pointer (some ⟨W9.heap.size, 1, none⟩)) rfl rfl (by kernel_rfl) (by kernel_rfl) (by kernel_rfl) (fun _ _ _ h => h) (by kernel_rfl) (fun w' hw' => (Wk.index_arr 27 3 (.tmp 7) (.tmp 40) rfl 2 Try.underlying27 1 (by kernel_rfl) W9.heap.size 0 1 .i64 (by kernel_rfl) (by kernel_rfl) (by decide))) sS7 ?_
                    refine Wk.dOp 12 (by kernel_rfl) ?_
                    refine Wk.oExS none _ rfl rfl (by kernel_rfl) (Wk.store1 3 (.tmp 49) (.tmp 47) rfl (by kernel_rfl) W9.heap.size 1 (by kernel_rfl) (.int .i64 ((yn : Nat) : Int)) (by kernel_rfl) rfl 27 #[.int .i64 ((xn : Nat) : Int), .int .i64 0] (Wk.Chg.hp ch16 (Wk.Chg.hp ch15 (Wk.Chg.hp ch14 hb6 trivial) trivial) ⟨by omega, trivial⟩) (by simp)) ?_
                    rintro W18 ⟨hb8, ch17⟩
                    replace hb8 : W18.heap[W9.heap.size]? = some (.cells #[.int .i64 ((xn : Nat) : Int), .int .i64 ((yn : Nat) : Int)] 27 (0, 0)) := hb8
                    have zz18 := ch17.size
                    have sS8 := Wk.Chg.step sS7 ch17 ⟨.inl (by simp), trivial⟩
                    refine ⟨sS8, ?_⟩
                    refine Wk.dEnd (by kernel_rfl) ?_
                    refine Wk.inN ?_
                    refine Wk.nxt ?_
                    refine Wk.reg ?_
                    refine Wk.rPure 0 (some 50) (.int .i64 2) rfl rfl (by kernel_rfl) (Wk.int64 (n := 1 + 1) (z := 2) (by omega) (by omega) (by omega) (by kernel_rfl)) ?_
                    refine Wk.rPure 1 (some 36) (.int .i64 2) rfl rfl (by kernel_rfl) (by kernel_rfl) ?_
                    refine Wk.rEnd 2 rfl ?_
                    refine Wk.nxt ?_
                    refine Wk.rdS ?_
                    refine wp_seq ?_
                    refine Wk.reg ?_
                    refine Wk.rPure 0 (some 37) (.bool false) rfl rfl (by kernel_rfl) (Wk.boolF (b := decide ((2 : Int) < (2 : Int))) (decide_eq_false (by decide)) (by kernel_rfl)) ?_
                    refine Wk.rEnd 1 rfl ?_
                    refine Wk.nxt ?_
                    refine wp_seq ?_
                    refine wp_cond_false (by kernel_rfl) ?_
                    refine wp_exit ?_
                    refine Wk.thX ?_
                    refine Wk.thX ?_
                    refine Wk.inX ?_
                    refine Wk.nxt ?_
                    refine wp_seq ?_
                    refine Wk.reg ?_
                    refine Wk.rPure 0 (some 51) (.pointer (some ⟨w.heap.size, 0, none⟩)) rfl rfl (by kernel_rfl) (by kernel_rfl) ?_
                    refine Wk.rPure 1 (some 52) (.pointer (some ⟨W3.heap.size, 3, none⟩)) rfl rfl (by kernel_rfl) (by kernel_rfl) ?_
                    refine Wk.rPure 2 (some 53) (.agg #[.int .i64 k0, .int .i64 k1]) rfl rfl (by kernel_rfl) (Wk.loadR 27 (.tmp 52) rfl _ Try.underlying27 rfl W3.heap.size 3 (by kernel_rfl) ([.int .i64 k0, .int .i64 k1]) (by kernel_rfl) (Wk.range_sub 3 [.int .i64 k0, .int .i64 k1] (Wk.Chg.hp ch17 (Wk.Chg.hp ch16 (Wk.Chg.hp ch15 (Wk.Chg.hp ch14 (Wk.Chg.hp ch13 (Wk.Chg.hp ch12 (Wk.Chg.hp ch11 (Wk.Chg.hp ch10 (Wk.Chg.hp ch9 (Wk.Chg.hp ch8 hb2 trivial) trivial) trivial) trivial) ⟨by omega, trivial⟩) ⟨by omega, trivial⟩) trivial) trivial) ⟨by omega, trivial⟩) ⟨by omega, trivial⟩) rfl)) ?_
                    refine Wk.rCall 3 (some 54) 15 [.tmp 51, .tmp 53] #[23, 27] [.pointer (some ⟨w.heap.size, 0, none⟩), .agg #[.int .i64 k0, .int .i64 k1]] rfl rfl (by kernel_rfl) rfl (by kernel_rfl) (by kernel_rfl) ?_
                    have hD23 := Mur.DskF.chg hD22 ch16 (fun s hs hl => ⟨by have := hM s hs; omega, trivial⟩)
                    have hD24 := Mur.DskF.chg hD23 ch17 (fun s hs hl => ⟨by have := hM s hs; omega, trivial⟩)
                    obtain ⟨nlx, ex⟩ : ∃ m, (⟨xb, xn⟩ : Fil).left k0 = m := ⟨_, rfl⟩
                    have hlx := Mur.left_le k0 hx1
                    rw [ex] at hlx
                    obtain ⟨nly, ey⟩ : ∃ m, (⟨yb, yn⟩ : Fil).left k1 = m := ⟨_, rfl⟩
                    have hly := Mur.left_le k1 hy1
                    rw [ey] at hly
                    refine (Crash_any w.heap.size (⟨⟨xb, xn⟩, ⟨yb, yn⟩⟩ : Dk) F k0 k1 W18 hD24).mono ?_
                    rw [show Mur.Dk.crash (⟨⟨xb, xn⟩, ⟨yb, yn⟩⟩ : Dk) k0 k1 = (⟨⟨xb.take nlx, nlx⟩, ⟨yb.take nly, nly⟩⟩ : Dk) from by rw [← ex, ← ey]; rfl]
                    rintro _ W19 ⟨FF5, rfl, hD25, ch18, no4⟩
                    have hM5 := Mur.DskF.mem hD25
                    have zz19 := ch18.size
                    refine ⟨_, rfl, ?_⟩
                    refine Wk.rEnd 4 rfl ?_
                    refine Wk.nxt ?_
                    refine wp_seq ?_
                    refine Wk.reg ?_
                    refine Wk.rPure 0 (some 55) (.int .i64 0) rfl rfl (by kernel_rfl) (by kernel_rfl) ?_
                    refine Wk.rEnd 1 rfl ?_
                    refine Wk.nxt ?_
                    refine wp_block ?_
                    refine Wk.loopN 3 ?_
                    refine Wk.rdS ?_
                    refine wp_seq ?_
                    refine Wk.reg ?_
                    refine Wk.rPure 0 (some 56) (.bool true) rfl rfl (by kernel_rfl) (Wk.boolT (b := decide ((0 : Int) < (2 : Int))) (decide_eq_true (by decide)) (by kernel_rfl)) ?_
                    refine Wk.rEnd 1 rfl ?_
                    refine Wk.nxt ?_
                    refine wp_seq ?_
                    refine wp_cond_true (by kernel_rfl) ?_
                    refine wp_skip ?_
                    refine Wk.nxt ?_
                    refine wp_seq ?_
                    refine wp_block ?_
                    refine wp_seq ?_
                    refine Wk.reg ?_
                    refine Wk.rPure 0 (some 57) (.int .i64 0) rfl rfl (by kernel_rfl) (by kernel_rfl) ?_
                    refine Wk.rPure 1 (some 9) (.int .i64 0) rfl rfl (by kernel_rfl) (by kernel_rfl) ?_
                    refine Wk.rEnd 2 rfl ?_
                    refine Wk.nxt ?_
                    refine wp_seq ?_
                    refine Wk.reg ?_
                    refine Wk.rPure 0 (some 58) (.pointer (some ⟨w.heap.size, 0, none⟩)) rfl rfl (by kernel_rfl) (by kernel_rfl) ?_
                    refine Wk.rPure 1 (some 59) (.int .i64 0) rfl rfl (by kernel_rfl) (by kernel_rfl) ?_
                    refine Wk.rCall 2 (some 60) 13 [.tmp 58, .tmp 59] #[23, 3] [.pointer (some ⟨w.heap.size, 0, none⟩), .int .i64 0] rfl rfl (by kernel_rfl) rfl (by kernel_rfl) (by kernel_rfl) ?_
                    refine (Bytes_any w.heap.size (⟨⟨xb.take nlx, nlx⟩, ⟨yb.take nly, nly⟩⟩ : Dk) FF5 0 W19 hD25).mono ?_
                    rw [show Mur.Dk.bytes (⟨⟨xb.take nlx, nlx⟩, ⟨yb.take nly, nly⟩⟩ : Dk) 0 = xb.take nlx from rfl]
                    rintro _ W20 ⟨vv3, rfl, HO3, ch19⟩
                    obtain ⟨AA3, nn3, rfl, hcc3, hmm4, hN3, HS3, hl3⟩ := Wk.own_sl HO3
                    have hB4 : Byt W20 AA3 (xb.take nlx).length (xb.take nlx) := by obtain ⟨_, _, e_, _, _, hq⟩ := Mur.own_byt HO3; cases e_; exact hq
                    have zz20 := ch19.size
                    refine ⟨_, rfl, ?_⟩
                    refine Wk.rPure 3 (some 61) (.string (Mur.str (xb.take nlx))) rfl rfl (by kernel_rfl) (Mur.run_str 26 9 (.tmp 60) 5 rfl Try.underlying26 Try.underlying5 Try.underlying9 AA3 ((xb.take nlx).length) nn3 (xb.take nlx) (by kernel_rfl) hB4) ?_
                    refine Wk.rPure 4 (some 10) (.string (Mur.str (xb.take nlx))) rfl rfl (by kernel_rfl) (by kernel_rfl) ?_
                    refine Wk.rEnd 5 rfl ?_
                    refine Wk.nxt ?_
                    refine wp_seq ?_
                    refine Wk.reg ?_
                    refine Wk.rPure 0 (some 62) (.string (Mur.str (xb.take nlx))) rfl rfl (by kernel_rfl) (by kernel_rfl) ?_
                    refine Wk.rPure 1 (some 63) (.int .i64 (((xb.take nlx).length : Nat) : Int)) rfl rfl (by kernel_rfl) (Mur.strlen (.tmp 62) 9 rfl Try.underlying9 (xb.take nlx) (by kernel_rfl)) ?_
                    refine Wk.rPure 2 (some 64) (.int .i64 0) rfl rfl (by kernel_rfl) (by kernel_rfl) ?_
                    refine Wk.rPure 3 (some 65) (.pointer (some ⟨W5.heap.size, 0, none⟩)) rfl rfl (by kernel_rfl) (Wk.index_arr 33 9 (.tmp 6) (.tmp 64) rfl 2 Try.underlying33 1 (by kernel_rfl) W5.heap.size 0 0 .i64 (by kernel_rfl) (by kernel_rfl) (by decide)) ?_
                    refine Wk.rPure 4 (some 66) (.string (Mur.str xb)) rfl rfl (by kernel_rfl) (Wk.load1 9 (.tmp 65) rfl (by kernel_rfl) ⟨W5.heap.size, 0, none⟩ (by kernel_rfl) (.string (Mur.str xb)) ((cell_of_row _ _ 0 _ _ _ (Wk.Chg.hp ch19 (Wk.Chg.hp ch18 (Wk.Chg.hp ch17 hb7 ⟨by omega, trivial⟩) (Mur.off_iff.2 (fun t ht => by have := hM t ht; omega))) trivial)).trans rfl)) ?_
                    refine Wk.rPure 5 (some 67) (.int .i64 ((xb.length : Nat) : Int)) rfl rfl (by kernel_rfl) (Mur.strlen (.tmp 66) 9 rfl Try.underlying9 xb (by kernel_rfl)) ?_
                    refine Wk.rPure 6 (some 68) (.bool false) rfl rfl (by kernel_rfl) (Wk.boolF (b := decide ((((xb.take nlx).length : Nat) : Int) > ((xb.length : Nat) : Int))) (decide_eq_false (by simp only [List.length_take]; omega)) (by kernel_rfl)) ?_
                    refine Wk.rPure 7 (some 69) (.bool false) rfl rfl (by kernel_rfl) (by kernel_rfl) ?_
                    refine Wk.rPure 8 (some 70) (.int .i64 0) rfl rfl (by kernel_rfl) (by kernel_rfl) ?_
                    refine Wk.rPure 9 (some 71) (.pointer (some ⟨W5.heap.size, 0, none⟩)) rfl rfl (by kernel_rfl) (Wk.index_arr 33 9 (.tmp 6) (.tmp 70) rfl 2 Try.underlying33 1 (by kernel_rfl) W5.heap.size 0 0 .i64 (by kernel_rfl) (by kernel_rfl) (by decide)) ?_
                    refine Wk.rPure 10 (some 72) (.string (Mur.str xb)) rfl rfl (by kernel_rfl) (Wk.load1 9 (.tmp 71) rfl (by kernel_rfl) ⟨W5.heap.size, 0, none⟩ (by kernel_rfl) (.string (Mur.str xb)) ((cell_of_row _ _ 0 _ _ _ (Wk.Chg.hp ch19 (Wk.Chg.hp ch18 (Wk.Chg.hp ch17 hb7 ⟨by omega, trivial⟩) (Mur.off_iff.2 (fun t ht => by have := hM t ht; omega))) trivial)).trans rfl)) ?_
                    refine Wk.rPure 11 (some 73) (.string (Mur.str (xb.take nlx))) rfl rfl (by kernel_rfl) (by kernel_rfl) ?_
                    refine Wk.rPure 12 (some 74) (.int .i64 (((xb.take nlx).length : Nat) : Int)) rfl rfl (by kernel_rfl) (Mur.strlen (.tmp 73) 9 rfl Try.underlying9 (xb.take nlx) (by kernel_rfl)) ?_
                    refine Wk.rPure 13 (some 75) (.string (Mur.str (xb.take ((xb.take nlx).length)))) rfl rfl (by kernel_rfl) (Mur.strto 9 (.tmp 72) (.tmp 74) rfl Try.underlying9 xb ((xb.take nlx).length) (by kernel_rfl) (by kernel_rfl) (by simp only [List.length_take]; omega)) ?_
                    refine Wk.rPure 14 (some 76) (.string (Mur.str (xb.take nlx))) rfl rfl (by kernel_rfl) (by kernel_rfl) ?_
                    refine Wk.rPure 15 (some 77) (.bool false) rfl rfl (by kernel_rfl) (Wk.boolF (b := decide ((xb.take ((xb.take nlx).length)) ≠ (xb.take nlx))) (decide_eq_false (fun h => h (by congr 1; simp only [List.length_take]; omega))) (Mur.strne 9 9 (.tmp 75) (.tmp 76) rfl (xb.take ((xb.take nlx).length)) (xb.take nlx) (by kernel_rfl) (by kernel_rfl))) ?_
                    refine Wk.rPure 16 (some 78) (.bool false) rfl rfl (by kernel_rfl) (by kernel_rfl) ?_
                    refine Wk.rPure 17 (some 79) (.bool false) rfl rfl (by kernel_rfl) (by kernel_rfl) ?_
                    refine Wk.rPure 18 (some 80) (.string (Mur.str (xb.take nlx))) rfl rfl (by kernel_rfl) (by kernel_rfl) ?_
                    refine Wk.rPure 19 (some 81) (.int .i64 (((xb.take nlx).length : Nat) : Int)) rfl rfl (by kernel_rfl) (Mur.strlen (.tmp 80) 9 rfl Try.underlying9 (xb.take nlx) (by kernel_rfl)) ?_
                    refine Wk.rPure 20 (some 82) (.int .i64 0) rfl rfl (by kernel_rfl) (by kernel_rfl) ?_
                    refine Wk.rPure 21 (some 83) (.pointer (some ⟨W9.heap.size, 0, none⟩)) rfl rfl (by kernel_rfl) (Wk.index_arr 27 3 (.tmp 7) (.tmp 82) rfl 2 Try.underlying27 1 (by kernel_rfl) W9.heap.size 0 0 .i64 (by kernel_rfl) (by kernel_rfl) (by decide)) ?_
                    refine Wk.rPure 22 (some 84) (.int .i64 ((xn : Nat) : Int)) rfl rfl (by kernel_rfl) (Wk.load1 3 (.tmp 83) rfl (by kernel_rfl) ⟨W9.heap.size, 0, none⟩ (by kernel_rfl) (.int .i64 ((xn : Nat) : Int)) ((cell_of_row _ _ 0 _ _ _ (Wk.Chg.hp ch19 (Wk.Chg.hp ch18 hb8 (Mur.off_iff.2 (fun t ht => by have := hM t ht; omega))) trivial)).trans rfl)) ?_
                    refine Wk.rPure 23 (some 85) (.bool false) rfl rfl (by kernel_rfl) (Wk.boolF (b := decide ((((xb.take nlx).length : Nat) : Int) < ((xn : Nat) : Int))) (decide_eq_false (by simp only [List.length_take]; omega)) (by kernel_rfl)) ?_
                    refine Wk.rPure 24 (some 86) (.bool false) rfl rfl (by kernel_rfl) (by kernel_rfl) ?_
                    refine Wk.rPure 25 (some 87) (.bool false) rfl rfl (by kernel_rfl) (by kernel_rfl) ?_
                    refine Wk.rPure 26 (some 88) (.pointer (some ⟨w.heap.size, 0, none⟩)) rfl rfl (by kernel_rfl) (by kernel_rfl) ?_
                    refine Wk.rPure 27 (some 89) (.int .i64 0) rfl rfl (by kernel_rfl) (by kernel_rfl) ?_
                    refine Wk.rCall 28 (some 90) 14 [.tmp 88, .tmp 89] #[23, 3] [.pointer (some ⟨w.heap.size, 0, none⟩), .int .i64 0] rfl rfl (by kernel_rfl) rfl (by kernel_rfl) (by kernel_rfl) ?_
                    have hD26 := Mur.DskF.chg hD25 ch19 (fun s hs hl => trivial)
                    refine (Synced_any w.heap.size (⟨⟨xb.take nlx, nlx⟩, ⟨yb.take nly, nly⟩⟩ : Dk) FF5 0 W20 hD26).mono ?_
                    rw [show Mur.Dk.synced (⟨⟨xb.take nlx, nlx⟩, ⟨yb.take nly, nly⟩⟩ : Dk) 0 = nlx from rfl]
                    rintro _ _ ⟨rfl, rfl⟩
                    refine ⟨_, rfl, ?_⟩
                    refine Wk.rPure 29 (some 91) (.string (Mur.str (xb.take nlx))) rfl rfl (by kernel_rfl) (by kernel_rfl) ?_
                    refine Wk.rPure 30 (some 92) (.int .i64 (((xb.take nlx).length : Nat) : Int)) rfl rfl (by kernel_rfl) (Mur.strlen (.tmp 91) 9 rfl Try.underlying9 (xb.take nlx) (by kernel_rfl)) ?_
                    refine Wk.rPure 31 (some 93) (.bool false) rfl rfl (by kernel_rfl) (Wk.boolF (b := (((nlx : Nat) : Int) != (((xb.take nlx).length : Nat) : Int))) (bne_eq_false_iff_eq.2 (by simp only [List.length_take]; omega)) (by kernel_rfl)) ?_
                    refine Wk.rPure 32 (some 94) (.bool false) rfl rfl (by kernel_rfl) (by kernel_rfl) ?_
                    refine Wk.rEnd 33 rfl ?_
                    refine Wk.nxt ?_
                    refine wp_cond_false (by kernel_rfl) ?_
                    refine wp_skip ?_
                    refine Wk.inN ?_
                    refine Wk.nxt ?_
                    refine Wk.reg ?_
                    refine Wk.rPure 0 (some 95) (.int .i64 1) rfl rfl (by kernel_rfl) (Wk.int64 (n := 0 + 1) (z := 1) (by omega) (by omega) (by omega) (by kernel_rfl)) ?_
                    refine Wk.rPure 1 (some 55) (.int .i64 1) rfl rfl (by kernel_rfl) (by kernel_rfl) ?_
                    refine Wk.rEnd 2 rfl ?_
                    refine Wk.nxt ?_
                    refine Wk.rdS ?_
                    refine wp_seq ?_
                    refine Wk.reg ?_
                    refine Wk.rPure 0 (some 56) (.bool true) rfl rfl (by kernel_rfl) (Wk.boolT (b := decide ((1 : Int) < (2 : Int))) (decide_eq_true (by decide)) (by kernel_rfl)) ?_
                    refine Wk.rEnd 1 rfl ?_
                    refine Wk.nxt ?_
                    refine wp_seq ?_
                    refine wp_cond_true (by kernel_rfl) ?_
                    refine wp_skip ?_
                    refine Wk.nxt ?_
                    refine wp_seq ?_
                    refine wp_block ?_
                    refine wp_seq ?_
                    refine Wk.reg ?_
                    refine Wk.rPure 0 (some 57) (.int .i64 1) rfl rfl (by kernel_rfl) (by kernel_rfl) ?_
                    refine Wk.rPure 1 (some 9) (.int .i64 1) rfl rfl (by kernel_rfl) (by kernel_rfl) ?_
                    refine Wk.rEnd 2 rfl ?_
                    refine Wk.nxt ?_
                    refine wp_seq ?_
                    refine Wk.reg ?_
                    refine Wk.rPure 0 (some 58) (.pointer (some ⟨w.heap.size, 0, none⟩)) rfl rfl (by kernel_rfl) (by kernel_rfl) ?_
                    refine Wk.rPure 1 (some 59) (.int .i64 1) rfl rfl (by kernel_rfl) (by kernel_rfl) ?_
                    refine Wk.rCall 2 (some 60) 13 [.tmp 58, .tmp 59] #[23, 3] [.pointer (some ⟨w.heap.size, 0, none⟩), .int .i64 1] rfl rfl (by kernel_rfl) rfl (by kernel_rfl) (by kernel_rfl) ?_
                    refine (Bytes_any w.heap.size (⟨⟨xb.take nlx, nlx⟩, ⟨yb.take nly, nly⟩⟩ : Dk) FF5 1 W20 hD26).mono ?_
                    rw [show Mur.Dk.bytes (⟨⟨xb.take nlx, nlx⟩, ⟨yb.take nly, nly⟩⟩ : Dk) 1 = yb.take nly from rfl]
                    rintro _ W21 ⟨vv4, rfl, HO4, ch20⟩
                    obtain ⟨AA4, nn4, rfl, hcc4, hmm5, hN4, HS4, hl4⟩ := Wk.own_sl HO4
                    have hB5 : Byt W21 AA4 (yb.take nly).length (yb.take nly) := by obtain ⟨_, _, e_, _, _, hq⟩ := Mur.own_byt HO4; cases e_; exact hq
                    have zz21 := ch20.size
                    refine ⟨_, rfl, ?_⟩
                    refine Wk.rPure 3 (some 61) (.string (Mur.str (yb.take nly))) rfl rfl (by kernel_rfl) (Mur.run_str 26 9 (.tmp 60) 5 rfl Try.underlying26 Try.underlying5 Try.underlying9 AA4 ((yb.take nly).length) nn4 (yb.take nly) (by kernel_rfl) hB5) ?_
                    refine Wk.rPure 4 (some 10) (.string (Mur.str (yb.take nly))) rfl rfl (by kernel_rfl) (by kernel_rfl) ?_
                    refine Wk.rEnd 5 rfl ?_
                    refine Wk.nxt ?_
                    refine wp_seq ?_
                    refine Wk.reg ?_
                    refine Wk.rPure 0 (some 62) (.string (Mur.str (yb.take nly))) rfl rfl (by kernel_rfl) (by kernel_rfl) ?_
                    refine Wk.rPure 1 (some 63) (.int .i64 (((yb.take nly).length : Nat) : Int)) rfl rfl (by kernel_rfl) (Mur.strlen (.tmp 62) 9 rfl Try.underlying9 (yb.take nly) (by kernel_rfl)) ?_
                    refine Wk.rPure 2 (some 64) (.int .i64 1) rfl rfl (by kernel_rfl) (by kernel_rfl) ?_
                    refine Wk.rPure 3 (some 65) (.pointer (some ⟨W5.heap.size, 1, none⟩)) rfl rfl (by kernel_rfl) (Wk.index_arr 33 9 (.tmp 6) (.tmp 64) rfl 2 Try.underlying33 1 (by kernel_rfl) W5.heap.size 0 1 .i64 (by kernel_rfl) (by kernel_rfl) (by decide)) ?_
                    refine Wk.rPure 4 (some 66) (.string (Mur.str yb)) rfl rfl (by kernel_rfl) (Wk.load1 9 (.tmp 65) rfl (by kernel_rfl) ⟨W5.heap.size, 1, none⟩ (by kernel_rfl) (.string (Mur.str yb)) ((cell_of_row _ _ 1 _ _ _ (Wk.Chg.hp ch20 (Wk.Chg.hp ch19 (Wk.Chg.hp ch18 (Wk.Chg.hp ch17 hb7 ⟨by omega, trivial⟩) (Mur.off_iff.2 (fun t ht => by have := hM t ht; omega))) trivial) trivial)).trans rfl)) ?_
                    refine Wk.rPure 5 (some 67) (.int .i64 ((yb.length : Nat) : Int)) rfl rfl (by kernel_rfl) (Mur.strlen (.tmp 66) 9 rfl Try.underlying9 yb (by kernel_rfl)) ?_
                    refine Wk.rPure 6 (some 68) (.bool false) rfl rfl (by kernel_rfl) (Wk.boolF (b := decide ((((yb.take nly).length : Nat) : Int) > ((yb.length : Nat) : Int))) (decide_eq_false (by simp only [List.length_take]; omega)) (by kernel_rfl)) ?_
                    refine Wk.rPure 7 (some 69) (.bool false) rfl rfl (by kernel_rfl) (by kernel_rfl) ?_
                    refine Wk.rPure 8 (some 70) (.int .i64 1) rfl rfl (by kernel_rfl) (by kernel_rfl) ?_
                    refine Wk.rPure 9 (some 71) (.pointer (some ⟨W5.heap.size, 1, none⟩)) rfl rfl (by kernel_rfl) (Wk.index_arr 33 9 (.tmp 6) (.tmp 70) rfl 2 Try.underlying33 1 (by kernel_rfl) W5.heap.size 0 1 .i64 (by kernel_rfl) (by kernel_rfl) (by decide)) ?_
                    refine Wk.rPure 10 (some 72) (.string (Mur.str yb)) rfl rfl (by kernel_rfl) (Wk.load1 9 (.tmp 71) rfl (by kernel_rfl) ⟨W5.heap.size, 1, none⟩ (by kernel_rfl) (.string (Mur.str yb)) ((cell_of_row _ _ 1 _ _ _ (Wk.Chg.hp ch20 (Wk.Chg.hp ch19 (Wk.Chg.hp ch18 (Wk.Chg.hp ch17 hb7 ⟨by omega, trivial⟩) (Mur.off_iff.2 (fun t ht => by have := hM t ht; omega))) trivial) trivial)).trans rfl)) ?_
                    refine Wk.rPure 11 (some 73) (.string (Mur.str (yb.take nly))) rfl rfl (by kernel_rfl) (by kernel_rfl) ?_
                    refine Wk.rPure 12 (some 74) (.int .i64 (((yb.take nly).length : Nat) : Int)) rfl rfl (by kernel_rfl) (Mur.strlen (.tmp 73) 9 rfl Try.underlying9 (yb.take nly) (by kernel_rfl)) ?_
                    refine Wk.rPure 13 (some 75) (.string (Mur.str (yb.take ((yb.take nly).length)))) rfl rfl (by kernel_rfl) (Mur.strto 9 (.tmp 72) (.tmp 74) rfl Try.underlying9 yb ((yb.take nly).length) (by kernel_rfl) (by kernel_rfl) (by simp only [List.length_take]; omega)) ?_
                    refine Wk.rPure 14 (some 76) (.string (Mur.str (yb.take nly))) rfl rfl (by kernel_rfl) (by kernel_rfl) ?_
                    refine Wk.rPure 15 (some 77) (.bool false) rfl rfl (by kernel_rfl) (Wk.boolF (b := decide ((yb.take ((yb.take nly).length)) ≠ (yb.take nly))) (decide_eq_false (fun h => h (by congr 1; simp only [List.length_take]; omega))) (Mur.strne 9 9 (.tmp 75) (.tmp 76) rfl (yb.take ((yb.take nly).length)) (yb.take nly) (by kernel_rfl) (by kernel_rfl))) ?_
                    refine Wk.rPure 16 (some 78) (.bool false) rfl rfl (by kernel_rfl) (by kernel_rfl) ?_
                    refine Wk.rPure 17 (some 79) (.bool false) rfl rfl (by kernel_rfl) (by kernel_rfl) ?_
                    refine Wk.rPure 18 (some 80) (.string (Mur.str (yb.take nly))) rfl rfl (by kernel_rfl) (by kernel_rfl) ?_
                    refine Wk.rPure 19 (some 81) (.int .i64 (((yb.take nly).length : Nat) : Int)) rfl rfl (by kernel_rfl) (Mur.strlen (.tmp 80) 9 rfl Try.underlying9 (yb.take nly) (by kernel_rfl)) ?_
                    refine Wk.rPure 20 (some 82) (.int .i64 1) rfl rfl (by kernel_rfl) (by kernel_rfl) ?_
                    refine Wk.rPure 21 (some 83) (.pointer (some ⟨W9.heap.size, 1, none⟩)) rfl rfl (by kernel_rfl) (Wk.index_arr 27 3 (.tmp 7) (.tmp 82) rfl 2 Try.underlying27 1 (by kernel_rfl) W9.heap.size 0 1 .i64 (by kernel_rfl) (by kernel_rfl) (by decide)) ?_
                    refine Wk.rPure 22 (some 84) (.int .i64 ((yn : Nat) : Int)) rfl rfl (by kernel_rfl) (Wk.load1 3 (.tmp 83) rfl (by kernel_rfl) ⟨W9.heap.size, 1, none⟩ (by kernel_rfl) (.int .i64 ((yn : Nat) : Int)) ((cell_of_row _ _ 1 _ _ _ (Wk.Chg.hp ch20 (Wk.Chg.hp ch19 (Wk.Chg.hp ch18 hb8 (Mur.off_iff.2 (fun t ht => by have := hM t ht; omega))) trivial) trivial)).trans rfl)) ?_
                    refine Wk.rPure 23 (some 85) (.bool false) rfl rfl (by kernel_rfl) (Wk.boolF (b := decide ((((yb.take nly).length : Nat) : Int) < ((yn : Nat) : Int))) (decide_eq_false (by simp only [List.length_take]; omega)) (by kernel_rfl)) ?_
                    refine Wk.rPure 24 (some 86) (.bool false) rfl rfl (by kernel_rfl) (by kernel_rfl) ?_
                    refine Wk.rPure 25 (some 87) (.bool false) rfl rfl (by kernel_rfl) (by kernel_rfl) ?_
                    refine Wk.rPure 26 (some 88) (.pointer (some ⟨w.heap.size, 0, none⟩)) rfl rfl (by kernel_rfl) (by kernel_rfl) ?_
                    refine Wk.rPure 27 (some 89) (.int .i64 1) rfl rfl (by kernel_rfl) (by kernel_rfl) ?_
                    refine Wk.rCall 28 (some 90) 14 [.tmp 88, .tmp 89] #[23, 3] [.pointer (some ⟨w.heap.size, 0, none⟩), .int .i64 1] rfl rfl (by kernel_rfl) rfl (by kernel_rfl) (by kernel_rfl) ?_
                    have hD27 := Mur.DskF.chg hD26 ch20 (fun s hs hl => trivial)
                    refine (Synced_any w.heap.size (⟨⟨xb.take nlx, nlx⟩, ⟨yb.take nly, nly⟩⟩ : Dk) FF5 1 W21 hD27).mono ?_
                    rw [show Mur.Dk.synced (⟨⟨xb.take nlx, nlx⟩, ⟨yb.take nly, nly⟩⟩ : Dk) 1 = nly from rfl]
                    rintro _ _ ⟨rfl, rfl⟩
                    refine ⟨_, rfl, ?_⟩
                    refine Wk.rPure 29 (some 91) (.string (Mur.str (yb.take nly))) rfl rfl (by kernel_rfl) (by kernel_rfl) ?_
                    refine Wk.rPure 30 (some 92) (.int .i64 (((yb.take nly).length : Nat) : Int)) rfl rfl (by kernel_rfl) (Mur.strlen (.tmp 91) 9 rfl Try.underlying9 (yb.take nly) (by kernel_rfl)) ?_
                    refine Wk.rPure 31 (some 93) (.bool false) rfl rfl (by kernel_rfl) (Wk.boolF (b := (((nly : Nat) : Int) != (((yb.take nly).length : Nat) : Int))) (bne_eq_false_iff_eq.2 (by simp only [List.length_take]; omega)) (by kernel_rfl)) ?_
                    refine Wk.rPure 32 (some 94) (.bool false) rfl rfl (by kernel_rfl) (by kernel_rfl) ?_
                    refine Wk.rEnd 33 rfl ?_
                    refine Wk.nxt ?_
                    refine wp_cond_false (by kernel_rfl) ?_
                    refine wp_skip ?_
                    refine Wk.inN ?_
                    refine Wk.nxt ?_
                    refine Wk.reg ?_
                    refine Wk.rPure 0 (some 95) (.int .i64 2) rfl rfl (by kernel_rfl) (Wk.int64 (n := 1 + 1) (z := 2) (by omega) (by omega) (by omega) (by kernel_rfl)) ?_
                    refine Wk.rPure 1 (some 55) (.int .i64 2) rfl rfl (by kernel_rfl) (by kernel_rfl) ?_
                    refine Wk.rEnd 2 rfl ?_
                    refine Wk.nxt ?_
                    refine Wk.rdS ?_
                    refine wp_seq ?_
                    refine Wk.reg ?_
                    refine Wk.rPure 0 (some 56) (.bool false) rfl rfl (by kernel_rfl) (Wk.boolF (b := decide ((2 : Int) < (2 : Int))) (decide_eq_false (by decide)) (by kernel_rfl)) ?_
                    refine Wk.rEnd 1 rfl ?_
                    refine Wk.nxt ?_
                    refine wp_seq ?_
                    refine wp_cond_false (by kernel_rfl) ?_
                    refine wp_exit ?_
                    refine Wk.thX ?_
                    refine Wk.thX ?_
                    refine Wk.inX ?_
                    refine Wk.inN ?_
                    refine Wk.inN ?_
                    refine Wk.nxt ?_
                    refine Wk.reg ?_
                    refine Wk.rPure 0 (some 116) (.int .i64 ((k + 1 : Nat) : Int)) rfl rfl (by kernel_rfl) (Wk.int64 (n := ((k : Nat) : Int) + 1) (z := ((k + 1 : Nat) : Int)) (by omega) (by omega) (by omega) (by kernel_rfl)) ?_
                    refine Wk.rPure 1 (some 26) (.int .i64 ((k + 1 : Nat) : Int)) rfl rfl (by kernel_rfl) (by kernel_rfl) ?_
                    refine Wk.rEnd 2 rfl ?_
                    refine Wk.nxt ?_
                    have kk15 := Wk.Chg.step HB ch3 trivial
                    have kk16 := Wk.Chg.step kk15 ch4 ⟨.inr (by omega), trivial⟩
                    have kk17 := Wk.Chg.step kk16 ch8 trivial
                    have kk18 := Wk.Chg.step kk17 ch9 trivial
                    have kk19 := Wk.Chg.step kk18 ch10 trivial
                    have kk20 := Wk.Chg.step kk19 ch11 trivial
                    have kk21 := Wk.Chg.step kk20 ch12 ⟨.inr (by omega), trivial⟩
                    have kk22 := Wk.Chg.step kk21 ch13 ⟨.inr (by omega), trivial⟩
                    have kk23 := Wk.Chg.step kk22 ch14 trivial
                    have kk24 := Wk.Chg.step kk23 ch15 trivial
                    have kk25 := Wk.Chg.step kk24 ch16 ⟨.inr (by omega), trivial⟩
                    have kk26 := Wk.Chg.step kk25 ch17 ⟨.inr (by omega), trivial⟩
                    have kk27 := Wk.Chg.step kk26 ch18 (Mur.newOr_iff.2 (fun t ht => .inr (by have := hM t ht; omega)))
                    have kk28 := Wk.Chg.step kk27 ch19 trivial
                    have kk29 := Wk.Chg.step kk28 ch20 trivial
                    refine ⟨_, ?_, k + 1, (⟨⟨xb.take nlx, nlx⟩, ⟨yb.take nly, nly⟩⟩ : Dk), FF5, rfl, by kernel_rfl, (by omega), hD27, kk29⟩
                    · omega
                  · refine Wk.oCall (some 47) 14 [.tmp 45, .tmp 46] #[23, 3] [.pointer (some ⟨w.heap.size, 0, none⟩), .int .i64 1] rfl rfl (by kernel_rfl) rfl (by kernel_rfl) (by kernel_rfl) ?_
                    have hD28 := Mur.DskF.chg hD21 ch15 (fun s hs hl => trivial)
                    refine (Synced_any w.heap.size (⟨⟨xb, xn⟩, ⟨yb, yn⟩⟩ : Dk) F 1 W16 hD28).mono ?_
                    rw [show Mur.Dk.synced (⟨⟨xb, xn⟩, ⟨yb, yn⟩⟩ : Dk) 1 = yn from rfl]
                    rintro _ _ ⟨rfl, rfl⟩
                    refine ⟨_, rfl, sS6, ?_⟩
                    refine Wk.dOp 5 (by kernel_rfl) ?_
                    refine Wk.oVal (some 44) (.string (Mur.str yb)) rfl rfl (by kernel_rfl) (Mur.run_str 26 9 (.tmp 43) 5 rfl Try.underlying26 Try.underlying5 Try.underlying9 AA2 yb.length nn2 yb (by kernel_rfl) hB3) ?_
                    refine ⟨sS6, ?_⟩
                    refine Wk.dVal 9 (some 48) (.pointer (some ⟨W5.heap.size, 1, none⟩)) rfl rfl (by kernel_rfl) (by kernel_rfl) (by kernel_rfl) (fun _ _ _ h => h) (by kernel_rfl) (fun w' hw' => (Wk.index_arr 33 9 (.tmp 6) (.tmp 39) rfl 2 Try.underlying33 1 (by kernel_rfl) W5.heap.size 0 1 .i64 (by kernel_rfl) (by kernel_rfl) (by decide))) sS6 ?_
                    refine Wk.dOp 10 (by kernel_rfl) ?_
                    refine Wk.oExS none _ rfl rfl (by kernel_rfl) (Wk.store1 9 (.tmp 48) (.tmp 44) rfl (by kernel_rfl) W5.heap.size 1 (by kernel_rfl) (.string (Mur.str yb)) (by kernel_rfl) rfl 33 (#[.string (Mur.str xb), .string ⟨#[]⟩]) (Wk.Chg.hp ch15 (Wk.Chg.hp ch14 (Wk.Chg.hp ch13 hb5 ⟨by omega, trivial⟩) trivial) trivial) (by simp)) ?_
                    rintro W22 ⟨hb9, ch21⟩
                    replace hb9 : W22.heap[W5.heap.size]? = some (.cells #[.string (Mur.str xb), .string (Mur.str yb)] 33 (0, 0)) := hb9
                    have zz22 := ch21.size
                    have sS9 := Wk.Chg.step sS6 ch21 ⟨.inl (by simp), trivial⟩
                    refine ⟨sS9, ?_⟩
                    refine Wk.dVal 11 (some 49) (.pointer (some ⟨W9.heap.size, 1, none⟩)) rfl rfl (by kernel_rfl) (by kernel_rfl) (by kernel_rfl) (fun _ _ _ h => h) (by kernel_rfl) (fun w' hw' => (Wk.index_arr 27 3 (.tmp 7) (.tmp 40) rfl 2 Try.underlying27 1 (by kernel_rfl) W9.heap.size 0 1 .i64 (by kernel_rfl) (by kernel_rfl) (by decide))) sS9 ?_
                    refine Wk.dOp 12 (by kernel_rfl) ?_
                    refine Wk.oExS none _ rfl rfl (by kernel_rfl) (Wk.store1 3 (.tmp 49) (.tmp 47) rfl (by kernel_rfl) W9.heap.size 1 (by kernel_rfl) (.int .i64 ((yn : Nat) : Int)) (by kernel_rfl) rfl 27 #[.int .i64 ((xn : Nat) : Int), .int .i64 0] (Wk.Chg.hp ch21 (Wk.Chg.hp ch15 (Wk.Chg.hp ch14 hb6 trivial) trivial) ⟨by omega, trivial⟩) (by simp)) ?_
                    rintro W23 ⟨hb10, ch22⟩
                    replace hb10 : W23.heap[W9.heap.size]? = some (.cells #[.int .i64 ((xn : Nat) : Int), .int .i64 ((yn : Nat) : Int)] 27 (0, 0)) := hb10
                    have zz23 := ch22.size
                    have sS10 := Wk.Chg.step sS9 ch22 ⟨.inl (by simp), trivial⟩
                    refine ⟨sS10, ?_⟩
                    refine Wk.dEnd (by kernel_rfl) ?_
                    refine Wk.inN ?_
                    refine Wk.nxt ?_
                    refine Wk.reg ?_
                    refine Wk.rPure 0 (some 50) (.int .i64 2) rfl rfl (by kernel_rfl) (Wk.int64 (n := 1 + 1) (z := 2) (by omega) (by omega) (by omega) (by kernel_rfl)) ?_
                    refine Wk.rPure 1 (some 36) (.int .i64 2) rfl rfl (by kernel_rfl) (by kernel_rfl) ?_
                    refine Wk.rEnd 2 rfl ?_
                    refine Wk.nxt ?_
                    refine Wk.rdS ?_
                    refine wp_seq ?_
                    refine Wk.reg ?_
                    refine Wk.rPure 0 (some 37) (.bool false) rfl rfl (by kernel_rfl) (Wk.boolF (b := decide ((2 : Int) < (2 : Int))) (decide_eq_false (by decide)) (by kernel_rfl)) ?_
                    refine Wk.rEnd 1 rfl ?_
                    refine Wk.nxt ?_
                    refine wp_seq ?_
                    refine wp_cond_false (by kernel_rfl) ?_
                    refine wp_exit ?_
                    refine Wk.thX ?_
                    refine Wk.thX ?_
                    refine Wk.inX ?_
                    refine Wk.nxt ?_
                    refine wp_seq ?_
                    refine Wk.reg ?_
                    refine Wk.rPure 0 (some 51) (.pointer (some ⟨w.heap.size, 0, none⟩)) rfl rfl (by kernel_rfl) (by kernel_rfl) ?_
                    refine Wk.rPure 1 (some 52) (.pointer (some ⟨W3.heap.size, 3, none⟩)) rfl rfl (by kernel_rfl) (by kernel_rfl) ?_
                    refine Wk.rPure 2 (some 53) (.agg #[.int .i64 k0, .int .i64 k1]) rfl rfl (by kernel_rfl) (Wk.loadR 27 (.tmp 52) rfl _ Try.underlying27 rfl W3.heap.size 3 (by kernel_rfl) ([.int .i64 k0, .int .i64 k1]) (by kernel_rfl) (Wk.range_sub 3 [.int .i64 k0, .int .i64 k1] (Wk.Chg.hp ch22 (Wk.Chg.hp ch21 (Wk.Chg.hp ch15 (Wk.Chg.hp ch14 (Wk.Chg.hp ch13 (Wk.Chg.hp ch12 (Wk.Chg.hp ch11 (Wk.Chg.hp ch10 (Wk.Chg.hp ch9 (Wk.Chg.hp ch8 hb2 trivial) trivial) trivial) trivial) ⟨by omega, trivial⟩) ⟨by omega, trivial⟩) trivial) trivial) ⟨by omega, trivial⟩) ⟨by omega, trivial⟩) rfl)) ?_
                    refine Wk.rCall 3 (some 54) 15 [.tmp 51, .tmp 53] #[23, 27] [.pointer (some ⟨w.heap.size, 0, none⟩), .agg #[.int .i64 k0, .int .i64 k1]] rfl rfl (by kernel_rfl) rfl (by kernel_rfl) (by kernel_rfl) ?_
                    have hD29 := Mur.DskF.chg hD28 ch21 (fun s hs hl => ⟨by have := hM s hs; omega, trivial⟩)
                    have hD30 := Mur.DskF.chg hD29 ch22 (fun s hs hl => ⟨by have := hM s hs; omega, trivial⟩)
                    obtain ⟨nlx, ex⟩ : ∃ m, (⟨xb, xn⟩ : Fil).left k0 = m := ⟨_, rfl⟩
                    have hlx := Mur.left_le k0 hx1
                    rw [ex] at hlx
                    obtain ⟨nly, ey⟩ : ∃ m, (⟨yb, yn⟩ : Fil).left k1 = m := ⟨_, rfl⟩
                    have hly := Mur.left_le k1 hy1
                    rw [ey] at hly
                    refine (Crash_any w.heap.size (⟨⟨xb, xn⟩, ⟨yb, yn⟩⟩ : Dk) F k0 k1 W23 hD30).mono ?_
                    rw [show Mur.Dk.crash (⟨⟨xb, xn⟩, ⟨yb, yn⟩⟩ : Dk) k0 k1 = (⟨⟨xb.take nlx, nlx⟩, ⟨yb.take nly, nly⟩⟩ : Dk) from by rw [← ex, ← ey]; rfl]
                    rintro _ W24 ⟨FF6, rfl, hD31, ch23, no5⟩
                    have hM6 := Mur.DskF.mem hD31
                    have zz24 := ch23.size
                    refine ⟨_, rfl, ?_⟩
                    refine Wk.rEnd 4 rfl ?_
                    refine Wk.nxt ?_
                    refine wp_seq ?_
                    refine Wk.reg ?_
                    refine Wk.rPure 0 (some 55) (.int .i64 0) rfl rfl (by kernel_rfl) (by kernel_rfl) ?_
                    refine Wk.rEnd 1 rfl ?_
                    refine Wk.nxt ?_
                    refine wp_block ?_
                    refine Wk.loopN 3 ?_
                    refine Wk.rdS ?_
                    refine wp_seq ?_
                    refine Wk.reg ?_
                    refine Wk.rPure 0 (some 56) (.bool true) rfl rfl (by kernel_rfl) (Wk.boolT (b := decide ((0 : Int) < (2 : Int))) (decide_eq_true (by decide)) (by kernel_rfl)) ?_
                    refine Wk.rEnd 1 rfl ?_
                    refine Wk.nxt ?_
                    refine wp_seq ?_
                    refine wp_cond_true (by kernel_rfl) ?_
                    refine wp_skip ?_
                    refine Wk.nxt ?_
                    refine wp_seq ?_
                    refine wp_block ?_
                    refine wp_seq ?_
                    refine Wk.reg ?_
                    refine Wk.rPure 0 (some 57) (.int .i64 0) rfl rfl (by kernel_rfl) (by kernel_rfl) ?_
                    refine Wk.rPure 1 (some 9) (.int .i64 0) rfl rfl (by kernel_rfl) (by kernel_rfl) ?_
                    refine Wk.rEnd 2 rfl ?_
                    refine Wk.nxt ?_
                    refine wp_seq ?_
                    refine Wk.reg ?_
                    refine Wk.rPure 0 (some 58) (.pointer (some ⟨w.heap.size, 0, none⟩)) rfl rfl (by kernel_rfl) (by kernel_rfl) ?_
                    refine Wk.rPure 1 (some 59) (.int .i64 0) rfl rfl (by kernel_rfl) (by kernel_rfl) ?_
                    refine Wk.rCall 2 (some 60) 13 [.tmp 58, .tmp 59] #[23, 3] [.pointer (some ⟨w.heap.size, 0, none⟩), .int .i64 0] rfl rfl (by kernel_rfl) rfl (by kernel_rfl) (by kernel_rfl) ?_
                    refine (Bytes_any w.heap.size (⟨⟨xb.take nlx, nlx⟩, ⟨yb.take nly, nly⟩⟩ : Dk) FF6 0 W24 hD31).mono ?_
                    rw [show Mur.Dk.bytes (⟨⟨xb.take nlx, nlx⟩, ⟨yb.take nly, nly⟩⟩ : Dk) 0 = xb.take nlx from rfl]
                    rintro _ W25 ⟨vv5, rfl, HO5, ch24⟩
                    obtain ⟨AA5, nn5, rfl, hcc5, hmm6, hN5, HS5, hl5⟩ := Wk.own_sl HO5
                    have hB6 : Byt W25 AA5 (xb.take nlx).length (xb.take nlx) := by obtain ⟨_, _, e_, _, _, hq⟩ := Mur.own_byt HO5; cases e_; exact hq
                    have zz25 := ch24.size
                    refine ⟨_, rfl, ?_⟩
                    refine Wk.rPure 3 (some 61) (.string (Mur.str (xb.take nlx))) rfl rfl (by kernel_rfl) (Mur.run_str 26 9 (.tmp 60) 5 rfl Try.underlying26 Try.underlying5 Try.underlying9 AA5 ((xb.take nlx).length) nn5 (xb.take nlx) (by kernel_rfl) hB6) ?_
                    refine Wk.rPure 4 (some 10) (.string (Mur.str (xb.take nlx))) rfl rfl (by kernel_rfl) (by kernel_rfl) ?_
                    refine Wk.rEnd 5 rfl ?_
                    refine Wk.nxt ?_
                    refine wp_seq ?_
                    refine Wk.reg ?_
                    refine Wk.rPure 0 (some 62) (.string (Mur.str (xb.take nlx))) rfl rfl (by kernel_rfl) (by kernel_rfl) ?_
                    refine Wk.rPure 1 (some 63) (.int .i64 (((xb.take nlx).length : Nat) : Int)) rfl rfl (by kernel_rfl) (Mur.strlen (.tmp 62) 9 rfl Try.underlying9 (xb.take nlx) (by kernel_rfl)) ?_
                    refine Wk.rPure 2 (some 64) (.int .i64 0) rfl rfl (by kernel_rfl) (by kernel_rfl) ?_
                    refine Wk.rPure 3 (some 65) (.pointer (some ⟨W5.heap.size, 0, none⟩)) rfl rfl (by kernel_rfl) (Wk.index_arr 33 9 (.tmp 6) (.tmp 64) rfl 2 Try.underlying33 1 (by kernel_rfl) W5.heap.size 0 0 .i64 (by kernel_rfl) (by kernel_rfl) (by decide)) ?_
                    refine Wk.rPure 4 (some 66) (.string (Mur.str xb)) rfl rfl (by kernel_rfl) (Wk.load1 9 (.tmp 65) rfl (by kernel_rfl) ⟨W5.heap.size, 0, none⟩ (by kernel_rfl) (.string (Mur.str xb)) ((cell_of_row _ _ 0 _ _ _ (Wk.Chg.hp ch24 (Wk.Chg.hp ch23 (Wk.Chg.hp ch22 hb9 ⟨by omega, trivial⟩) (Mur.off_iff.2 (fun t ht => by have := hM t ht; omega))) trivial)).trans rfl)) ?_
                    refine Wk.rPure 5 (some 67) (.int .i64 ((xb.length : Nat) : Int)) rfl rfl (by kernel_rfl) (Mur.strlen (.tmp 66) 9 rfl Try.underlying9 xb (by kernel_rfl)) ?_
                    refine Wk.rPure 6 (some 68) (.bool false) rfl rfl (by kernel_rfl) (Wk.boolF (b := decide ((((xb.take nlx).length : Nat) : Int) > ((xb.length : Nat) : Int))) (decide_eq_false (by simp only [List.length_take]; omega)) (by kernel_rfl)) ?_
                    refine Wk.rPure 7 (some 69) (.bool false) rfl rfl (by kernel_rfl) (by kernel_rfl) ?_
                    refine Wk.rPure 8 (some 70) (.int .i64 0) rfl rfl (by kernel_rfl) (by kernel_rfl) ?_
                    refine Wk.rPure 9 (some 71) (.pointer (some ⟨W5.heap.size, 0, none⟩)) rfl rfl (by kernel_rfl) (Wk.index_arr 33 9 (.tmp 6) (.tmp 70) rfl 2 Try.underlying33 1 (by kernel_rfl) W5.heap.size 0 0 .i64 (by kernel_rfl) (by kernel_rfl) (by decide)) ?_
                    refine Wk.rPure 10 (some 72) (.string (Mur.str xb)) rfl rfl (by kernel_rfl) (Wk.load1 9 (.tmp 71) rfl (by kernel_rfl) ⟨W5.heap.size, 0, none⟩ (by kernel_rfl) (.string (Mur.str xb)) ((cell_of_row _ _ 0 _ _ _ (Wk.Chg.hp ch24 (Wk.Chg.hp ch23 (Wk.Chg.hp ch22 hb9 ⟨by omega, trivial⟩) (Mur.off_iff.2 (fun t ht => by have := hM t ht; omega))) trivial)).trans rfl)) ?_
                    refine Wk.rPure 11 (some 73) (.string (Mur.str (xb.take nlx))) rfl rfl (by kernel_rfl) (by kernel_rfl) ?_
                    refine Wk.rPure 12 (some 74) (.int .i64 (((xb.take nlx).length : Nat) : Int)) rfl rfl (by kernel_rfl) (Mur.strlen (.tmp 73) 9 rfl Try.underlying9 (xb.take nlx) (by kernel_rfl)) ?_
                    refine Wk.rPure 13 (some 75) (.string (Mur.str (xb.take ((xb.take nlx).length)))) rfl rfl (by kernel_rfl) (Mur.strto 9 (.tmp 72) (.tmp 74) rfl Try.underlying9 xb ((xb.take nlx).length) (by kernel_rfl) (by kernel_rfl) (by simp only [List.length_take]; omega)) ?_
                    refine Wk.rPure 14 (some 76) (.string (Mur.str (xb.take nlx))) rfl rfl (by kernel_rfl) (by kernel_rfl) ?_
                    refine Wk.rPure 15 (some 77) (.bool false) rfl rfl (by kernel_rfl) (Wk.boolF (b := decide ((xb.take ((xb.take nlx).length)) ≠ (xb.take nlx))) (decide_eq_false (fun h => h (by congr 1; simp only [List.length_take]; omega))) (Mur.strne 9 9 (.tmp 75) (.tmp 76) rfl (xb.take ((xb.take nlx).length)) (xb.take nlx) (by kernel_rfl) (by kernel_rfl))) ?_
                    refine Wk.rPure 16 (some 78) (.bool false) rfl rfl (by kernel_rfl) (by kernel_rfl) ?_
                    refine Wk.rPure 17 (some 79) (.bool false) rfl rfl (by kernel_rfl) (by kernel_rfl) ?_
                    refine Wk.rPure 18 (some 80) (.string (Mur.str (xb.take nlx))) rfl rfl (by kernel_rfl) (by kernel_rfl) ?_
                    refine Wk.rPure 19 (some 81) (.int .i64 (((xb.take nlx).length : Nat) : Int)) rfl rfl (by kernel_rfl) (Mur.strlen (.tmp 80) 9 rfl Try.underlying9 (xb.take nlx) (by kernel_rfl)) ?_
                    refine Wk.rPure 20 (some 82) (.int .i64 0) rfl rfl (by kernel_rfl) (by kernel_rfl) ?_
                    refine Wk.rPure 21 (some 83) (.pointer (some ⟨W9.heap.size, 0, none⟩)) rfl rfl (by kernel_rfl) (Wk.index_arr 27 3 (.tmp 7) (.tmp 82) rfl 2 Try.underlying27 1 (by kernel_rfl) W9.heap.size 0 0 .i64 (by kernel_rfl) (by kernel_rfl) (by decide)) ?_
                    refine Wk.rPure 22 (some 84) (.int .i64 ((xn : Nat) : Int)) rfl rfl (by kernel_rfl) (Wk.load1 3 (.tmp 83) rfl (by kernel_rfl) ⟨W9.heap.size, 0, none⟩ (by kernel_rfl) (.int .i64 ((xn : Nat) : Int)) ((cell_of_row _ _ 0 _ _ _ (Wk.Chg.hp ch24 (Wk.Chg.hp ch23 hb10 (Mur.off_iff.2 (fun t ht => by have := hM t ht; omega))) trivial)).trans rfl)) ?_
                    refine Wk.rPure 23 (some 85) (.bool false) rfl rfl (by kernel_rfl) (Wk.boolF (b := decide ((((xb.take nlx).length : Nat) : Int) < ((xn : Nat) : Int))) (decide_eq_false (by simp only [List.length_take]; omega)) (by kernel_rfl)) ?_
                    refine Wk.rPure 24 (some 86) (.bool false) rfl rfl (by kernel_rfl) (by kernel_rfl) ?_
                    refine Wk.rPure 25 (some 87) (.bool false) rfl rfl (by kernel_rfl) (by kernel_rfl) ?_
                    refine Wk.rPure 26 (some 88) (.pointer (some ⟨w.heap.size, 0, none⟩)) rfl rfl (by kernel_rfl) (by kernel_rfl) ?_
                    refine Wk.rPure 27 (some 89) (.int .i64 0) rfl rfl (by kernel_rfl) (by kernel_rfl) ?_
                    refine Wk.rCall 28 (some 90) 14 [.tmp 88, .tmp 89] #[23, 3] [.pointer (some ⟨w.heap.size, 0, none⟩), .int .i64 0] rfl rfl (by kernel_rfl) rfl (by kernel_rfl) (by kernel_rfl) ?_
                    have hD32 := Mur.DskF.chg hD31 ch24 (fun s hs hl => trivial)
                    refine (Synced_any w.heap.size (⟨⟨xb.take nlx, nlx⟩, ⟨yb.take nly, nly⟩⟩ : Dk) FF6 0 W25 hD32).mono ?_
                    rw [show Mur.Dk.synced (⟨⟨xb.take nlx, nlx⟩, ⟨yb.take nly, nly⟩⟩ : Dk) 0 = nlx from rfl]
                    rintro _ _ ⟨rfl, rfl⟩
                    refine ⟨_, rfl, ?_⟩
                    refine Wk.rPure 29 (some 91) (.string (Mur.str (xb.take nlx))) rfl rfl (by kernel_rfl) (by kernel_rfl) ?_
                    refine Wk.rPure 30 (some 92) (.int .i64 (((xb.take nlx).length : Nat) : Int)) rfl rfl (by kernel_rfl) (Mur.strlen (.tmp 91) 9 rfl Try.underlying9 (xb.take nlx) (by kernel_rfl)) ?_
                    refine Wk.rPure 31 (some 93) (.bool false) rfl rfl (by kernel_rfl) (Wk.boolF (b := (((nlx : Nat) : Int) != (((xb.take nlx).length : Nat) : Int))) (bne_eq_false_iff_eq.2 (by simp only [List.length_take]; omega)) (by kernel_rfl)) ?_
                    refine Wk.rPure 32 (some 94) (.bool false) rfl rfl (by kernel_rfl) (by kernel_rfl) ?_
                    refine Wk.rEnd 33 rfl ?_
                    refine Wk.nxt ?_
                    refine wp_cond_false (by kernel_rfl) ?_
                    refine wp_skip ?_
                    refine Wk.inN ?_
                    refine Wk.nxt ?_
                    refine Wk.reg ?_
                    refine Wk.rPure 0 (some 95) (.int .i64 1) rfl rfl (by kernel_rfl) (Wk.int64 (n := 0 + 1) (z := 1) (by omega) (by omega) (by omega) (by kernel_rfl)) ?_
                    refine Wk.rPure 1 (some 55) (.int .i64 1) rfl rfl (by kernel_rfl) (by kernel_rfl) ?_
                    refine Wk.rEnd 2 rfl ?_
                    refine Wk.nxt ?_
                    refine Wk.rdS ?_
                    refine wp_seq ?_
                    refine Wk.reg ?_
                    refine Wk.rPure 0 (some 56) (.bool true) rfl rfl (by kernel_rfl) (Wk.boolT (b := decide ((1 : Int) < (2 : Int))) (decide_eq_true (by decide)) (by kernel_rfl)) ?_
                    refine Wk.rEnd 1 rfl ?_
                    refine Wk.nxt ?_
                    refine wp_seq ?_
                    refine wp_cond_true (by kernel_rfl) ?_
                    refine wp_skip ?_
                    refine Wk.nxt ?_
                    refine wp_seq ?_
                    refine wp_block ?_
                    refine wp_seq ?_
                    refine Wk.reg ?_
                    refine Wk.rPure 0 (some 57) (.int .i64 1) rfl rfl (by kernel_rfl) (by kernel_rfl) ?_
                    refine Wk.rPure 1 (some 9) (.int .i64 1) rfl rfl (by kernel_rfl) (by kernel_rfl) ?_
                    refine Wk.rEnd 2 rfl ?_
                    refine Wk.nxt ?_
                    refine wp_seq ?_
                    refine Wk.reg ?_
                    refine Wk.rPure 0 (some 58) (.pointer (some ⟨w.heap.size, 0, none⟩)) rfl rfl (by kernel_rfl) (by kernel_rfl) ?_
                    refine Wk.rPure 1 (some 59) (.int .i64 1) rfl rfl (by kernel_rfl) (by kernel_rfl) ?_
                    refine Wk.rCall 2 (some 60) 13 [.tmp 58, .tmp 59] #[23, 3] [.pointer (some ⟨w.heap.size, 0, none⟩), .int .i64 1] rfl rfl (by kernel_rfl) rfl (by kernel_rfl) (by kernel_rfl) ?_
                    refine (Bytes_any w.heap.size (⟨⟨xb.take nlx, nlx⟩, ⟨yb.take nly, nly⟩⟩ : Dk) FF6 1 W25 hD32).mono ?_
                    rw [show Mur.Dk.bytes (⟨⟨xb.take nlx, nlx⟩, ⟨yb.take nly, nly⟩⟩ : Dk) 1 = yb.take nly from rfl]
                    rintro _ W26 ⟨vv6, rfl, HO6, ch25⟩
                    obtain ⟨AA6, nn6, rfl, hcc6, hmm7, hN6, HS6, hl6⟩ := Wk.own_sl HO6
                    have hB7 : Byt W26 AA6 (yb.take nly).length (yb.take nly) := by obtain ⟨_, _, e_, _, _, hq⟩ := Mur.own_byt HO6; cases e_; exact hq
                    have zz26 := ch25.size
                    refine ⟨_, rfl, ?_⟩
                    refine Wk.rPure 3 (some 61) (.string (Mur.str (yb.take nly))) rfl rfl (by kernel_rfl) (Mur.run_str 26 9 (.tmp 60) 5 rfl Try.underlying26 Try.underlying5 Try.underlying9 AA6 ((yb.take nly).length) nn6 (yb.take nly) (by kernel_rfl) hB7) ?_
                    refine Wk.rPure 4 (some 10) (.string (Mur.str (yb.take nly))) rfl rfl (by kernel_rfl) (by kernel_rfl) ?_
                    refine Wk.rEnd 5 rfl ?_
                    refine Wk.nxt ?_
                    refine wp_seq ?_
                    refine Wk.reg ?_
                    refine Wk.rPure 0 (some 62) (.string (Mur.str (yb.take nly))) rfl rfl (by kernel_rfl) (by kernel_rfl) ?_
                    refine Wk.rPure 1 (some 63) (.int .i64 (((yb.take nly).length : Nat) : Int)) rfl rfl (by kernel_rfl) (Mur.strlen (.tmp 62) 9 rfl Try.underlying9 (yb.take nly) (by kernel_rfl)) ?_
                    refine Wk.rPure 2 (some 64) (.int .i64 1) rfl rfl (by kernel_rfl) (by kernel_rfl) ?_
                    refine Wk.rPure 3 (some 65) (.pointer (some ⟨W5.heap.size, 1, none⟩)) rfl rfl (by kernel_rfl) (Wk.index_arr 33 9 (.tmp 6) (.tmp 64) rfl 2 Try.underlying33 1 (by kernel_rfl) W5.heap.size 0 1 .i64 (by kernel_rfl) (by kernel_rfl) (by decide)) ?_
                    refine Wk.rPure 4 (some 66) (.string (Mur.str yb)) rfl rfl (by kernel_rfl) (Wk.load1 9 (.tmp 65) rfl (by kernel_rfl) ⟨W5.heap.size, 1, none⟩ (by kernel_rfl) (.string (Mur.str yb)) ((cell_of_row _ _ 1 _ _ _ (Wk.Chg.hp ch25 (Wk.Chg.hp ch24 (Wk.Chg.hp ch23 (Wk.Chg.hp ch22 hb9 ⟨by omega, trivial⟩) (Mur.off_iff.2 (fun t ht => by have := hM t ht; omega))) trivial) trivial)).trans rfl)) ?_
                    refine Wk.rPure 5 (some 67) (.int .i64 ((yb.length : Nat) : Int)) rfl rfl (by kernel_rfl) (Mur.strlen (.tmp 66) 9 rfl Try.underlying9 yb (by kernel_rfl)) ?_
                    refine Wk.rPure 6 (some 68) (.bool false) rfl rfl (by kernel_rfl) (Wk.boolF (b := decide ((((yb.take nly).length : Nat) : Int) > ((yb.length : Nat) : Int))) (decide_eq_false (by simp only [List.length_take]; omega)) (by kernel_rfl)) ?_
                    refine Wk.rPure 7 (some 69) (.bool false) rfl rfl (by kernel_rfl) (by kernel_rfl) ?_
                    refine Wk.rPure 8 (some 70) (.int .i64 1) rfl rfl (by kernel_rfl) (by kernel_rfl) ?_
                    refine Wk.rPure 9 (some 71) (.pointer (some ⟨W5.heap.size, 1, none⟩)) rfl rfl (by kernel_rfl) (Wk.index_arr 33 9 (.tmp 6) (.tmp 70) rfl 2 Try.underlying33 1 (by kernel_rfl) W5.heap.size 0 1 .i64 (by kernel_rfl) (by kernel_rfl) (by decide)) ?_
                    refine Wk.rPure 10 (some 72) (.string (Mur.str yb)) rfl rfl (by kernel_rfl) (Wk.load1 9 (.tmp 71) rfl (by kernel_rfl) ⟨W5.heap.size, 1, none⟩ (by kernel_rfl) (.string (Mur.str yb)) ((cell_of_row _ _ 1 _ _ _ (Wk.Chg.hp ch25 (Wk.Chg.hp ch24 (Wk.Chg.hp ch23 (Wk.Chg.hp ch22 hb9 ⟨by omega, trivial⟩) (Mur.off_iff.2 (fun t ht => by have := hM t ht; omega))) trivial) trivial)).trans rfl)) ?_
                    refine Wk.rPure 11 (some 73) (.string (Mur.str (yb.take nly))) rfl rfl (by kernel_rfl) (by kernel_rfl) ?_
                    refine Wk.rPure 12 (some 74) (.int .i64 (((yb.take nly).length : Nat) : Int)) rfl rfl (by kernel_rfl) (Mur.strlen (.tmp 73) 9 rfl Try.underlying9 (yb.take nly) (by kernel_rfl)) ?_
                    refine Wk.rPure 13 (some 75) (.string (Mur.str (yb.take ((yb.take nly).length)))) rfl rfl (by kernel_rfl) (Mur.strto 9 (.tmp 72) (.tmp 74) rfl Try.underlying9 yb ((yb.take nly).length) (by kernel_rfl) (by kernel_rfl) (by simp only [List.length_take]; omega)) ?_
                    refine Wk.rPure 14 (some 76) (.string (Mur.str (yb.take nly))) rfl rfl (by kernel_rfl) (by kernel_rfl) ?_
                    refine Wk.rPure 15 (some 77) (.bool false) rfl rfl (by kernel_rfl) (Wk.boolF (b := decide ((yb.take ((yb.take nly).length)) ≠ (yb.take nly))) (decide_eq_false (fun h => h (by congr 1; simp only [List.length_take]; omega))) (Mur.strne 9 9 (.tmp 75) (.tmp 76) rfl (yb.take ((yb.take nly).length)) (yb.take nly) (by kernel_rfl) (by kernel_rfl))) ?_
                    refine Wk.rPure 16 (some 78) (.bool false) rfl rfl (by kernel_rfl) (by kernel_rfl) ?_
                    refine Wk.rPure 17 (some 79) (.bool false) rfl rfl (by kernel_rfl) (by kernel_rfl) ?_
                    refine Wk.rPure 18 (some 80) (.string (Mur.str (yb.take nly))) rfl rfl (by kernel_rfl) (by kernel_rfl) ?_
                    refine Wk.rPure 19 (some 81) (.int .i64 (((yb.take nly).length : Nat) : Int)) rfl rfl (by kernel_rfl) (Mur.strlen (.tmp 80) 9 rfl Try.underlying9 (yb.take nly) (by kernel_rfl)) ?_
                    refine Wk.rPure 20 (some 82) (.int .i64 1) rfl rfl (by kernel_rfl) (by kernel_rfl) ?_
                    refine Wk.rPure 21 (some 83) (.pointer (some ⟨W9.heap.size, 1, none⟩)) rfl rfl (by kernel_rfl) (Wk.index_arr 27 3 (.tmp 7) (.tmp 82) rfl 2 Try.underlying27 1 (by kernel_rfl) W9.heap.size 0 1 .i64 (by kernel_rfl) (by kernel_rfl) (by decide)) ?_
                    refine Wk.rPure 22 (some 84) (.int .i64 ((yn : Nat) : Int)) rfl rfl (by kernel_rfl) (Wk.load1 3 (.tmp 83) rfl (by kernel_rfl) ⟨W9.heap.size, 1, none⟩ (by kernel_rfl) (.int .i64 ((yn : Nat) : Int)) ((cell_of_row _ _ 1 _ _ _ (Wk.Chg.hp ch25 (Wk.Chg.hp ch24 (Wk.Chg.hp ch23 hb10 (Mur.off_iff.2 (fun t ht => by have := hM t ht; omega))) trivial) trivial)).trans rfl)) ?_
                    refine Wk.rPure 23 (some 85) (.bool false) rfl rfl (by kernel_rfl) (Wk.boolF (b := decide ((((yb.take nly).length : Nat) : Int) < ((yn : Nat) : Int))) (decide_eq_false (by simp only [List.length_take]; omega)) (by kernel_rfl)) ?_
                    refine Wk.rPure 24 (some 86) (.bool false) rfl rfl (by kernel_rfl) (by kernel_rfl) ?_
                    refine Wk.rPure 25 (some 87) (.bool false) rfl rfl (by kernel_rfl) (by kernel_rfl) ?_
                    refine Wk.rPure 26 (some 88) (.pointer (some ⟨w.heap.size, 0, none⟩)) rfl rfl (by kernel_rfl) (by kernel_rfl) ?_
                    refine Wk.rPure 27 (some 89) (.int .i64 1) rfl rfl (by kernel_rfl) (by kernel_rfl) ?_
                    refine Wk.rCall 28 (some 90) 14 [.tmp 88, .tmp 89] #[23, 3] [.pointer (some ⟨w.heap.size, 0, none⟩), .int .i64 1] rfl rfl (by kernel_rfl) rfl (by kernel_rfl) (by kernel_rfl) ?_
                    have hD33 := Mur.DskF.chg hD32 ch25 (fun s hs hl => trivial)
                    refine (Synced_any w.heap.size (⟨⟨xb.take nlx, nlx⟩, ⟨yb.take nly, nly⟩⟩ : Dk) FF6 1 W26 hD33).mono ?_
                    rw [show Mur.Dk.synced (⟨⟨xb.take nlx, nlx⟩, ⟨yb.take nly, nly⟩⟩ : Dk) 1 = nly from rfl]
                    rintro _ _ ⟨rfl, rfl⟩
                    refine ⟨_, rfl, ?_⟩
                    refine Wk.rPure 29 (some 91) (.string (Mur.str (yb.take nly))) rfl rfl (by kernel_rfl) (by kernel_rfl) ?_
                    refine Wk.rPure 30 (some 92) (.int .i64 (((yb.take nly).length : Nat) : Int)) rfl rfl (by kernel_rfl) (Mur.strlen (.tmp 91) 9 rfl Try.underlying9 (yb.take nly) (by kernel_rfl)) ?_
                    refine Wk.rPure 31 (some 93) (.bool false) rfl rfl (by kernel_rfl) (Wk.boolF (b := (((nly : Nat) : Int) != (((yb.take nly).length : Nat) : Int))) (bne_eq_false_iff_eq.2 (by simp only [List.length_take]; omega)) (by kernel_rfl)) ?_
                    refine Wk.rPure 32 (some 94) (.bool false) rfl rfl (by kernel_rfl) (by kernel_rfl) ?_
                    refine Wk.rEnd 33 rfl ?_
                    refine Wk.nxt ?_
                    refine wp_cond_false (by kernel_rfl) ?_
                    refine wp_skip ?_
                    refine Wk.inN ?_
                    refine Wk.nxt ?_
                    refine Wk.reg ?_
                    refine Wk.rPure 0 (some 95) (.int .i64 2) rfl rfl (by kernel_rfl) (Wk.int64 (n := 1 + 1) (z := 2) (by omega) (by omega) (by omega) (by kernel_rfl)) ?_
                    refine Wk.rPure 1 (some 55) (.int .i64 2) rfl rfl (by kernel_rfl) (by kernel_rfl) ?_
                    refine Wk.rEnd 2 rfl ?_
                    refine Wk.nxt ?_
                    refine Wk.rdS ?_
                    refine wp_seq ?_
                    refine Wk.reg ?_
                    refine Wk.rPure 0 (some 56) (.bool false) rfl rfl (by kernel_rfl) (Wk.boolF (b := decide ((2 : Int) < (2 : Int))) (decide_eq_false (by decide)) (by kernel_rfl)) ?_
                    refine Wk.rEnd 1 rfl ?_
                    refine Wk.nxt ?_
                    refine wp_seq ?_
                    refine wp_cond_false (by kernel_rfl) ?_
                    refine wp_exit ?_
                    refine Wk.thX ?_
                    refine Wk.thX ?_
                    refine Wk.inX ?_
                    refine Wk.inN ?_
                    refine Wk.inN ?_
                    refine Wk.nxt ?_
                    refine Wk.reg ?_
                    refine Wk.rPure 0 (some 116) (.int .i64 ((k + 1 : Nat) : Int)) rfl rfl (by kernel_rfl) (Wk.int64 (n := ((k : Nat) : Int) + 1) (z := ((k + 1 : Nat) : Int)) (by omega) (by omega) (by omega) (by kernel_rfl)) ?_
                    refine Wk.rPure 1 (some 26) (.int .i64 ((k + 1 : Nat) : Int)) rfl rfl (by kernel_rfl) (by kernel_rfl) ?_
                    refine Wk.rEnd 2 rfl ?_
                    refine Wk.nxt ?_
                    have kk30 := Wk.Chg.step HB ch3 trivial
                    have kk31 := Wk.Chg.step kk30 ch4 ⟨.inr (by omega), trivial⟩
                    have kk32 := Wk.Chg.step kk31 ch8 trivial
                    have kk33 := Wk.Chg.step kk32 ch9 trivial
                    have kk34 := Wk.Chg.step kk33 ch10 trivial
                    have kk35 := Wk.Chg.step kk34 ch11 trivial
                    have kk36 := Wk.Chg.step kk35 ch12 ⟨.inr (by omega), trivial⟩
                    have kk37 := Wk.Chg.step kk36 ch13 ⟨.inr (by omega), trivial⟩
                    have kk38 := Wk.Chg.step kk37 ch14 trivial
                    have kk39 := Wk.Chg.step kk38 ch15 trivial
                    have kk40 := Wk.Chg.step kk39 ch21 ⟨.inr (by omega), trivial⟩
                    have kk41 := Wk.Chg.step kk40 ch22 ⟨.inr (by omega), trivial⟩
                    have kk42 := Wk.Chg.step kk41 ch23 (Mur.newOr_iff.2 (fun t ht => .inr (by have := hM t ht; omega)))
                    have kk43 := Wk.Chg.step kk42 ch24 trivial
                    have kk44 := Wk.Chg.step kk43 ch25 trivial
                    refine ⟨_, ?_, k + 1, (⟨⟨xb.take nlx, nlx⟩, ⟨yb.take nly, nly⟩⟩ : Dk), FF6, rfl, by kernel_rfl, (by omega), hD33, kk44⟩
                    · omega
                · refine Wk.oCall (some 47) 14 [.tmp 45, .tmp 46] #[23, 3] [.pointer (some ⟨w.heap.size, 0, none⟩), .int .i64 0] rfl rfl (by kernel_rfl) rfl (by kernel_rfl) (by kernel_rfl) ?_
                  have hD34 := Mur.DskF.chg hD17 ch11 (fun s hs hl => trivial)
                  refine (Synced_any w.heap.size (⟨⟨xb, xn⟩, ⟨yb, yn⟩⟩ : Dk) F 0 W12 hD34).mono ?_
                  rw [show Mur.Dk.synced (⟨⟨xb, xn⟩, ⟨yb, yn⟩⟩ : Dk) 0 = xn from rfl]
                  rintro _ _ ⟨rfl, rfl⟩
                  refine ⟨_, rfl, sS2, ?_⟩
                  refine Wk.dOp 5 (by kernel_rfl) ?_
                  refine Wk.oVal (some 44) (.string (Mur.str xb)) rfl rfl (by kernel_rfl) (Mur.run_str 26 9 (.tmp 43) 5 rfl Try.underlying26 Try.underlying5 Try.underlying9 AA1 xb.length nn1 xb (by kernel_rfl) hB2) ?_
                  refine ⟨sS2, ?_⟩
                  refine Wk.dVal 9 (some 48) (.pointer (some ⟨W5.heap.size, 0, none⟩)) rfl rfl (by kernel_rfl) (by kernel_rfl) (by kernel_rfl) (fun _ _ _ h => h) (by kernel_rfl) (fun w' hw' => (Wk.index_arr 33 9 (.tmp 6) (.tmp 39) rfl 2 Try.underlying33 1 (by kernel_rfl) W5.heap.size 0 0 .i64 (by kernel_rfl) (by kernel_rfl) (by decide))) sS2 ?_
                  refine Wk.dOp 10 (by kernel_rfl) ?_
                  refine Wk.oExS none _ rfl rfl (by kernel_rfl) (Wk.store1 9 (.tmp 48) (.tmp 44) rfl (by kernel_rfl) W5.heap.size 0 (by kernel_rfl) (.string (Mur.str xb)) (by kernel_rfl) rfl 33 (#[.string ⟨#[]⟩, .string ⟨#[]⟩]) (Wk.Chg.hp ch11 (Wk.Chg.hp ch10 (Wk.Chg.hp ch9 hb3 trivial) trivial) trivial) (by simp)) ?_
                  rintro W27 ⟨hb11, ch26⟩
                  replace hb11 : W27.heap[W5.heap.size]? = some (.cells (#[.string (Mur.str xb), .string ⟨#[]⟩]) 33 (0, 0)) := hb11
                  have zz27 := ch26.size
                  have sS11 := Wk.Chg.step sS2 ch26 ⟨.inl (by simp), trivial⟩
                  refine ⟨sS11, ?_⟩
                  refine Wk.dVal 11 (some 49) (.pointer (some ⟨W9.heap.size, 0, none⟩)) rfl rfl (by kernel_rfl) (by kernel_rfl) (by kernel_rfl) (fun _ _ _ h => h) (by kernel_rfl) (fun w' hw' => (Wk.index_arr 27 3 (.tmp 7) (.tmp 40) rfl 2 Try.underlying27 1 (by kernel_rfl) W9.heap.size 0 0 .i64 (by kernel_rfl) (by kernel_rfl) (by decide))) sS11 ?_
                  refine Wk.dOp 12 (by kernel_rfl) ?_
                  refine Wk.oExS none _ rfl rfl (by kernel_rfl) (Wk.store1 3 (.tmp 49) (.tmp 47) rfl (by kernel_rfl) W9.heap.size 0 (by kernel_rfl) (.int .i64 ((xn : Nat) : Int)) (by kernel_rfl) rfl 27 #[.int .i64 0, .int .i64 0] (Wk.Chg.hp ch26 (Wk.Chg.hp ch11 (Wk.Chg.hp ch10 hb4 trivial) trivial) ⟨by omega, trivial⟩) (by simp)) ?_
                  rintro W28 ⟨hb12, ch27⟩
                  replace hb12 : W28.heap[W9.heap.size]? = some (.cells #[.int .i64 ((xn : Nat) : Int), .int .i64 0] 27 (0, 0)) := hb12
                  have zz28 := ch27.size
                  have sS12 := Wk.Chg.step sS11 ch27 ⟨.inl (by simp), trivial⟩
                  refine ⟨sS12, ?_⟩
                  refine Wk.dEnd (by kernel_rfl) ?_
                  refine Wk.inN ?_
                  refine Wk.nxt ?_
                  refine Wk.reg ?_
                  refine Wk.rPure 0 (some 50) (.int .i64 1) rfl rfl (by kernel_rfl) (Wk.int64 (n := 0 + 1) (z := 1) (by omega) (by omega) (by omega) (by kernel_rfl)) ?_
                  refine Wk.rPure 1 (some 36) (.int .i64 1) rfl rfl (by kernel_rfl) (by kernel_rfl) ?_
                  refine Wk.rEnd 2 rfl ?_
                  refine Wk.nxt ?_
                  refine Wk.rdS ?_
                  refine wp_seq ?_
                  refine Wk.reg ?_
                  refine Wk.rPure 0 (some 37) (.bool true) rfl rfl (by kernel_rfl) (Wk.boolT (b := decide ((1 : Int) < (2 : Int))) (decide_eq_true (by decide)) (by kernel_rfl)) ?_
                  refine Wk.rEnd 1 rfl ?_
                  refine Wk.nxt ?_
                  refine wp_seq ?_
                  refine wp_cond_true (by kernel_rfl) ?_
                  refine wp_skip ?_
                  refine Wk.nxt ?_
                  refine wp_seq ?_
                  refine wp_block ?_
                  refine wp_seq ?_
                  refine Wk.reg ?_
                  refine Wk.rPure 0 (some 38) (.int .i64 1) rfl rfl (by kernel_rfl) (by kernel_rfl) ?_
                  refine Wk.rPure 1 (some 8) (.int .i64 1) rfl rfl (by kernel_rfl) (by kernel_rfl) ?_
                  refine Wk.rEnd 2 rfl ?_
                  refine Wk.nxt ?_
                  refine Wk.dReg [W5.heap.size, W9.heap.size] (by kernel_rfl) ?_
                  intro W29 ch28 sz6
                  have zz29 := ch28.size
                  have sS13 : Wk.Chg [W5.heap.size, W9.heap.size] W29 W29 := (Wk.Chg.refl _).more (by simp)
                  refine Wk.dVal 0 (some 39) (.int .i64 1) rfl rfl (by kernel_rfl) (by kernel_rfl) (by kernel_rfl) (fun _ _ _ h => h) (by kernel_rfl) (fun w' hw' => by kernel_rfl) sS13 ?_
                  refine Wk.dVal 1 (some 40) (.int .i64 1) rfl rfl (by kernel_rfl) (by kernel_rfl) (by kernel_rfl) (fun _ _ _ h => h) (by kernel_rfl) (fun w' hw' => by kernel_rfl) sS13 ?_
                  refine Wk.dVal 2 (some 41) (.pointer (some ⟨w.heap.size, 0, none⟩)) rfl rfl (by kernel_rfl) (by kernel_rfl) (by kernel_rfl) (fun _ _ _ h => h) (by kernel_rfl) (fun w' hw' => by kernel_rfl) sS13 ?_
                  refine Wk.dVal 3 (some 42) (.int .i64 1) rfl rfl (by kernel_rfl) (by kernel_rfl) (by kernel_rfl) (fun _ _ _ h => h) (by kernel_rfl) (fun w' hw' => by kernel_rfl) sS13 ?_
                  refine Wk.dVal 6 (some 45) (.pointer (some ⟨w.heap.size, 0, none⟩)) rfl rfl (by kernel_rfl) (by kernel_rfl) (by kernel_rfl) (fun _ _ _ h => h) (by kernel_rfl) (fun w' hw' => by kernel_rfl) sS13 ?_
                  refine Wk.dVal 7 (some 46) (.int .i64 1) rfl rfl (by kernel_rfl) (by kernel_rfl) (by kernel_rfl) (fun _ _ _ h => h) (by kernel_rfl) (fun w' hw' => by kernel_rfl) sS13 ?_
                  refine Wk.dOp 4 (by kernel_rfl) ?_
                  refine Wk.oCall (some 43) 13 [.tmp 41, .tmp 42] #[23, 3] [.pointer (some ⟨w.heap.size, 0, none⟩), .int .i64 1] rfl rfl (by kernel_rfl) rfl (by kernel_rfl) (by kernel_rfl) ?_
                  have hD35 := Mur.DskF.chg hD34 ch26 (fun s hs hl => ⟨by have := hM s hs; omega, trivial⟩)
                  have hD36 := Mur.DskF.chg hD35 ch27 (fun s hs hl => ⟨by have := hM s hs; omega, trivial⟩)
                  have hD37 := Mur.DskF.chg hD36 ch28 (fun s hs hl => trivial)
                  refine (Bytes_any w.heap.size (⟨⟨xb, xn⟩, ⟨yb, yn⟩⟩ : Dk) F 1 W29 hD37).mono ?_
                  rw [show Mur.Dk.bytes (⟨⟨xb, xn⟩, ⟨yb, yn⟩⟩ : Dk) 1 = yb from rfl]
                  rintro _ W30 ⟨vv7, rfl, HO7, ch29⟩
                  obtain ⟨AA7, nn7, rfl, hcc7, hmm8, hN7, HS7, hl7⟩ := Wk.own_sl HO7
                  have hB8 : Byt W30 AA7 yb.length yb := by obtain ⟨_, _, e_, _, _, hq⟩ := Mur.own_byt HO7; cases e_; exact hq
                  have zz30 := ch29.size
                  have sS14 := Wk.Chg.step sS13 ch29 trivial
                  refine ⟨_, rfl, sS14, ?_⟩
                  refine Wk.dOp2 5 8 (by kernel_rfl) ?_ ?_
                  · refine Wk.oVal (some 44) (.string (Mur.str yb)) rfl rfl (by kernel_rfl) (Mur.run_str 26 9 (.tmp 43) 5 rfl Try.underlying26 Try.underlying5 Try.underlying9 AA7 yb.length nn7 yb (by kernel_rfl) hB8) ?_
                    refine ⟨sS14, ?_⟩
                    refine Wk.dVal 9 (some 48) (.pointer (some ⟨W5.heap.size, 1, none⟩)) rfl rfl (by kernel_rfl) (by kernel_rfl) (by kernel_rfl) (fun _ _ _ h => h) (by kernel_rfl) (fun w' hw' => (Wk.index_arr 33 9 (.tmp 6) (.tmp 39) rfl 2 Try.underlying33 1 (by kernel_rfl) W5.heap.size 0 1 .i64 (by kernel_rfl) (by kernel_rfl) (by decide))) sS14 ?_
                    refine Wk.dOp 8 (by kernel_rfl) ?_
                    refine Wk.oCall (some 47) 14 [.tmp 45, .tmp 46] #[23, 3] [.pointer (some ⟨w.heap.size, 0, none⟩), .int .i64 1] rfl rfl (by kernel_rfl) rfl (by kernel_rfl) (by kernel_rfl) ?_
                    have hD38 := Mur.DskF.chg hD37 ch29 (fun s hs hl => trivial)
                    refine (Synced_any w.heap.size (⟨⟨xb, xn⟩, ⟨yb, yn⟩⟩ : Dk) F 1 W30 hD38).mono ?_
                    rw [show Mur.Dk.synced (⟨⟨xb, xn⟩, ⟨yb, yn⟩⟩ : Dk) 1 = yn from rfl]
                    rintro _ _ ⟨rfl, rfl⟩
                    refine ⟨_, rfl, sS14, ?_⟩
                    refine Wk.dOp 10 (by kernel_rfl) ?_
                    refine Wk.oExS none _ rfl rfl (by kernel_rfl) (Wk.store1 9 (.tmp 48) (.tmp 44) rfl (by kernel_rfl) W5.heap.size 1 (by kernel_rfl) (.string (Mur.str yb)) (by kernel_rfl) rfl 33 (#[.string (Mur.str xb), .string ⟨#[]⟩]) (Wk.Chg.hp ch29 (Wk.Chg.hp ch28 (Wk.Chg.hp ch27 hb11 ⟨by omega, trivial⟩) trivial) trivial) (by simp)) ?_
                    rintro W31 ⟨hb13, ch30⟩
                    replace hb13 : W31.heap[W5.heap.size]? = some (.cells #[.string (Mur.str xb), .string (Mur.str yb)] 33 (0, 0)) := hb13
                    have zz31 := ch30.size
                    have sS15 := Wk.Chg.step sS14 ch30 ⟨.inl (by simp), trivial⟩
                    refine ⟨sS15, ?_⟩
                    refine Wk.dVal 11 (some 49) (.pointer (some ⟨W9.heap.size, 1, none⟩)) rfl rfl (by kernel_rfl) (by kernel_rfl) (by kernel_rfl) (fun _ _ _ h => h) (by kernel_rfl) (fun w' hw' => (Wk.index_arr 27 3 (.tmp 7) (.tmp 40) rfl 2 Try.underlying27 1 (by kernel_rfl) W9.heap.size 0 1 .i64 (by kernel_rfl) (by kernel_rfl) (by decide))) sS15 ?_
                    refine Wk.dOp 12 (by kernel_rfl) ?_
                    refine Wk.oExS none _ rfl rfl (by kernel_rfl) (Wk.store1 3 (.tmp 49) (.tmp 47) rfl (by kernel_rfl) W9.heap.size 1 (by kernel_rfl) (.int .i64 ((yn : Nat) : Int)) (by kernel_rfl) rfl 27 #[.int .i64 ((xn : Nat) : Int), .int .i64 0] (Wk.Chg.hp ch30 (Wk.Chg.hp ch29 (Wk.Chg.hp ch28 hb12 trivial) trivial) ⟨by omega, trivial⟩) (by simp)) ?_
                    rintro W32 ⟨hb14, ch31⟩
                    replace hb14 : W32.heap[W9.heap.size]? = some (.cells #[.int .i64 ((xn : Nat) : Int), .int .i64 ((yn : Nat) : Int)] 27 (0, 0)) := hb14
                    have zz32 := ch31.size
                    have sS16 := Wk.Chg.step sS15 ch31 ⟨.inl (by simp), trivial⟩
                    refine ⟨sS16, ?_⟩
                    refine Wk.dEnd (by kernel_rfl) ?_
                    refine Wk.inN ?_
                    refine Wk.nxt ?_
                    refine Wk.reg ?_
                    refine Wk.rPure 0 (some 50) (.int .i64 2) rfl rfl (by kernel_rfl) (Wk.int64 (n := 1 + 1) (z := 2) (by omega) (by omega) (by omega) (by kernel_rfl)) ?_
                    refine Wk.rPure 1 (some 36) (.int .i64 2) rfl rfl (by kernel_rfl) (by kernel_rfl) ?_
                    refine Wk.rEnd 2 rfl ?_
                    refine Wk.nxt ?_
                    refine Wk.rdS ?_
                    refine wp_seq ?_
                    refine Wk.reg ?_
                    refine Wk.rPure 0 (some 37) (.bool false) rfl rfl (by kernel_rfl) (Wk.boolF (b := decide ((2 : Int) < (2 : Int))) (decide_eq_false (by decide)) (by kernel_rfl)) ?_
                    refine Wk.rEnd 1 rfl ?_
                    refine Wk.nxt ?_
                    refine wp_seq ?_
                    refine wp_cond_false (by kernel_rfl) ?_
                    refine wp_exit ?_
                    refine Wk.thX ?_
                    refine Wk.thX ?_
                    refine Wk.inX ?_
                    refine Wk.nxt ?_
                    refine wp_seq ?_
                    refine Wk.reg ?_
                    refine Wk.rPure 0 (some 51) (.pointer (some ⟨w.heap.size, 0, none⟩)) rfl rfl (by kernel_rfl) (by kernel_rfl) ?_
                    refine Wk.rPure 1 (some 52) (.pointer (some ⟨W3.heap.size, 3, none⟩)) rfl rfl (by kernel_rfl) (by kernel_rfl) ?_
                    refine Wk.rPure 2 (some 53) (.agg #[.int .i64 k0, .int .i64 k1]) rfl rfl (by kernel_rfl) (Wk.loadR 27 (.tmp 52) rfl _ Try.underlying27 rfl W3.heap.size 3 (by kernel_rfl) ([.int .i64 k0, .int .i64 k1]) (by kernel_rfl) (Wk.range_sub 3 [.int .i64 k0, .int .i64 k1] (Wk.Chg.hp ch31 (Wk.Chg.hp ch30 (Wk.Chg.hp ch29 (Wk.Chg.hp ch28 (Wk.Chg.hp ch27 (Wk.Chg.hp ch26 (Wk.Chg.hp ch11 (Wk.Chg.hp ch10 (Wk.Chg.hp ch9 (Wk.Chg.hp ch8 hb2 trivial) trivial) trivial) trivial) ⟨by omega, trivial⟩) ⟨by omega, trivial⟩) trivial) trivial) ⟨by omega, trivial⟩) ⟨by omega, trivial⟩) rfl)) ?_
                    refine Wk.rCall 3 (some 54) 15 [.tmp 51, .tmp 53] #[23, 27] [.pointer (some ⟨w.heap.size, 0, none⟩), .agg #[.int .i64 k0, .int .i64 k1]] rfl rfl (by kernel_rfl) rfl (by kernel_rfl) (by kernel_rfl) ?_
                    have hD39 := Mur.DskF.chg hD38 ch30 (fun s hs hl => ⟨by have := hM s hs; omega, trivial⟩)
                    have hD40 := Mur.DskF.chg hD39 ch31 (fun s hs hl => ⟨by have := hM s hs; omega, trivial⟩)
                    obtain ⟨nlx, ex⟩ : ∃ m, (⟨xb, xn⟩ : Fil).left k0 = m := ⟨_, rfl⟩
                    have hlx := Mur.left_le k0 hx1
                    rw [ex] at hlx
                    obtain ⟨nly, ey⟩ : ∃ m, (⟨yb, yn⟩ : Fil).left k1 = m := ⟨_, rfl⟩
                    have hly := Mur.left_le k1 hy1
                    rw [ey] at hly
                    refine (Crash_any w.heap.size (⟨⟨xb, xn⟩, ⟨yb, yn⟩⟩ : Dk) F k0 k1 W32 hD40).mono ?_
                    rw [show Mur.Dk.crash (⟨⟨xb, xn⟩, ⟨yb, yn⟩⟩ : Dk) k0 k1 = (⟨⟨xb.take nlx, nlx⟩, ⟨yb.take nly, nly⟩⟩ : Dk) from by rw [← ex, ← ey]; rfl]
                    rintro _ W33 ⟨FF7, rfl, hD41, ch32, no6⟩
                    have hM7 := Mur.DskF.mem hD41
                    have zz33 := ch32.size
                    refine ⟨_, rfl, ?_⟩
                    refine Wk.rEnd 4 rfl ?_
                    refine Wk.nxt ?_
                    refine wp_seq ?_
                    refine Wk.reg ?_
                    refine Wk.rPure 0 (some 55) (.int .i64 0) rfl rfl (by kernel_rfl) (by kernel_rfl) ?_
                    refine Wk.rEnd 1 rfl ?_
                    refine Wk.nxt ?_
                    refine wp_block ?_
                    refine Wk.loopN 3 ?_
                    refine Wk.rdS ?_
                    refine wp_seq ?_
                    refine Wk.reg ?_
                    refine Wk.rPure 0 (some 56) (.bool true) rfl rfl (by kernel_rfl) (Wk.boolT (b := decide ((0 : Int) < (2 : Int))) (decide_eq_true (by decide)) (by kernel_rfl)) ?_
                    refine Wk.rEnd 1 rfl ?_
                    refine Wk.nxt ?_
                    refine wp_seq ?_
                    refine wp_cond_true (by kernel_rfl) ?_
                    refine wp_skip ?_
                    refine Wk.nxt ?_
                    refine wp_seq ?_
                    refine wp_block ?_
                    refine wp_seq ?_
                    refine Wk.reg ?_
                    refine Wk.rPure 0 (some 57) (.int .i64 0) rfl rfl (by kernel_rfl) (by kernel_rfl) ?_
                    refine Wk.rPure 1 (some 9) (.int .i64 0) rfl rfl (by kernel_rfl) (by kernel_rfl) ?_
                    refine Wk.rEnd 2 rfl ?_
                    refine Wk.nxt ?_
                    refine wp_seq ?_
                    refine Wk.reg ?_
                    refine Wk.rPure 0 (some 58) (.pointer (some ⟨w.heap.size, 0, none⟩)) rfl rfl (by kernel_rfl) (by kernel_rfl) ?_
                    refine Wk.rPure 1 (some 59) (.int .i64 0) rfl rfl (by kernel_rfl) (by kernel_rfl) ?_
                    refine Wk.rCall 2 (some 60) 13 [.tmp 58, .tmp 59] #[23, 3] [.pointer (some ⟨w.heap.size, 0, none⟩), .int .i64 0] rfl rfl (by kernel_rfl) rfl (by kernel_rfl) (by kernel_rfl) ?_
                    refine (Bytes_any w.heap.size (⟨⟨xb.take nlx, nlx⟩, ⟨yb.take nly, nly⟩⟩ : Dk) FF7 0 W33 hD41).mono ?_
                    rw [show Mur.Dk.bytes (⟨⟨xb.take nlx, nlx⟩, ⟨yb.take nly, nly⟩⟩ : Dk) 0 = xb.take nlx from rfl]
                    rintro _ W34 ⟨vv8, rfl, HO8, ch33⟩
                    obtain ⟨AA8, nn8, rfl, hcc8, hmm9, hN8, HS8, hl8⟩ := Wk.own_sl HO8
                    have hB9 : Byt W34 AA8 (xb.take nlx).length (xb.take nlx) := by obtain ⟨_, _, e_, _, _, hq⟩ := Mur.own_byt HO8; cases e_; exact hq
                    have zz34 := ch33.size
                    refine ⟨_, rfl, ?_⟩
                    refine Wk.rPure 3 (some 61) (.string (Mur.str (xb.take nlx))) rfl rfl (by kernel_rfl) (Mur.run_str 26 9 (.tmp 60) 5 rfl Try.underlying26 Try.underlying5 Try.underlying9 AA8 ((xb.take nlx).length) nn8 (xb.take nlx) (by kernel_rfl) hB9) ?_
                    refine Wk.rPure 4 (some 10) (.string (Mur.str (xb.take nlx))) rfl rfl (by kernel_rfl) (by kernel_rfl) ?_
                    refine Wk.rEnd 5 rfl ?_
                    refine Wk.nxt ?_
                    refine wp_seq ?_
                    refine Wk.reg ?_
                    refine Wk.rPure 0 (some 62) (.string (Mur.str (xb.take nlx))) rfl rfl (by kernel_rfl) (by kernel_rfl) ?_
                    refine Wk.rPure 1 (some 63) (.int .i64 (((xb.take nlx).length : Nat) : Int)) rfl rfl (by kernel_rfl) (Mur.strlen (.tmp 62) 9 rfl Try.underlying9 (xb.take nlx) (by kernel_rfl)) ?_
                    refine Wk.rPure 2 (some 64) (.int .i64 0) rfl rfl (by kernel_rfl) (by kernel_rfl) ?_
                    refine Wk.rPure 3 (some 65) (.pointer (some ⟨W5.heap.size, 0, none⟩)) rfl rfl (by kernel_rfl) (Wk.index_arr 33 9 (.tmp 6) (.tmp 64) rfl 2 Try.underlying33 1 (by kernel_rfl) W5.heap.size 0 0 .i64 (by kernel_rfl) (by kernel_rfl) (by decide)) ?_
                    refine Wk.rPure 4 (some 66) (.string (Mur.str xb)) rfl rfl (by kernel_rfl) (Wk.load1 9 (.tmp 65) rfl (by kernel_rfl) ⟨W5.heap.size, 0, none⟩ (by kernel_rfl) (.string (Mur.str xb)) ((cell_of_row _ _ 0 _ _ _ (Wk.Chg.hp ch33 (Wk.Chg.hp ch32 (Wk.Chg.hp ch31 hb13 ⟨by omega, trivial⟩) (Mur.off_iff.2 (fun t ht => by have := hM t ht; omega))) trivial)).trans rfl)) ?_
                    refine Wk.rPure 5 (some 67) (.int .i64 ((xb.length : Nat) : Int)) rfl rfl (by kernel_rfl) (Mur.strlen (.tmp 66) 9 rfl Try.underlying9 xb (by kernel_rfl)) ?_
                    refine Wk.rPure 6 (some 68) (.bool false) rfl rfl (by kernel_rfl) (Wk.boolF (b := decide ((((xb.take nlx).length : Nat) : Int) > ((xb.length : Nat) : Int))) (decide_eq_false (by simp only [List.length_take]; omega)) (by kernel_rfl)) ?_
                    refine Wk.rPure 7 (some 69) (.bool false) rfl rfl (by kernel_rfl) (by kernel_rfl) ?_
                    refine Wk.rPure 8 (some 70) (.int .i64 0) rfl rfl (by kernel_rfl) (by kernel_rfl) ?_
                    refine Wk.rPure 9 (some 71) (.pointer (some ⟨W5.heap.size, 0, none⟩)) rfl rfl (by kernel_rfl) (Wk.index_arr 33 9 (.tmp 6) (.tmp 70) rfl 2 Try.underlying33 1 (by kernel_rfl) W5.heap.size 0 0 .i64 (by kernel_rfl) (by kernel_rfl) (by decide)) ?_
                    refine Wk.rPure 10 (some 72) (.string (Mur.str xb)) rfl rfl (by kernel_rfl) (Wk.load1 9 (.tmp 71) rfl (by kernel_rfl) ⟨W5.heap.size, 0, none⟩ (by kernel_rfl) (.string (Mur.str xb)) ((cell_of_row _ _ 0 _ _ _ (Wk.Chg.hp ch33 (Wk.Chg.hp ch32 (Wk.Chg.hp ch31 hb13 ⟨by omega, trivial⟩) (Mur.off_iff.2 (fun t ht => by have := hM t ht; omega))) trivial)).trans rfl)) ?_
                    refine Wk.rPure 11 (some 73) (.string (Mur.str (xb.take nlx))) rfl rfl (by kernel_rfl) (by kernel_rfl) ?_
                    refine Wk.rPure 12 (some 74) (.int .i64 (((xb.take nlx).length : Nat) : Int)) rfl rfl (by kernel_rfl) (Mur.strlen (.tmp 73) 9 rfl Try.underlying9 (xb.take nlx) (by kernel_rfl)) ?_
                    refine Wk.rPure 13 (some 75) (.string (Mur.str (xb.take ((xb.take nlx).length)))) rfl rfl (by kernel_rfl) (Mur.strto 9 (.tmp 72) (.tmp 74) rfl Try.underlying9 xb ((xb.take nlx).length) (by kernel_rfl) (by kernel_rfl) (by simp only [List.length_take]; omega)) ?_
                    refine Wk.rPure 14 (some 76) (.string (Mur.str (xb.take nlx))) rfl rfl (by kernel_rfl) (by kernel_rfl) ?_
                    refine Wk.rPure 15 (some 77) (.bool false) rfl rfl (by kernel_rfl) (Wk.boolF (b := decide ((xb.take ((xb.take nlx).length)) ≠ (xb.take nlx))) (decide_eq_false (fun h => h (by congr 1; simp only [List.length_take]; omega))) (Mur.strne 9 9 (.tmp 75) (.tmp 76) rfl (xb.take ((xb.take nlx).length)) (xb.take nlx) (by kernel_rfl) (by kernel_rfl))) ?_
                    refine Wk.rPure 16 (some 78) (.bool false) rfl rfl (by kernel_rfl) (by kernel_rfl) ?_
                    refine Wk.rPure 17 (some 79) (.bool false) rfl rfl (by kernel_rfl) (by kernel_rfl) ?_
                    refine Wk.rPure 18 (some 80) (.string (Mur.str (xb.take nlx))) rfl rfl (by kernel_rfl) (by kernel_rfl) ?_
                    refine Wk.rPure 19 (some 81) (.int .i64 (((xb.take nlx).length : Nat) : Int)) rfl rfl (by kernel_rfl) (Mur.strlen (.tmp 80) 9 rfl Try.underlying9 (xb.take nlx) (by kernel_rfl)) ?_
                    refine Wk.rPure 20 (some 82) (.int .i64 0) rfl rfl (by kernel_rfl) (by kernel_rfl) ?_
                    refine Wk.rPure 21 (some 83) (.pointer (some ⟨W9.heap.size, 0, none⟩)) rfl rfl (by kernel_rfl) (Wk.index_arr 27 3 (.tmp 7) (.tmp 82) rfl 2 Try.underlying27 1 (by kernel_rfl) W9.heap.size 0 0 .i64 (by kernel_rfl) (by kernel_rfl) (by decide)) ?_
                    refine Wk.rPure 22 (some 84) (.int .i64 ((xn : Nat) : Int)) rfl rfl (by kernel_rfl) (Wk.load1 3 (.tmp 83) rfl (by kernel_rfl) ⟨W9.heap.size, 0, none⟩ (by kernel_rfl) (.int .i64 ((xn : Nat) : Int)) ((cell_of_row _ _ 0 _ _ _ (Wk.Chg.hp ch33 (Wk.Chg.hp ch32 hb14 (Mur.off_iff.2 (fun t ht => by have := hM t ht; omega))) trivial)).trans rfl)) ?_
                    refine Wk.rPure 23 (some 85) (.bool false) rfl rfl (by kernel_rfl) (Wk.boolF (b := decide ((((xb.take nlx).length : Nat) : Int) < ((xn : Nat) : Int))) (decide_eq_false (by simp only [List.length_take]; omega)) (by kernel_rfl)) ?_
                    refine Wk.rPure 24 (some 86) (.bool false) rfl rfl (by kernel_rfl) (by kernel_rfl) ?_
                    refine Wk.rPure 25 (some 87) (.bool false) rfl rfl (by kernel_rfl) (by kernel_rfl) ?_
                    refine Wk.rPure 26 (some 88) (.pointer (some ⟨w.heap.size, 0, none⟩)) rfl rfl (by kernel_rfl) (by kernel_rfl) ?_
                    refine Wk.rPure 27 (some 89) (.int .i64 0) rfl rfl (by kernel_rfl) (by kernel_rfl) ?_
                    refine Wk.rCall 28 (some 90) 14 [.tmp 88, .tmp 89] #[23, 3] [.pointer (some ⟨w.heap.size, 0, none⟩), .int .i64 0] rfl rfl (by kernel_rfl) rfl (by kernel_rfl) (by kernel_rfl) ?_
                    have hD42 := Mur.DskF.chg hD41 ch33 (fun s hs hl => trivial)
                    refine (Synced_any w.heap.size (⟨⟨xb.take nlx, nlx⟩, ⟨yb.take nly, nly⟩⟩ : Dk) FF7 0 W34 hD42).mono ?_
                    rw [show Mur.Dk.synced (⟨⟨xb.take nlx, nlx⟩, ⟨yb.take nly, nly⟩⟩ : Dk) 0 = nlx from rfl]
                    rintro _ _ ⟨rfl, rfl⟩
                    refine ⟨_, rfl, ?_⟩
                    refine Wk.rPure 29 (some 91) (.string (Mur.str (xb.take nlx))) rfl rfl (by kernel_rfl) (by kernel_rfl) ?_
                    refine Wk.rPure 30 (some 92) (.int .i64 (((xb.take nlx).length : Nat) : Int)) rfl rfl (by kernel_rfl) (Mur.strlen (.tmp 91) 9 rfl Try.underlying9 (xb.take nlx) (by kernel_rfl)) ?_
                    refine Wk.rPure 31 (some 93) (.bool false) rfl rfl (by kernel_rfl) (Wk.boolF (b := (((nlx : Nat) : Int) != (((xb.take nlx).length : Nat) : Int))) (bne_eq_false_iff_eq.2 (by simp only [List.length_take]; omega)) (by kernel_rfl)) ?_
                    refine Wk.rPure 32 (some 94) (.bool false) rfl rfl (by kernel_rfl) (by kernel_rfl) ?_
                    refine Wk.rEnd 33 rfl ?_
                    refine Wk.nxt ?_
                    refine wp_cond_false (by kernel_rfl) ?_
                    refine wp_skip ?_
                    refine Wk.inN ?_
                    refine Wk.nxt ?_
                    refine Wk.reg ?_
                    refine Wk.rPure 0 (some 95) (.int .i64 1) rfl rfl (by kernel_rfl) (Wk.int64 (n := 0 + 1) (z := 1) (by omega) (by omega) (by omega) (by kernel_rfl)) ?_
                    refine Wk.rPure 1 (some 55) (.int .i64 1) rfl rfl (by kernel_rfl) (by kernel_rfl) ?_
                    refine Wk.rEnd 2 rfl ?_
                    refine Wk.nxt ?_
                    refine Wk.rdS ?_
                    refine wp_seq ?_
                    refine Wk.reg ?_
                    refine Wk.rPure 0 (some 56) (.bool true) rfl rfl (by kernel_rfl) (Wk.boolT (b := decide ((1 : Int) < (2 : Int))) (decide_eq_true (by decide)) (by kernel_rfl)) ?_
                    refine Wk.rEnd 1 rfl ?_
                    refine Wk.nxt ?_
                    refine wp_seq ?_
                    refine wp_cond_true (by kernel_rfl) ?_
                    refine wp_skip ?_
                    refine Wk.nxt ?_
                    refine wp_seq ?_
                    refine wp_block ?_
                    refine wp_seq ?_
                    refine Wk.reg ?_
                    refine Wk.rPure 0 (some 57) (.int .i64 1) rfl rfl (by kernel_rfl) (by kernel_rfl) ?_
                    refine Wk.rPure 1 (some 9) (.int .i64 1) rfl rfl (by kernel_rfl) (by kernel_rfl) ?_
                    refine Wk.rEnd 2 rfl ?_
                    refine Wk.nxt ?_
                    refine wp_seq ?_
                    refine Wk.reg ?_
                    refine Wk.rPure 0 (some 58) (.pointer (some ⟨w.heap.size, 0, none⟩)) rfl rfl (by kernel_rfl) (by kernel_rfl) ?_
                    refine Wk.rPure 1 (some 59) (.int .i64 1) rfl rfl (by kernel_rfl) (by kernel_rfl) ?_
                    refine Wk.rCall 2 (some 60) 13 [.tmp 58, .tmp 59] #[23, 3] [.pointer (some ⟨w.heap.size, 0, none⟩), .int .i64 1] rfl rfl (by kernel_rfl) rfl (by kernel_rfl) (by kernel_rfl) ?_
                    refine (Bytes_any w.heap.size (⟨⟨xb.take nlx, nlx⟩, ⟨yb.take nly, nly⟩⟩ : Dk) FF7 1 W34 hD42).mono ?_
                    rw [show Mur.Dk.bytes (⟨⟨xb.take nlx, nlx⟩, ⟨yb.take nly, nly⟩⟩ : Dk) 1 = yb.take nly from rfl]
                    rintro _ W35 ⟨vv9, rfl, HO9, ch34⟩
                    obtain ⟨AA9, nn9, rfl, hcc9, hmm10, hN9, HS9, hl9⟩ := Wk.own_sl HO9
                    have hB10 : Byt W35 AA9 (yb.take nly).length (yb.take nly) := by obtain ⟨_, _, e_, _, _, hq⟩ := Mur.own_byt HO9; cases e_; exact hq
                    have zz35 := ch34.size
                    refine ⟨_, rfl, ?_⟩
                    refine Wk.rPure 3 (some 61) (.string (Mur.str (yb.take nly))) rfl rfl (by kernel_rfl) (Mur.run_str 26 9 (.tmp 60) 5 rfl Try.underlying26 Try.underlying5 Try.underlying9 AA9 ((yb.take nly).length) nn9 (yb.take nly) (by kernel_rfl) hB10) ?_
                    refine Wk.rPure 4 (some 10) (.string (Mur.str (yb.take nly))) rfl rfl (by kernel_rfl) (by kernel_rfl) ?_
                    refine Wk.rEnd 5 rfl ?_
                    refine Wk.nxt ?_
                    refine wp_seq ?_
                    refine Wk.reg ?_
                    refine Wk.rPure 0 (some 62) (.string (Mur.str (yb.take nly))) rfl rfl (by kernel_rfl) (by kernel_rfl) ?_
                    refine Wk.rPure 1 (some 63) (.int .i64 (((yb.take nly).length : Nat) : Int)) rfl rfl (by kernel_rfl) (Mur.strlen (.tmp 62) 9 rfl Try.underlying9 (yb.take nly) (by kernel_rfl)) ?_
                    refine Wk.rPure 2 (some 64) (.int .i64 1) rfl rfl (by kernel_rfl) (by kernel_rfl) ?_
                    refine Wk.rPure 3 (some 65) (.pointer (some ⟨W5.heap.size, 1, none⟩)) rfl rfl (by kernel_rfl) (Wk.index_arr 33 9 (.tmp 6) (.tmp 64) rfl 2 Try.underlying33 1 (by kernel_rfl) W5.heap.size 0 1 .i64 (by kernel_rfl) (by kernel_rfl) (by decide)) ?_
                    refine Wk.rPure 4 (some 66) (.string (Mur.str yb)) rfl rfl (by kernel_rfl) (Wk.load1 9 (.tmp 65) rfl (by kernel_rfl) ⟨W5.heap.size, 1, none⟩ (by kernel_rfl) (.string (Mur.str yb)) ((cell_of_row _ _ 1 _ _ _ (Wk.Chg.hp ch34 (Wk.Chg.hp ch33 (Wk.Chg.hp ch32 (Wk.Chg.hp ch31 hb13 ⟨by omega, trivial⟩) (Mur.off_iff.2 (fun t ht => by have := hM t ht; omega))) trivial) trivial)).trans rfl)) ?_
                    refine Wk.rPure 5 (some 67) (.int .i64 ((yb.length : Nat) : Int)) rfl rfl (by kernel_rfl) (Mur.strlen (.tmp 66) 9 rfl Try.underlying9 yb (by kernel_rfl)) ?_
                    refine Wk.rPure 6 (some 68) (.bool false) rfl rfl (by kernel_rfl) (Wk.boolF (b := decide ((((yb.take nly).length : Nat) : Int) > ((yb.length : Nat) : Int))) (decide_eq_false (by simp only [List.length_take]; omega)) (by kernel_rfl)) ?_
                    refine Wk.rPure 7 (some 69) (.bool false) rfl rfl (by kernel_rfl) (by kernel_rfl) ?_
                    refine Wk.rPure 8 (some 70) (.int .i64 1) rfl rfl (by kernel_rfl) (by kernel_rfl) ?_
                    refine Wk.rPure 9 (some 71) (.pointer (some ⟨W5.heap.size, 1, none⟩)) rfl rfl (by kernel_rfl) (Wk.index_arr 33 9 (.tmp 6) (.tmp 70) rfl 2 Try.underlying33 1 (by kernel_rfl) W5.heap.size 0 1 .i64 (by kernel_rfl) (by kernel_rfl) (by decide)) ?_
                    refine Wk.rPure 10 (some 72) (.string (Mur.str yb)) rfl rfl (by kernel_rfl) (Wk.load1 9 (.tmp 71) rfl (by kernel_rfl) ⟨W5.heap.size, 1, none⟩ (by kernel_rfl) (.string (Mur.str yb)) ((cell_of_row _ _ 1 _ _ _ (Wk.Chg.hp ch34 (Wk.Chg.hp ch33 (Wk.Chg.hp ch32 (Wk.Chg.hp ch31 hb13 ⟨by omega, trivial⟩) (Mur.off_iff.2 (fun t ht => by have := hM t ht; omega))) trivial) trivial)).trans rfl)) ?_
                    refine Wk.rPure 11 (some 73) (.string (Mur.str (yb.take nly))) rfl rfl (by kernel_rfl) (by kernel_rfl) ?_
                    refine Wk.rPure 12 (some 74) (.int .i64 (((yb.take nly).length : Nat) : Int)) rfl rfl (by kernel_rfl) (Mur.strlen (.tmp 73) 9 rfl Try.underlying9 (yb.take nly) (by kernel_rfl)) ?_
                    refine Wk.rPure 13 (some 75) (.string (Mur.str (yb.take ((yb.take nly).length)))) rfl rfl (by kernel_rfl) (Mur.strto 9 (.tmp 72) (.tmp 74) rfl Try.underlying9 yb ((yb.take nly).length) (by kernel_rfl) (by kernel_rfl) (by simp only [List.length_take]; omega)) ?_
                    refine Wk.rPure 14 (some 76) (.string (Mur.str (yb.take nly))) rfl rfl (by kernel_rfl) (by kernel_rfl) ?_
                    refine Wk.rPure 15 (some 77) (.bool false) rfl rfl (by kernel_rfl) (Wk.boolF (b := decide ((yb.take ((yb.take nly).length)) ≠ (yb.take nly))) (decide_eq_false (fun h => h (by congr 1; simp only [List.length_take]; omega))) (Mur.strne 9 9 (.tmp 75) (.tmp 76) rfl (yb.take ((yb.take nly).length)) (yb.take nly) (by kernel_rfl) (by kernel_rfl))) ?_
                    refine Wk.rPure 16 (some 78) (.bool false) rfl rfl (by kernel_rfl) (by kernel_rfl) ?_
                    refine Wk.rPure 17 (some 79) (.bool false) rfl rfl (by kernel_rfl) (by kernel_rfl) ?_
                    refine Wk.rPure 18 (some 80) (.string (Mur.str (yb.take nly))) rfl rfl (by kernel_rfl) (by kernel_rfl) ?_
                    refine Wk.rPure 19 (some 81) (.int .i64 (((yb.take nly).length : Nat) : Int)) rfl rfl (by kernel_rfl) (Mur.strlen (.tmp 80) 9 rfl Try.underlying9 (yb.take nly) (by kernel_rfl)) ?_
                    refine Wk.rPure 20 (some 82) (.int .i64 1) rfl rfl (by kernel_rfl) (by kernel_rfl) ?_
                    refine Wk.rPure 21 (some 83) (.pointer (some ⟨W9.heap.size, 1, none⟩)) rfl rfl (by kernel_rfl) (Wk.index_arr 27 3 (.tmp 7) (.tmp 82) rfl 2 Try.underlying27 1 (by kernel_rfl) W9.heap.size 0 1 .i64 (by kernel_rfl) (by kernel_rfl) (by decide)) ?_
                    refine Wk.rPure 22 (some 84) (.int .i64 ((yn : Nat) : Int)) rfl rfl (by kernel_rfl) (Wk.load1 3 (.tmp 83) rfl (by kernel_rfl) ⟨W9.heap.size, 1, none⟩ (by kernel_rfl) (.int .i64 ((yn : Nat) : Int)) ((cell_of_row _ _ 1 _ _ _ (Wk.Chg.hp ch34 (Wk.Chg.hp ch33 (Wk.Chg.hp ch32 hb14 (Mur.off_iff.2 (fun t ht => by have := hM t ht; omega))) trivial) trivial)).trans rfl)) ?_
                    refine Wk.rPure 23 (some 85) (.bool false) rfl rfl (by kernel_rfl) (Wk.boolF (b := decide ((((yb.take nly).length : Nat) : Int) < ((yn : Nat) : Int))) (decide_eq_false (by simp only [List.length_take]; omega)) (by kernel_rfl)) ?_
                    refine Wk.rPure 24 (some 86) (.bool false) rfl rfl (by kernel_rfl) (by kernel_rfl) ?_
                    refine Wk.rPure 25 (some 87) (.bool false) rfl rfl (by kernel_rfl) (by kernel_rfl) ?_
                    refine Wk.rPure 26 (some 88) (.pointer (some ⟨w.heap.size, 0, none⟩)) rfl rfl (by kernel_rfl) (by kernel_rfl) ?_
                    refine Wk.rPure 27 (some 89) (.int .i64 1) rfl rfl (by kernel_rfl) (by kernel_rfl) ?_
                    refine Wk.rCall 28 (some 90) 14 [.tmp 88, .tmp 89] #[23, 3] [.pointer (some ⟨w.heap.size, 0, none⟩), .int .i64 1] rfl rfl (by kernel_rfl) rfl (by kernel_rfl) (by kernel_rfl) ?_
                    have hD43 := Mur.DskF.chg hD42 ch34 (fun s hs hl => trivial)
                    refine (Synced_any w.heap.size (⟨⟨xb.take nlx, nlx⟩, ⟨yb.take nly, nly⟩⟩ : Dk) FF7 1 W35 hD43).mono ?_
                    rw [show Mur.Dk.synced (⟨⟨xb.take nlx, nlx⟩, ⟨yb.take nly, nly⟩⟩ : Dk) 1 = nly from rfl]
                    rintro _ _ ⟨rfl, rfl⟩
                    refine ⟨_, rfl, ?_⟩
                    refine Wk.rPure 29 (some 91) (.string (Mur.str (yb.take nly))) rfl rfl (by kernel_rfl) (by kernel_rfl) ?_
                    refine Wk.rPure 30 (some 92) (.int .i64 (((yb.take nly).length : Nat) : Int)) rfl rfl (by kernel_rfl) (Mur.strlen (.tmp 91) 9 rfl Try.underlying9 (yb.take nly) (by kernel_rfl)) ?_
                    refine Wk.rPure 31 (some 93) (.bool false) rfl rfl (by kernel_rfl) (Wk.boolF (b := (((nly : Nat) : Int) != (((yb.take nly).length : Nat) : Int))) (bne_eq_false_iff_eq.2 (by simp only [List.length_take]; omega)) (by kernel_rfl)) ?_
                    refine Wk.rPure 32 (some 94) (.bool false) rfl rfl (by kernel_rfl) (by kernel_rfl) ?_
                    refine Wk.rEnd 33 rfl ?_
                    refine Wk.nxt ?_
                    refine wp_cond_false (by kernel_rfl) ?_
                    refine wp_skip ?_
                    refine Wk.inN ?_
                    refine Wk.nxt ?_
                    refine Wk.reg ?_
                    refine Wk.rPure 0 (some 95) (.int .i64 2) rfl rfl (by kernel_rfl) (Wk.int64 (n := 1 + 1) (z := 2) (by omega) (by omega) (by omega) (by kernel_rfl)) ?_
                    refine Wk.rPure 1 (some 55) (.int .i64 2) rfl rfl (by kernel_rfl) (by kernel_rfl) ?_
                    refine Wk.rEnd 2 rfl ?_
                    refine Wk.nxt ?_
                    refine Wk.rdS ?_
                    refine wp_seq ?_
                    refine Wk.reg ?_
                    refine Wk.rPure 0 (some 56) (.bool false) rfl rfl (by kernel_rfl) (Wk.boolF (b := decide ((2 : Int) < (2 : Int))) (decide_eq_false (by decide)) (by kernel_rfl)) ?_
                    refine Wk.rEnd 1 rfl ?_
                    refine Wk.nxt ?_
                    refine wp_seq ?_
                    refine wp_cond_false (by kernel_rfl) ?_
                    refine wp_exit ?_
                    refine Wk.thX ?_
                    refine Wk.thX ?_
                    refine Wk.inX ?_
                    refine Wk.inN ?_
                    refine Wk.inN ?_
                    refine Wk.nxt ?_
                    refine Wk.reg ?_
                    refine Wk.rPure 0 (some 116) (.int .i64 ((k + 1 : Nat) : Int)) rfl rfl (by kernel_rfl) (Wk.int64 (n := ((k : Nat) : Int) + 1) (z := ((k + 1 : Nat) : Int)) (by omega) (by omega) (by omega) (by kernel_rfl)) ?_
                    refine Wk.rPure 1 (some 26) (.int .i64 ((k + 1 : Nat) : Int)) rfl rfl (by kernel_rfl) (by kernel_rfl) ?_
                    refine Wk.rEnd 2 rfl ?_
                    refine Wk.nxt ?_
                    have kk45 := Wk.Chg.step HB ch3 trivial
                    have kk46 := Wk.Chg.step kk45 ch4 ⟨.inr (by omega), trivial⟩
                    have kk47 := Wk.Chg.step kk46 ch8 trivial
                    have kk48 := Wk.Chg.step kk47 ch9 trivial
                    have kk49 := Wk.Chg.step kk48 ch10 trivial
                    have kk50 := Wk.Chg.step kk49 ch11 trivial
                    have kk51 := Wk.Chg.step kk50 ch26 ⟨.inr (by omega), trivial⟩
                    have kk52 := Wk.Chg.step kk51 ch27 ⟨.inr (by omega), trivial⟩
                    have kk53 := Wk.Chg.step kk52 ch28 trivial
                    have kk54 := Wk.Chg.step kk53 ch29 trivial
                    have kk55 := Wk.Chg.step kk54 ch30 ⟨.inr (by omega), trivial⟩
                    have kk56 := Wk.Chg.step kk55 ch31 ⟨.inr (by omega), trivial⟩
                    have kk57 := Wk.Chg.step kk56 ch32 (Mur.newOr_iff.2 (fun t ht => .inr (by have := hM t ht; omega)))
                    have kk58 := Wk.Chg.step kk57 ch33 trivial
                    have kk59 := Wk.Chg.step kk58 ch34 trivial
                    refine ⟨_, ?_, k + 1, (⟨⟨xb.take nlx, nlx⟩, ⟨yb.take nly, nly⟩⟩ : Dk), FF7, rfl, by kernel_rfl, (by omega), hD43, kk59⟩
                    · omega
                  · refine Wk.oCall (some 47) 14 [.tmp 45, .tmp 46] #[23, 3] [.pointer (some ⟨w.heap.size, 0, none⟩), .int .i64 1] rfl rfl (by kernel_rfl) rfl (by kernel_rfl) (by kernel_rfl) ?_
                    have hD44 := Mur.DskF.chg hD37 ch29 (fun s hs hl => trivial)
                    refine (Synced_any w.heap.size (⟨⟨xb, xn⟩, ⟨yb, yn⟩⟩ : Dk) F 1 W30 hD44).mono ?_
                    rw [show Mur.Dk.synced (⟨⟨xb, xn⟩, ⟨yb, yn⟩⟩ : Dk) 1 = yn from rfl]
                    rintro _ _ ⟨rfl, rfl⟩
                    refine ⟨_, rfl, sS14, ?_⟩
                    refine Wk.dOp 5 (by kernel_rfl) ?_
                    refine Wk.oVal (some 44) (.string (Mur.str yb)) rfl rfl (by kernel_rfl) (Mur.run_str 26 9 (.tmp 43) 5 rfl Try.underlying26 Try.underlying5 Try.underlying9 AA7 yb.length nn7 yb (by kernel_rfl) hB8) ?_
                    refine ⟨sS14, ?_⟩
                    refine Wk.dVal 9 (some 48) (.pointer (some ⟨W5.heap.size, 1, none⟩)) rfl rfl (by kernel_rfl) (by kernel_rfl) (by kernel_rfl) (fun _ _ _ h => h) (by kernel_rfl) (fun w' hw' => (Wk.index_arr 33 9 (.tmp 6) (.tmp 39) rfl 2 Try.underlying33 1 (by kernel_rfl) W5.heap.size 0 1 .i64 (by kernel_rfl) (by kernel_rfl) (by decide))) sS14 ?_
                    refine Wk.dOp 10 (by kernel_rfl) ?_
                    refine Wk.oExS none _ rfl rfl (by kernel_rfl) (Wk.store1 9 (.tmp 48) (.tmp 44) rfl (by kernel_rfl) W5.heap.size 1 (by kernel_rfl) (.string (Mur.str yb)) (by kernel_rfl) rfl 33 (#[.string (Mur.str xb), .string ⟨#[]⟩]) (Wk.Chg.hp ch29 (Wk.Chg.hp ch28 (Wk.Chg.hp ch27 hb11 ⟨by omega, trivial⟩) trivial) trivial) (by simp)) ?_
                    rintro W36 ⟨hb15, ch35⟩
                    replace hb15 : W36.heap[W5.heap.size]? = some (.cells #[.string (Mur.str xb), .string (Mur.str yb)] 33 (0, 0)) := hb15
                    have zz36 := ch35.size
                    have sS17 := Wk.Chg.step sS14 ch35 ⟨.inl (by simp), trivial⟩
                    refine ⟨sS17, ?_⟩
                    refine Wk.dVal 11 (some 49) (.pointer (some ⟨W9.heap.size, 1, none⟩)) rfl rfl (by kernel_rfl) (by kernel_rfl) (by kernel_rfl) (fun _ _ _ h => h) (by kernel_rfl) (fun w' hw' => (Wk.index_arr 27 3 (.tmp 7) (.tmp 40) rfl 2 Try.underlying27 1 (by kernel_rfl) W9.heap.size 0 1 .i64 (by kernel_rfl) (by kernel_rfl) (by decide))) sS17 ?_
                    refine Wk.dOp 12 (by kernel_rfl) ?_
                    refine Wk.oExS none _ rfl rfl (by kernel_rfl) (Wk.store1 3 (.tmp 49) (.tmp 47) rfl (by kernel_rfl) W9.heap.size 1 (by kernel_rfl) (.int .i64 ((yn : Nat) : Int)) (by kernel_rfl) rfl 27 #[.int .i64 ((xn : Nat) : Int), .int .i64 0] (Wk.Chg.hp ch35 (Wk.Chg.hp ch29 (Wk.Chg.hp ch28 hb12 trivial) trivial) ⟨by omega, trivial⟩) (by simp)) ?_
                    rintro W37 ⟨hb16, ch36⟩
                    replace hb16 : W37.heap[W9.heap.size]? = some (.cells #[.int .i64 ((xn : Nat) : Int), .int .i64 ((yn : Nat) : Int)] 27 (0, 0)) := hb16
                    have zz37 := ch36.size
                    have sS18 := Wk.Chg.step sS17 ch36 ⟨.inl (by simp), trivial⟩
                    refine ⟨sS18, ?_⟩
                    refine Wk.dEnd (by kernel_rfl) ?_
                    refine Wk.inN ?_
                    refine Wk.nxt ?_
                    refine Wk.reg ?_
                    refine Wk.rPure 0 (some 50) (.int .i64 2) rfl rfl (by kernel_rfl) (Wk.int64 (n := 1 + 1) (z := 2) (by omega) (by omega) (by omega) (by kernel_rfl)) ?_
                    refine Wk.rPure 1 (some 36) (.int .i64 2) rfl rfl (by kernel_rfl) (by kernel_rfl) ?_
                    refine Wk.rEnd 2 rfl ?_
                    refine Wk.nxt ?_
                    refine Wk.rdS ?_
                    refine wp_seq ?_
                    refine Wk.reg ?_
                    refine Wk.rPure 0 (some 37) (.bool false) rfl rfl (by kernel_rfl) (Wk.boolF (b := decide ((2 : Int) < (2 : Int))) (decide_eq_false (by decide)) (by kernel_rfl)) ?_
                    refine Wk.rEnd 1 rfl ?_
                    refine Wk.nxt ?_
                    refine wp_seq ?_
                    refine wp_cond_false (by kernel_rfl) ?_
                    refine wp_exit ?_
                    refine Wk.thX ?_
                    refine Wk.thX ?_
                    refine Wk.inX ?_
                    refine Wk.nxt ?_
                    refine wp_seq ?_
                    refine Wk.reg ?_
                    refine Wk.rPure 0 (some 51) (.pointer (some ⟨w.heap.size, 0, none⟩)) rfl rfl (by kernel_rfl) (by kernel_rfl) ?_
                    refine Wk.rPure 1 (some 52) (.pointer (some ⟨W3.heap.size, 3, none⟩)) rfl rfl (by kernel_rfl) (by kernel_rfl) ?_
                    refine Wk.rPure 2 (some 53) (.agg #[.int .i64 k0, .int .i64 k1]) rfl rfl (by kernel_rfl) (Wk.loadR 27 (.tmp 52) rfl _ Try.underlying27 rfl W3.heap.size 3 (by kernel_rfl) ([.int .i64 k0, .int .i64 k1]) (by kernel_rfl) (Wk.range_sub 3 [.int .i64 k0, .int .i64 k1] (Wk.Chg.hp ch36 (Wk.Chg.hp ch35 (Wk.Chg.hp ch29 (Wk.Chg.hp ch28 (Wk.Chg.hp ch27 (Wk.Chg.hp ch26 (Wk.Chg.hp ch11 (Wk.Chg.hp ch10 (Wk.Chg.hp ch9 (Wk.Chg.hp ch8 hb2 trivial) trivial) trivial) trivial) ⟨by omega, trivial⟩) ⟨by omega, trivial⟩) trivial) trivial) ⟨by omega, trivial⟩) ⟨by omega, trivial⟩) rfl)) ?_
                    refine Wk.rCall 3 (some 54) 15 [.tmp 51, .tmp 53] #[23, 27] [.pointer (some ⟨w.heap.size, 0, none⟩), .agg #[.int .i64 k0, .int .i64 k1]] rfl rfl (by kernel_rfl) rfl (by kernel_rfl) (by kernel_rfl) ?_
                    have hD45 := Mur.DskF.chg hD44 ch35 (fun s hs hl => ⟨by have := hM s hs; omega, trivial⟩)
                    have hD46 := Mur.DskF.chg hD45 ch36 (fun s hs hl => ⟨by have := hM s hs; omega, trivial⟩)
                    obtain ⟨nlx, ex⟩ : ∃ m, (⟨xb, xn⟩ : Fil).left k0 = m := ⟨_, rfl⟩
                    have hlx := Mur.left_le k0 hx1
                    rw [ex] at hlx
                    obtain ⟨nly, ey⟩ : ∃ m, (⟨yb, yn⟩ : Fil).left k1 = m := ⟨_, rfl⟩
                    have hly := Mur.left_le k1 hy1
                    rw [ey] at hly
                    refine (Crash_any w.heap.size (⟨⟨xb, xn⟩, ⟨yb, yn⟩⟩ : Dk) F k0 k1 W37 hD46).mono ?_
                    rw [show Mur.Dk.crash (⟨⟨xb, xn⟩, ⟨yb, yn⟩⟩ : Dk) k0 k1 = (⟨⟨xb.take nlx, nlx⟩, ⟨yb.take nly, nly⟩⟩ : Dk) from by rw [← ex, ← ey]; rfl]
                    rintro _ W38 ⟨FF8, rfl, hD47, ch37, no7⟩
                    have hM8 := Mur.DskF.mem hD47
                    have zz38 := ch37.size
                    refine ⟨_, rfl, ?_⟩
                    refine Wk.rEnd 4 rfl ?_
                    refine Wk.nxt ?_
                    refine wp_seq ?_
                    refine Wk.reg ?_
                    refine Wk.rPure 0 (some 55) (.int .i64 0) rfl rfl (by kernel_rfl) (by kernel_rfl) ?_
                    refine Wk.rEnd 1 rfl ?_
                    refine Wk.nxt ?_
                    refine wp_block ?_
                    refine Wk.loopN 3 ?_
                    refine Wk.rdS ?_
                    refine wp_seq ?_
                    refine Wk.reg ?_
                    refine Wk.rPure 0 (some 56) (.bool true) rfl rfl (by kernel_rfl) (Wk.boolT (b := decide ((0 : Int) < (2 : Int))) (decide_eq_true (by decide)) (by kernel_rfl)) ?_
                    refine Wk.rEnd 1 rfl ?_
                    refine Wk.nxt ?_
                    refine wp_seq ?_
                    refine wp_cond_true (by kernel_rfl) ?_
                    refine wp_skip ?_
                    refine Wk.nxt ?_
                    refine wp_seq ?_
                    refine wp_block ?_
                    refine wp_seq ?_
                    refine Wk.reg ?_
                    refine Wk.rPure 0 (some 57) (.int .i64 0) rfl rfl (by kernel_rfl) (by kernel_rfl) ?_
                    refine Wk.rPure 1 (some 9) (.int .i64 0) rfl rfl (by kernel_rfl) (by kernel_rfl) ?_
                    refine Wk.rEnd 2 rfl ?_
                    refine Wk.nxt ?_
                    refine wp_seq ?_
                    refine Wk.reg ?_
                    refine Wk.rPure 0 (some 58) (.pointer (some ⟨w.heap.size, 0, none⟩)) rfl rfl (by kernel_rfl) (by kernel_rfl) ?_
                    refine Wk.rPure 1 (some 59) (.int .i64 0) rfl rfl (by kernel_rfl) (by kernel_rfl) ?_
                    refine Wk.rCall 2 (some 60) 13 [.tmp 58, .tmp 59] #[23, 3] [.pointer (some ⟨w.heap.size, 0, none⟩), .int .i64 0] rfl rfl (by kernel_rfl) rfl (by kernel_rfl) (by kernel_rfl) ?_
                    refine (Bytes_any w.heap.size (⟨⟨xb.take nlx, nlx⟩, ⟨yb.take nly, nly⟩⟩ : Dk) FF8 0 W38 hD47).mono ?_
                    rw [show Mur.Dk.bytes (⟨⟨xb.take nlx, nlx⟩, ⟨yb.take nly, nly⟩⟩ : Dk) 0 = xb.take nlx from rfl]
                    rintro _ W39 ⟨vv10, rfl, HO10, ch38⟩
                    obtain ⟨AA10, nn10, rfl, hcc10, hmm11, hN10, HS10, hl10⟩ := Wk.own_sl HO10
                    have hB11 : Byt W39 AA10 (xb.take nlx).length (xb.take nlx) := by obtain ⟨_, _, e_, _, _, hq⟩ := Mur.own_byt HO10; cases e_; exact hq
                    have zz39 := ch38.size
                    refine ⟨_, rfl, ?_⟩
                    refine Wk.rPure 3 (some 61) (.string (Mur.str (xb.take nlx))) rfl rfl (by kernel_rfl) (Mur.run_str 26 9 (.tmp 60) 5 rfl Try.underlying26 Try.underlying5 Try.underlying9 AA10 ((xb.take nlx).length) nn10 (xb.take nlx) (by kernel_rfl) hB11) ?_
                    refine Wk.rPure 4 (some 10) (.string (Mur.str (xb.take nlx))) rfl rfl (by kernel_rfl) (by kernel_rfl) ?_
                    refine Wk.rEnd 5 rfl ?_
                    refine Wk.nxt ?_
                    refine wp_seq ?_
                    refine Wk.reg ?_
                    refine Wk.rPure 0 (some 62) (.string (Mur.str (xb.take nlx))) rfl rfl (by kernel_rfl) (by kernel_rfl) ?_
                    refine Wk.rPure 1 (some 63) (.int .i64 (((xb.take nlx).length : Nat) : Int)) rfl rfl (by kernel_rfl) (Mur.strlen (.tmp 62) 9 rfl Try.underlying9 (xb.take nlx) (by kernel_rfl)) ?_
                    refine Wk.rPure 2 (some 64) (.int .i64 0) rfl rfl (by kernel_rfl) (by kernel_rfl) ?_
                    refine Wk.rPure 3 (some 65) (.pointer (some ⟨W5.heap.size, 0, none⟩)) rfl rfl (by kernel_rfl) (Wk.index_arr 33 9 (.tmp 6) (.tmp 64) rfl 2 Try.underlying33 1 (by kernel_rfl) W5.heap.size 0 0 .i64 (by kernel_rfl) (by kernel_rfl) (by decide)) ?_
                    refine Wk.rPure 4 (some 66) (.string (Mur.str xb)) rfl rfl (by kernel_rfl) (Wk.load1 9 (.tmp 65) rfl (by kernel_rfl) ⟨W5.heap.size, 0, none⟩ (by kernel_rfl) (.string (Mur.str xb)) ((cell_of_row _ _ 0 _ _ _ (Wk.Chg.hp ch38 (Wk.Chg.hp ch37 (Wk.Chg.hp ch36 hb15 ⟨by omega, trivial⟩) (Mur.off_iff.2 (fun t ht => by have := hM t ht; omega))) trivial)).trans rfl)) ?_
                    refine Wk.rPure 5 (some 67) (.int .i64 ((xb.length : Nat) : Int)) rfl rfl (by kernel_rfl) (Mur.strlen (.tmp 66) 9 rfl Try.underlying9 xb (by kernel_rfl)) ?_
                    refine Wk.rPure 6 (some 68) (.bool false) rfl rfl (by kernel_rfl) (Wk.boolF (b := decide ((((xb.take nlx).length : Nat) : Int) > ((xb.length : Nat) : Int))) (decide_eq_false (by simp only [List.length_take]; omega)) (by kernel_rfl)) ?_
                    refine Wk.rPure 7 (some 69) (.bool false) rfl rfl (by kernel_rfl) (by kernel_rfl) ?_
                    refine Wk.rPure 8 (some 70) (.int .i64 0) rfl rfl (by kernel_rfl) (by kernel_rfl) ?_
                    refine Wk.rPure 9 (some 71) (.pointer (some ⟨W5.heap.size, 0, none⟩)) rfl rfl (by kernel_rfl) (Wk.index_arr 33 9 (.tmp 6) (.tmp 70) rfl 2 Try.underlying33 1 (by kernel_rfl) W5.heap.size 0 0 .i64 (by kernel_rfl) (by kernel_rfl) (by decide)) ?_
                    refine Wk.rPure 10 (some 72) (.string (Mur.str xb)) rfl rfl (by kernel_rfl) (Wk.load1 9 (.tmp 71) rfl (by kernel_rfl) ⟨W5.heap.size, 0, none⟩ (by kernel_rfl) (.string (Mur.str xb)) ((cell_of_row _ _ 0 _ _ _ (Wk.Chg.hp ch38 (Wk.Chg.hp ch37 (Wk.Chg.hp ch36 hb15 ⟨by omega, trivial⟩) (Mur.off_iff.2 (fun t ht => by have := hM t ht; omega))) trivial)).trans rfl)) ?_
                    refine Wk.rPure 11 (some 73) (.string (Mur.str (xb.take nlx))) rfl rfl (by kernel_rfl) (by kernel_rfl) ?_
                    refine Wk.rPure 12 (some 74) (.int .i64 (((xb.take nlx).length : Nat) : Int)) rfl rfl (by kernel_rfl) (Mur.strlen (.tmp 73) 9 rfl Try.underlying9 (xb.take nlx) (by kernel_rfl)) ?_
                    refine Wk.rPure 13 (some 75) (.string (Mur.str (xb.take ((xb.take nlx).length)))) rfl rfl (by kernel_rfl) (Mur.strto 9 (.tmp 72) (.tmp 74) rfl Try.underlying9 xb ((xb.take nlx).length) (by kernel_rfl) (by kernel_rfl) (by simp only [List.length_take]; omega)) ?_
                    refine Wk.rPure 14 (some 76) (.string (Mur.str (xb.take nlx))) rfl rfl (by kernel_rfl) (by kernel_rfl) ?_
                    refine Wk.rPure 15 (some 77) (.bool false) rfl rfl (by kernel_rfl) (Wk.boolF (b := decide ((xb.take ((xb.take nlx).length)) ≠ (xb.take nlx))) (decide_eq_false (fun h => h (by congr 1; simp only [List.length_take]; omega))) (Mur.strne 9 9 (.tmp 75) (.tmp 76) rfl (xb.take ((xb.take nlx).length)) (xb.take nlx) (by kernel_rfl) (by kernel_rfl))) ?_
                    refine Wk.rPure 16 (some 78) (.bool false) rfl rfl (by kernel_rfl) (by kernel_rfl) ?_
                    refine Wk.rPure 17 (some 79) (.bool false) rfl rfl (by kernel_rfl) (by kernel_rfl) ?_
                    refine Wk.rPure 18 (some 80) (.string (Mur.str (xb.take nlx))) rfl rfl (by kernel_rfl) (by kernel_rfl) ?_
                    refine Wk.rPure 19 (some 81) (.int .i64 (((xb.take nlx).length : Nat) : Int)) rfl rfl (by kernel_rfl) (Mur.strlen (.tmp 80) 9 rfl Try.underlying9 (xb.take nlx) (by kernel_rfl)) ?_
                    refine Wk.rPure 20 (some 82) (.int .i64 0) rfl rfl (by kernel_rfl) (by kernel_rfl) ?_
                    refine Wk.rPure 21 (some 83) (.pointer (some ⟨W9.heap.size, 0, none⟩)) rfl rfl (by kernel_rfl) (Wk.index_arr 27 3 (.tmp 7) (.tmp 82) rfl 2 Try.underlying27 1 (by kernel_rfl) W9.heap.size 0 0 .i64 (by kernel_rfl) (by kernel_rfl) (by decide)) ?_
                    refine Wk.rPure 22 (some 84) (.int .i64 ((xn : Nat) : Int)) rfl rfl (by kernel_rfl) (Wk.load1 3 (.tmp 83) rfl (by kernel_rfl) ⟨W9.heap.size, 0, none⟩ (by kernel_rfl) (.int .i64 ((xn : Nat) : Int)) ((cell_of_row _ _ 0 _ _ _ (Wk.Chg.hp ch38 (Wk.Chg.hp ch37 hb16 (Mur.off_iff.2 (fun t ht => by have := hM t ht; omega))) trivial)).trans rfl)) ?_
                    refine Wk.rPure 23 (some 85) (.bool false) rfl rfl (by kernel_rfl) (Wk.boolF (b := decide ((((xb.take nlx).length : Nat) : Int) < ((xn : Nat) : Int))) (decide_eq_false (by simp only [List.length_take]; omega)) (by kernel_rfl)) ?_
                    refine Wk.rPure 24 (some 86) (.bool false) rfl rfl (by kernel_rfl) (by kernel_rfl) ?_
                    refine Wk.rPure 25 (some 87) (.bool false) rfl rfl (by kernel_rfl) (by kernel_rfl) ?_
                    refine Wk.rPure 26 (some 88) (.pointer (some ⟨w.heap.size, 0, none⟩)) rfl rfl (by kernel_rfl) (by kernel_rfl) ?_
                    refine Wk.rPure 27 (some 89) (.int .i64 0) rfl rfl (by kernel_rfl) (by kernel_rfl) ?_
                    refine Wk.rCall 28 (some 90) 14 [.tmp 88, .tmp 89] #[23, 3] [.pointer (some ⟨w.heap.size, 0, none⟩), .int .i64 0] rfl rfl (by kernel_rfl) rfl (by kernel_rfl) (by kernel_rfl) ?_
                    have hD48 := Mur.DskF.chg hD47 ch38 (fun s hs hl => trivial)
                    refine (Synced_any w.heap.size (⟨⟨xb.take nlx, nlx⟩, ⟨yb.take nly, nly⟩⟩ : Dk) FF8 0 W39 hD48).mono ?_
                    rw [show Mur.Dk.synced (⟨⟨xb.take nlx, nlx⟩, ⟨yb.take nly, nly⟩⟩ : Dk) 0 = nlx from rfl]
                    rintro _ _ ⟨rfl, rfl⟩
                    refine ⟨_, rfl, ?_⟩
                    refine Wk.rPure 29 (some 91) (.string (Mur.str (xb.take nlx))) rfl rfl (by kernel_rfl) (by kernel_rfl) ?_
                    refine Wk.rPure 30 (some 92) (.int .i64 (((xb.take nlx).length : Nat) : Int)) rfl rfl (by kernel_rfl) (Mur.strlen (.tmp 91) 9 rfl Try.underlying9 (xb.take nlx) (by kernel_rfl)) ?_
                    refine Wk.rPure 31 (some 93) (.bool false) rfl rfl (by kernel_rfl) (Wk.boolF (b := (((nlx : Nat) : Int) != (((xb.take nlx).length : Nat) : Int))) (bne_eq_false_iff_eq.2 (by simp only [List.length_take]; omega)) (by kernel_rfl)) ?_
                    refine Wk.rPure 32 (some 94) (.bool false) rfl rfl (by kernel_rfl) (by kernel_rfl) ?_
                    refine Wk.rEnd 33 rfl ?_
                    refine Wk.nxt ?_
                    refine wp_cond_false (by kernel_rfl) ?_
                    refine wp_skip ?_
                    refine Wk.inN ?_
                    refine Wk.nxt ?_
                    refine Wk.reg ?_
                    refine Wk.rPure 0 (some 95) (.int .i64 1) rfl rfl (by kernel_rfl) (Wk.int64 (n := 0 + 1) (z := 1) (by omega) (by omega) (by omega) (by kernel_rfl)) ?_
                    refine Wk.rPure 1 (some 55) (.int .i64 1) rfl rfl (by kernel_rfl) (by kernel_rfl) ?_
                    refine Wk.rEnd 2 rfl ?_
                    refine Wk.nxt ?_
                    refine Wk.rdS ?_
                    refine wp_seq ?_
                    refine Wk.reg ?_
                    refine Wk.rPure 0 (some 56) (.bool true) rfl rfl (by kernel_rfl) (Wk.boolT (b := decide ((1 : Int) < (2 : Int))) (decide_eq_true (by decide)) (by kernel_rfl)) ?_
                    refine Wk.rEnd 1 rfl ?_
                    refine Wk.nxt ?_
                    refine wp_seq ?_
                    refine wp_cond_true (by kernel_rfl) ?_
                    refine wp_skip ?_
                    refine Wk.nxt ?_
                    refine wp_seq ?_
                    refine wp_block ?_
                    refine wp_seq ?_
                    refine Wk.reg ?_
                    refine Wk.rPure 0 (some 57) (.int .i64 1) rfl rfl (by kernel_rfl) (by kernel_rfl) ?_
                    refine Wk.rPure 1 (some 9) (.int .i64 1) rfl rfl (by kernel_rfl) (by kernel_rfl) ?_
                    refine Wk.rEnd 2 rfl ?_
                    refine Wk.nxt ?_
                    refine wp_seq ?_
                    refine Wk.reg ?_
                    refine Wk.rPure 0 (some 58) (.pointer (some ⟨w.heap.size, 0, none⟩)) rfl rfl (by kernel_rfl) (by kernel_rfl) ?_
                    refine Wk.rPure 1 (some 59) (.int .i64 1) rfl rfl (by kernel_rfl) (by kernel_rfl) ?_
                    refine Wk.rCall 2 (some 60) 13 [.tmp 58, .tmp 59] #[23, 3] [.pointer (some ⟨w.heap.size, 0, none⟩), .int .i64 1] rfl rfl (by kernel_rfl) rfl (by kernel_rfl) (by kernel_rfl) ?_
                    refine (Bytes_any w.heap.size (⟨⟨xb.take nlx, nlx⟩, ⟨yb.take nly, nly⟩⟩ : Dk) FF8 1 W39 hD48).mono ?_
                    rw [show Mur.Dk.bytes (⟨⟨xb.take nlx, nlx⟩, ⟨yb.take nly, nly⟩⟩ : Dk) 1 = yb.take nly from rfl]
                    rintro _ W40 ⟨vv11, rfl, HO11, ch39⟩
                    obtain ⟨AA11, nn11, rfl, hcc11, hmm12, hN11, HS11, hl11⟩ := Wk.own_sl HO11
                    have hB12 : Byt W40 AA11 (yb.take nly).length (yb.take nly) := by obtain ⟨_, _, e_, _, _, hq⟩ := Mur.own_byt HO11; cases e_; exact hq
                    have zz40 := ch39.size
                    refine ⟨_, rfl, ?_⟩
                    refine Wk.rPure 3 (some 61) (.string (Mur.str (yb.take nly))) rfl rfl (by kernel_rfl) (Mur.run_str 26 9 (.tmp 60) 5 rfl Try.underlying26 Try.underlying5 Try.underlying9 AA11 ((yb.take nly).length) nn11 (yb.take nly) (by kernel_rfl) hB12) ?_
                    refine Wk.rPure 4 (some 10) (.string (Mur.str (yb.take nly))) rfl rfl (by kernel_rfl) (by kernel_rfl) ?_
                    refine Wk.rEnd 5 rfl ?_
                    refine Wk.nxt ?_
                    refine wp_seq ?_
                    refine Wk.reg ?_
                    refine Wk.rPure 0 (some 62) (.string (Mur.str (yb.take nly))) rfl rfl (by kernel_rfl) (by kernel_rfl) ?_
                    refine Wk.rPure 1 (some 63) (.int .i64 (((yb.take nly).length : Nat) : Int)) rfl rfl (by kernel_rfl) (Mur.strlen (.tmp 62) 9 rfl Try.underlying9 (yb.take nly) (by kernel_rfl)) ?_
                    refine Wk.rPure 2 (some 64) (.int .i64 1) rfl rfl (by kernel_rfl) (by kernel_rfl) ?_
                    refine Wk.rPure 3 (some 65) (.pointer (some ⟨W5.heap.size, 1, none⟩)) rfl rfl (by kernel_rfl) (Wk.index_arr 33 9 (.tmp 6) (.tmp 64) rfl 2 Try.underlying33 1 (by kernel_rfl) W5.heap.size 0 1 .i64 (by kernel_rfl) (by kernel_rfl) (by decide)) ?_
                    refine Wk.rPure 4 (some 66) (.string (Mur.str yb)) rfl rfl (by kernel_rfl) (Wk.load1 9 (.tmp 65) rfl (by kernel_rfl) ⟨W5.heap.size, 1, none⟩ (by kernel_rfl) (.string (Mur.str yb)) ((cell_of_row _ _ 1 _ _ _ (Wk.Chg.hp ch39 (Wk.Chg.hp ch38 (Wk.Chg.hp ch37 (Wk.Chg.hp ch36 hb15 ⟨by omega, trivial⟩) (Mur.off_iff.2 (fun t ht => by have := hM t ht; omega))) trivial) trivial)).trans rfl)) ?_
                    refine Wk.rPure 5 (some 67) (.int .i64 ((yb.length : Nat) : Int)) rfl rfl (by kernel_rfl) (Mur.strlen (.tmp 66) 9 rfl Try.underlying9 yb (by kernel_rfl)) ?_
                    refine Wk.rPure 6 (some 68) (.bool false) rfl rfl (by kernel_rfl) (Wk.boolF (b := decide ((((yb.take nly).length : Nat) : Int) > ((yb.length : Nat) : Int))) (decide_eq_false (by simp only [List.length_take]; omega)) (by kernel_rfl)) ?_
                    refine Wk.rPure 7 (some 69) (.bool false) rfl rfl (by kernel_rfl) (by kernel_rfl) ?_
                    refine Wk.rPure 8 (some 70) (.int .i64 1) rfl rfl (by kernel_rfl) (by kernel_rfl) ?_
                    refine Wk.rPure 9 (some 71) (.pointer (some ⟨W5.heap.size, 1, none⟩)) rfl rfl (by kernel_rfl) (Wk.index_arr 33 9 (.tmp 6) (.tmp 70) rfl 2 Try.underlying33 1 (by kernel_rfl) W5.heap.size 0 1 .i64 (by kernel_rfl) (by kernel_rfl) (by decide)) ?_
                    refine Wk.rPure 10 (some 72) (.string (Mur.str yb)) rfl rfl (by kernel_rfl) (Wk.load1 9 (.tmp 71) rfl (by kernel_rfl) ⟨W5.heap.size, 1, none⟩ (by kernel_rfl) (.string (Mur.str yb)) ((cell_of_row _ _ 1 _ _ _ (Wk.Chg.hp ch39 (Wk.Chg.hp ch38 (Wk.Chg.hp ch37 (Wk.Chg.hp ch36 hb15 ⟨by omega, trivial⟩) (Mur.off_iff.2 (fun t ht => by have := hM t ht; omega))) trivial) trivial)).trans rfl)) ?_
                    refine Wk.rPure 11 (some 73) (.string (Mur.str (yb.take nly))) rfl rfl (by kernel_rfl) (by kernel_rfl) ?_
                    refine Wk.rPure 12 (some 74) (.int .i64 (((yb.take nly).length : Nat) : Int)) rfl rfl (by kernel_rfl) (Mur.strlen (.tmp 73) 9 rfl Try.underlying9 (yb.take nly) (by kernel_rfl)) ?_
                    refine Wk.rPure 13 (some 75) (.string (Mur.str (yb.take ((yb.take nly).length)))) rfl rfl (by kernel_rfl) (Mur.strto 9 (.tmp 72) (.tmp 74) rfl Try.underlying9 yb ((yb.take nly).length) (by kernel_rfl) (by kernel_rfl) (by simp only [List.length_take]; omega)) ?_
                    refine Wk.rPure 14 (some 76) (.string (Mur.str (yb.take nly))) rfl rfl (by kernel_rfl) (by kernel_rfl) ?_
                    refine Wk.rPure 15 (some 77) (.bool false) rfl rfl (by kernel_rfl) (Wk.boolF (b := decide ((yb.take ((yb.take nly).length)) ≠ (yb.take nly))) (decide_eq_false (fun h => h (by congr 1; simp only [List.length_take]; omega))) (Mur.strne 9 9 (.tmp 75) (.tmp 76) rfl (yb.take ((yb.take nly).length)) (yb.take nly) (by kernel_rfl) (by kernel_rfl))) ?_
                    refine Wk.rPure 16 (some 78) (.bool false) rfl rfl (by kernel_rfl) (by kernel_rfl) ?_
                    refine Wk.rPure 17 (some 79) (.bool false) rfl rfl (by kernel_rfl) (by kernel_rfl) ?_
                    refine Wk.rPure 18 (some 80) (.string (Mur.str (yb.take nly))) rfl rfl (by kernel_rfl) (by kernel_rfl) ?_
                    refine Wk.rPure 19 (some 81) (.int .i64 (((yb.take nly).length : Nat) : Int)) rfl rfl (by kernel_rfl) (Mur.strlen (.tmp 80) 9 rfl Try.underlying9 (yb.take nly) (by kernel_rfl)) ?_
                    refine Wk.rPure 20 (some 82) (.int .i64 1) rfl rfl (by kernel_rfl) (by kernel_rfl) ?_
                    refine Wk.rPure 21 (some 83) (.pointer (some ⟨W9.heap.size, 1, none⟩)) rfl rfl (by kernel_rfl) (Wk.index_arr 27 3 (.tmp 7) (.tmp 82) rfl 2 Try.underlying27 1 (by kernel_rfl) W9.heap.size 0 1 .i64 (by kernel_rfl) (by kernel_rfl) (by decide)) ?_
                    refine Wk.rPure 22 (some 84) (.int .i64 ((yn : Nat) : Int)) rfl rfl (by kernel_rfl) (Wk.load1 3 (.tmp 83) rfl (by kernel_rfl) ⟨W9.heap.size, 1, none⟩ (by kernel_rfl) (.int .i64 ((yn : Nat) : Int)) ((cell_of_row _ _ 1 _ _ _ (Wk.Chg.hp ch39 (Wk.Chg.hp ch38 (Wk.Chg.hp ch37 hb16 (Mur.off_iff.2 (fun t ht => by have := hM t ht; omega))) trivial) trivial)).trans rfl)) ?_
                    refine Wk.rPure 23 (some 85) (.bool false) rfl rfl (by kernel_rfl) (Wk.boolF (b := decide ((((yb.take nly).length : Nat) : Int) < ((yn : Nat) : Int))) (decide_eq_false (by simp only [List.length_take]; omega)) (by kernel_rfl)) ?_
                    refine Wk.rPure 24 (some 86) (.bool false) rfl rfl (by kernel_rfl) (by kernel_rfl) ?_
                    refine Wk.rPure 25 (some 87) (.bool false) rfl rfl (by kernel_rfl) (by kernel_rfl) ?_
                    refine Wk.rPure 26 (some 88) (.pointer (some ⟨w.heap.size, 0, none⟩)) rfl rfl (by kernel_rfl) (by kernel_rfl) ?_
                    refine Wk.rPure 27 (some 89) (.int .i64 1) rfl rfl (by kernel_rfl) (by kernel_rfl) ?_
                    refine Wk.rCall 28 (some 90) 14 [.tmp 88, .tmp 89] #[23, 3] [.pointer (some ⟨w.heap.size, 0, none⟩), .int .i64 1] rfl rfl (by kernel_rfl) rfl (by kernel_rfl) (by kernel_rfl) ?_
                    have hD49 := Mur.DskF.chg hD48 ch39 (fun s hs hl => trivial)
                    refine (Synced_any w.heap.size (⟨⟨xb.take nlx, nlx⟩, ⟨yb.take nly, nly⟩⟩ : Dk) FF8 1 W40 hD49).mono ?_
                    rw [show Mur.Dk.synced (⟨⟨xb.take nlx, nlx⟩, ⟨yb.take nly, nly⟩⟩ : Dk) 1 = nly from rfl]
                    rintro _ _ ⟨rfl, rfl⟩
                    refine ⟨_, rfl, ?_⟩
                    refine Wk.rPure 29 (some 91) (.string (Mur.str (yb.take nly))) rfl rfl (by kernel_rfl) (by kernel_rfl) ?_
                    refine Wk.rPure 30 (some 92) (.int .i64 (((yb.take nly).length : Nat) : Int)) rfl rfl (by kernel_rfl) (Mur.strlen (.tmp 91) 9 rfl Try.underlying9 (yb.take nly) (by kernel_rfl)) ?_
                    refine Wk.rPure 31 (some 93) (.bool false) rfl rfl (by kernel_rfl) (Wk.boolF (b := (((nly : Nat) : Int) != (((yb.take nly).length : Nat) : Int))) (bne_eq_false_iff_eq.2 (by simp only [List.length_take]; omega)) (by kernel_rfl)) ?_
                    refine Wk.rPure 32 (some 94) (.bool false) rfl rfl (by kernel_rfl) (by kernel_rfl) ?_
                    refine Wk.rEnd 33 rfl ?_
                    refine Wk.nxt ?_
                    refine wp_cond_false (by kernel_rfl) ?_
                    refine wp_skip ?_
                    refine Wk.inN ?_
                    refine Wk.nxt ?_
                    refine Wk.reg ?_
                    refine Wk.rPure 0 (some 95) (.int .i64 2) rfl rfl (by kernel_rfl) (Wk.int64 (n := 1 + 1) (z := 2) (by omega) (by omega) (by omega) (by kernel_rfl)) ?_
                    refine Wk.rPure 1 (some 55) (.int .i64 2) rfl rfl (by kernel_rfl) (by kernel_rfl) ?_
                    refine Wk.rEnd 2 rfl ?_
                    refine Wk.nxt ?_
                    refine Wk.rdS ?_
                    refine wp_seq ?_
                    refine Wk.reg ?_
                    refine Wk.rPure 0 (some 56) (.bool false) rfl rfl (by kernel_rfl) (Wk.boolF (b := decide ((2 : Int) < (2 : Int))) (decide_eq_false (by decide)) (by kernel_rfl)) ?_
                    refine Wk.rEnd 1 rfl ?_
                    refine Wk.nxt ?_
                    refine wp_seq ?_
                    refine wp_cond_false (by kernel_rfl) ?_
                    refine wp_exit ?_
                    refine Wk.thX ?_
                    refine Wk.thX ?_
                    refine Wk.inX ?_
                    refine Wk.inN ?_
                    refine Wk.inN ?_
                    refine Wk.nxt ?_
                    refine Wk.reg ?_
                    refine Wk.rPure 0 (some 116) (.int .i64 ((k + 1 : Nat) : Int)) rfl rfl (by kernel_rfl) (Wk.int64 (n := ((k : Nat) : Int) + 1) (z := ((k + 1 : Nat) : Int)) (by omega) (by omega) (by omega) (by kernel_rfl)) ?_
                    refine Wk.rPure 1 (some 26) (.int .i64 ((k + 1 : Nat) : Int)) rfl rfl (by kernel_rfl) (by kernel_rfl) ?_
                    refine Wk.rEnd 2 rfl ?_
                    refine Wk.nxt ?_
                    have kk60 := Wk.Chg.step HB ch3 trivial
                    have kk61 := Wk.Chg.step kk60 ch4 ⟨.inr (by omega), trivial⟩
                    have kk62 := Wk.Chg.step kk61 ch8 trivial
                    have kk63 := Wk.Chg.step kk62 ch9 trivial
                    have kk64 := Wk.Chg.step kk63 ch10 trivial
                    have kk65 := Wk.Chg.step kk64 ch11 trivial
                    have kk66 := Wk.Chg.step kk65 ch26 ⟨.inr (by omega), trivial⟩
                    have kk67 := Wk.Chg.step kk66 ch27 ⟨.inr (by omega), trivial⟩
                    have kk68 := Wk.Chg.step kk67 ch28 trivial
                    have kk69 := Wk.Chg.step kk68 ch29 trivial
                    have kk70 := Wk.Chg.step kk69 ch35 ⟨.inr (by omega), trivial⟩
                    have kk71 := Wk.Chg.step kk70 ch36 ⟨.inr (by omega), trivial⟩
                    have kk72 := Wk.Chg.step kk71 ch37 (Mur.newOr_iff.2 (fun t ht => .inr (by have := hM t ht; omega)))
                    have kk73 := Wk.Chg.step kk72 ch38 trivial
                    have kk74 := Wk.Chg.step kk73 ch39 trivial
                    refine ⟨_, ?_, k + 1, (⟨⟨xb.take nlx, nlx⟩, ⟨yb.take nly, nly⟩⟩ : Dk), FF8, rfl, by kernel_rfl, (by omega), hD49, kk74⟩
                    · omega
      · refine wp_seq ?_
        refine Wk.reg ?_
        refine Wk.rPure 0 (some 27) (.bool false) rfl rfl (by kernel_rfl) (Wk.boolF (b := decide (((k : Nat) : Int) < ((n : Nat) : Int))) (decide_eq_false (by omega)) (by kernel_rfl)) ?_
        refine Wk.rEnd 1 rfl ?_
        refine Wk.nxt ?_
        refine wp_seq ?_
        refine wp_cond_false (by kernel_rfl) ?_
        refine wp_exit ?_
        refine Wk.thX ?_
        refine Wk.thX ?_
        refine Wk.inX ?_
        refine Wk.nxt ?_
        refine wp_seq ?_
        refine Wk.reg ?_
        refine Wk.rCall 0 (some 117) 9 [] #[] [] rfl rfl (by kernel_rfl) rfl (by kernel_rfl) (by kernel_rfl) ?_
        refine (known_any W3).mono ?_
        rintro _ W41 ⟨rfl, hB13⟩
        have ch40 := Wk.Chg.ofBelow hB13
        have zz41 := ch40.size
        refine ⟨_, rfl, ?_⟩
        refine Wk.rPure 1 (some 2) (.bool true) rfl rfl (by kernel_rfl) (by kernel_rfl) ?_
        refine Wk.rEnd 2 rfl ?_
        refine Wk.nxt ?_
        refine wp_ret ?_
        have kk75 := Wk.Chg.step HB ch40 trivial
        refine Wk.ret (.bool true) rfl (by kernel_rfl) ?_
        exact ⟨rfl, Wk.Chg.below0 kk75⟩
end Go.Proofs.Ytddabjlhidokaaa
