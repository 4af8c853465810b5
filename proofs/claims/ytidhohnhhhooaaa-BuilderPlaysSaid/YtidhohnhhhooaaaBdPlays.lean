/- BuilderPlays, walked. -/
import Derived.Test.YtidhohnhhhooaaaBdCon
import Derived.Test.YtidhohnhhhooaaaBdAns
namespace Go.Proofs.Ytidhohnhhhooaaa
open Go.RowKit
open Mur (Trn Fct Upd Tls Tolds Ref refTo toldTo trnTo tick outsTo wants tcells)
set_option maxRecDepth 100000
set_option maxHeartbeats 4000000
def PlaysYes_F0 (b : Array Value) (u0 : Value) (u1 : Value) (u2 : Value) (u7 : Value) (u9 : Value) (u10 : Value) (u50 : Value) (u51 : Value) : Act := ⟨#[u0, u1, u2, b.getD 3 undef, b.getD 4 undef, b.getD 5 undef, b.getD 6 undef, u7, b.getD 8 undef, u9, u10, b.getD 11 undef, b.getD 12 undef, b.getD 13 undef, b.getD 14 undef, b.getD 15 undef, b.getD 16 undef, b.getD 17 undef, b.getD 18 undef, b.getD 19 undef, b.getD 20 undef, b.getD 21 undef, b.getD 22 undef, b.getD 23 undef, b.getD 24 undef, b.getD 25 undef, b.getD 26 undef, b.getD 27 undef, b.getD 28 undef, b.getD 29 undef, b.getD 30 undef, b.getD 31 undef, b.getD 32 undef, b.getD 33 undef, b.getD 34 undef, b.getD 35 undef, b.getD 36 undef, b.getD 37 undef, b.getD 38 undef, b.getD 39 undef, b.getD 40 undef, b.getD 41 undef, b.getD 42 undef, b.getD 43 undef, b.getD 44 undef, b.getD 45 undef, b.getD 46 undef, b.getD 47 undef, b.getD 48 undef, b.getD 49 undef, u50, u51, b.getD 52 undef, b.getD 53 undef, b.getD 54 undef, b.getD 55 undef, b.getD 56 undef, b.getD 57 undef, b.getD 58 undef, b.getD 59 undef, b.getD 60 undef, b.getD 61 undef, b.getD 62 undef, b.getD 63 undef, b.getD 64 undef, b.getD 65 undef, b.getD 66 undef, b.getD 67 undef, b.getD 68 undef, b.getD 69 undef, b.getD 70 undef, b.getD 71 undef, b.getD 72 undef, b.getD 73 undef, b.getD 74 undef, b.getD 75 undef, b.getD 76 undef, b.getD 77 undef, b.getD 78 undef, b.getD 79 undef, b.getD 80 undef, b.getD 81 undef, b.getD 82 undef, b.getD 83 undef, b.getD 84 undef, b.getD 85 undef, b.getD 86 undef, b.getD 87 undef, b.getD 88 undef, b.getD 89 undef, b.getD 90 undef, b.getD 91 undef, b.getD 92 undef, b.getD 93 undef, b.getD 94 undef, b.getD 95 undef, b.getD 96 undef, b.getD 97 undef, b.getD 98 undef, b.getD 99 undef, b.getD 100 undef, b.getD 101 undef, b.getD 102 undef, b.getD 103 undef, b.getD 104 undef, b.getD 105 undef, b.getD 106 undef, b.getD 107 undef, b.getD 108 undef], []⟩
theorem told_range {l : Tls} {k : Nat} (hk : k ≤ 201) : ∀ x ∈ toldTo 1000 5 l k, 0 ≤ x.1 ∧ x.1 ≤ 1000000000 := by
  intro x hx
  simp only [toldTo, List.mem_map, List.mem_range] at hx
  obtain ⟨j, hj, rfl⟩ := hx
  have := Mur.tick_range (show (0 : Int) ≤ 1000 by decide) l (j + 1) (now := 5)
  simp only
  omega
theorem outs_at {most budget : Int} {l : Tls} {k : Nat} : (wants (outsTo most budget l (k + 1)))[k * 1]? = some (.int .u8 (refTo most budget l (k + 1)).out) := by
  rw [Nat.mul_one]
  unfold wants
  rw [List.getElem?_map, Mur.outsTo_get _ _ _ _ _ (by omega)]
  rfl
theorem plays_yes (most budget : Int) (L : Tls) (A : Option Addr) (n c : Nat) (w : World) (hl : Tolds w A n L) (hn : n ≤ 9223372036854775807) (hm : 0 ≤ most ∧ most ≤ 1000000) (hb : 0 ≤ budget ∧ budget ≤ 1000000) :
    Calls Try.prog 3 #[.int .i64 most, .int .i64 budget, .slice A n c] w fun e w' => e = .returned (.bool true) ∧ Below w.heap.size w w' := by
  have HL := Go.Lib.hid hl
  clear hl
  obtain ⟨hm1, hm2⟩ := hm
  obtain ⟨hb1, hb2⟩ := hb
  refine calls_of_wp Try.func3 rfl ?_
  refine wp_seq ?_
  refine Wk.reg ?_
  refine Wk.rPure 0 (some 6) (.bool false) rfl rfl (by kernel_rfl) (by kernel_rfl) ?_
  refine Wk.rEnd 1 rfl ?_
  refine Wk.nxt ?_
  refine wp_seq ?_
  refine Wk.reg ?_
  refine Wk.rPure 0 (some 13) (.int .i64 most) rfl rfl (by kernel_rfl) (by kernel_rfl) ?_
  refine Wk.rPure 1 (some 14) (.int .i64 budget) rfl rfl (by kernel_rfl) (by kernel_rfl) ?_
  refine Wk.rCall 2 (some 15) 7 [.tmp 13, .tmp 14] #[3, 3] [.int .i64 most, .int .i64 budget] rfl rfl (by kernel_rfl) rfl (by kernel_rfl) (by kernel_rfl) ?_
  refine (New_law most budget w (by omega) (by omega) (by omega) (by omega)).mono ?_
  rintro _ W1 ⟨rfl, hb1, ch1, sz1⟩
  have zz1 := ch1.size
  refine ⟨_, rfl, ?_⟩
  refine Wk.rPure 3 (some 7) (.pointer (some ⟨w.heap.size, 0, none⟩)) rfl rfl (by kernel_rfl) (by kernel_rfl) ?_
  refine Wk.rEnd 4 rfl ?_
  refine Wk.nxt ?_
  refine wp_seq ?_
  refine Wk.reg ?_
  refine Wk.rPure 0 (some 16) (.int .i64 most) rfl rfl (by kernel_rfl) (by kernel_rfl) ?_
  refine Wk.rPure 1 (some 17) (.bool true) rfl rfl (by kernel_rfl) (Wk.boolT (b := decide (most ≥ (0 : Int))) (decide_eq_true (by omega)) (by kernel_rfl)) ?_
  refine Wk.rPure 2 (some 18) (.bool true) rfl rfl (by kernel_rfl) (by kernel_rfl) ?_
  refine Wk.rPure 3 (some 19) (.int .i64 budget) rfl rfl (by kernel_rfl) (by kernel_rfl) ?_
  refine Wk.rPure 4 (some 20) (.bool true) rfl rfl (by kernel_rfl) (Wk.boolT (b := decide (budget ≥ (0 : Int))) (decide_eq_true (by omega)) (by kernel_rfl)) ?_
  refine Wk.rPure 5 (some 21) (.bool true) rfl rfl (by kernel_rfl) (by kernel_rfl) ?_
  refine Wk.rPure 6 (some 22) (.bool true) rfl rfl (by kernel_rfl) (by kernel_rfl) ?_
  refine Wk.rPure 7 (some 23) (.int .i64 most) rfl rfl (by kernel_rfl) (by kernel_rfl) ?_
  refine Wk.rPure 8 (some 24) (.bool true) rfl rfl (by kernel_rfl) (Wk.boolT (b := decide (most ≤ (1000000 : Int))) (decide_eq_true (by omega)) (by kernel_rfl)) ?_
  refine Wk.rPure 9 (some 25) (.bool true) rfl rfl (by kernel_rfl) (by kernel_rfl) ?_
  refine Wk.rPure 10 (some 26) (.bool true) rfl rfl (by kernel_rfl) (by kernel_rfl) ?_
  refine Wk.rPure 11 (some 27) (.int .i64 budget) rfl rfl (by kernel_rfl) (by kernel_rfl) ?_
  refine Wk.rPure 12 (some 28) (.bool true) rfl rfl (by kernel_rfl) (Wk.boolT (b := decide (budget ≤ (1000000 : Int))) (decide_eq_true (by omega)) (by kernel_rfl)) ?_
  refine Wk.rPure 13 (some 29) (.bool true) rfl rfl (by kernel_rfl) (by kernel_rfl) ?_
  refine Wk.rPure 14 (some 8) (.bool true) rfl rfl (by kernel_rfl) (by kernel_rfl) ?_
  refine Wk.rEnd 15 rfl ?_
  refine Wk.nxt ?_
  refine wp_seq ?_
  refine wp_seq ?_
  refine Wk.reg ?_
  refine Wk.rPure 0 (some 30) (.pointer (some ⟨w.heap.size, 0, none⟩)) rfl rfl (by kernel_rfl) (by kernel_rfl) ?_
  refine Wk.rPure 1 (some 31) (.bool true) rfl rfl (by kernel_rfl) (by kernel_rfl) ?_
  refine Wk.rPure 2 (some 32) (.bool true) rfl rfl (by kernel_rfl) (by kernel_rfl) ?_
  refine Wk.rPure 3 (some 33) (.bool false) rfl rfl (by kernel_rfl) (by kernel_rfl) ?_
  refine Wk.rPure 4 (some 34) (.bool false) rfl rfl (by kernel_rfl) (by kernel_rfl) ?_
  refine Wk.rPure 5 (some 35) (.slice A n c) rfl rfl (by kernel_rfl) (by kernel_rfl) ?_
  refine Wk.rPure 6 (some 36) (.int .i64 ((n : Nat) : Int)) rfl rfl (by kernel_rfl) (by kernel_rfl) ?_
  by_cases hx1 : ((n : Nat) : Int) > (200 : Int)
  · refine Wk.rPure 7 (some 37) (.bool true) rfl rfl (by kernel_rfl) (Wk.boolT (b := decide (((n : Nat) : Int) > (200 : Int))) (decide_eq_true (by first | exact hx1 | omega)) (by kernel_rfl)) ?_
    refine Wk.rPure 8 (some 38) (.bool true) rfl rfl (by kernel_rfl) (by kernel_rfl) ?_
    refine Wk.rEnd 9 rfl ?_
    refine Wk.nxt ?_
    refine wp_cond_true (by kernel_rfl) ?_
    refine wp_seq ?_
    refine Wk.reg ?_
    refine Wk.rPure 0 (some 39) (.pointer (some ⟨w.heap.size, 0, none⟩)) rfl rfl (by kernel_rfl) (by kernel_rfl) ?_
    refine Wk.rPure 1 (some 40) (.bool true) rfl rfl (by kernel_rfl) (by kernel_rfl) ?_
    refine Wk.rPure 2 (some 41) (.bool true) rfl rfl (by kernel_rfl) (by kernel_rfl) ?_
    refine Wk.rPure 3 (some 42) (.bool true) rfl rfl (by kernel_rfl) (by kernel_rfl) ?_
    refine Wk.rPure 4 (some 43) (.bool true) rfl rfl (by kernel_rfl) (by kernel_rfl) ?_
    refine Wk.rCall 5 (some 44) 8 [] #[] [] rfl rfl (by kernel_rfl) rfl (by kernel_rfl) (by kernel_rfl) ?_
    refine (known_any W1).mono ?_
    rintro _ W2 ⟨rfl, hB1⟩
    have ch2 := Wk.Chg.ofBelow hB1
    have zz2 := ch2.size
    refine ⟨_, rfl, ?_⟩
    refine Wk.rPure 6 (some 45) (.bool true) rfl rfl (by kernel_rfl) (by kernel_rfl) ?_
    refine Wk.rPure 7 (some 6) (.bool true) rfl rfl (by kernel_rfl) (by kernel_rfl) ?_
    refine Wk.rEnd 8 rfl ?_
    refine Wk.nxt ?_
    refine wp_ret ?_
    refine Wk.thR ?_
    have kk1 : Wk.Chg [] w W1 := Wk.Chg.step ((Wk.Chg.refl _).more (by simp)) ch1 trivial
    have kk2 := Wk.Chg.step kk1 ch2 trivial
    refine Wk.ret (.bool true) rfl (by kernel_rfl) ?_
    exact ⟨rfl, Wk.Chg.below0 kk2⟩
  · refine Wk.rPure 7 (some 37) (.bool false) rfl rfl (by kernel_rfl) (Wk.boolF (b := decide (((n : Nat) : Int) > (200 : Int))) (decide_eq_false (by first | exact hx1 | omega)) (by kernel_rfl)) ?_
    refine Wk.rPure 8 (some 38) (.bool false) rfl rfl (by kernel_rfl) (by kernel_rfl) ?_
    refine Wk.rEnd 9 rfl ?_
    refine Wk.nxt ?_
    refine wp_cond_false (by kernel_rfl) ?_
    refine wp_skip ?_
    refine Wk.nxt ?_
    refine wp_seq ?_
    refine wp_seq ?_
    refine Wk.reg ?_
    refine Wk.rPure 0 (some 46) (.bool true) rfl rfl (by kernel_rfl) (by kernel_rfl) ?_
    refine Wk.rPure 1 (some 47) (.bool false) rfl rfl (by kernel_rfl) (by kernel_rfl) ?_
    refine Wk.rEnd 2 rfl ?_
    refine Wk.nxt ?_
    refine wp_cond_false (by kernel_rfl) ?_
    refine wp_skip ?_
    refine Wk.nxt ?_
    refine wp_seq ?_
    refine Wk.reg ?_
    refine Wk.rPure 0 (some 9) (.slice none 0 0) rfl rfl (by kernel_rfl) (by kernel_rfl) ?_
    refine Wk.rEnd 1 rfl ?_
    refine Wk.nxt ?_
    refine wp_seq ?_
    refine Wk.reg ?_
    refine Wk.rPure 0 (some 10) (.int .i64 5) rfl rfl (by kernel_rfl) (by kernel_rfl) ?_
    refine Wk.rEnd 1 rfl ?_
    refine Wk.nxt ?_
    refine wp_seq ?_
    refine wp_seq ?_
    refine Wk.reg ?_
    refine Wk.rPure 0 (some 49) (.slice A n c) rfl rfl (by kernel_rfl) (by kernel_rfl) ?_
    refine Wk.rPure 1 (some 50) (.int .i64 ((n : Nat) : Int)) rfl rfl (by kernel_rfl) (by kernel_rfl) ?_
    refine Wk.rPure 2 (some 51) (.int .i64 0) rfl rfl (by kernel_rfl) (by kernel_rfl) ?_
    refine Wk.rEnd 3 rfl ?_
    refine Wk.nxt ?_
    refine wp_block ?_
    refine Wk.loop (fun m a wr => ∃ (k : Nat) (A3 : Option Addr) (c3 : Nat), m = n - k ∧ a = PlaysYes_F0 a.tmps (.int .i64 most) (.int .i64 budget) (.slice A n c) (.pointer (some ⟨w.heap.size, 0, none⟩)) (.slice A3 k c3) (.int .i64 (tick 1000 5 L k)) (.int .i64 ((n : Nat) : Int)) (.int .i64 ((k : Nat) : Int)) ∧ k ≤ n ∧ wr.heap[w.heap.size]? = some (.cells (trnTo 1000 5 most budget L k).cells 41 (0, 0)) ∧ wr.ownsRow (w.heap.size + 1) 32 9 (.slice A3 k c3) k (tcells (toldTo 1000 5 L k)) ∧ Wk.Chg [] w wr) (n - 0) ?_ ?_
    · have kk3 : Wk.Chg [] w W1 := Wk.Chg.step ((Wk.Chg.refl _).more (by simp)) ch1 trivial
      refine ⟨0, none, 0, rfl, by kernel_rfl, Nat.zero_le _, hb1, ⟨rfl, .inl ⟨rfl, rfl⟩⟩, kk3⟩
    · rintro mm1 aa1 W3 ⟨k, A3, c3, hmm1, hF1, hk, hG, HO, HB⟩
      generalize aa1.tmps = bb1 at hF1
      subst hF1
      have LT := World.ownsRow.lt HO
      have hsz : w.heap.size < W3.heap.size := (Array.getElem?_eq_some_iff.1 hG).1
      have htk := Mur.tick_range (show (0 : Int) ≤ 1000 by decide) L k (now := 5)
      by_cases hlt : k < n
      · obtain ⟨g, off, rfl, hc⟩ := HL.out.2 (by omega)
        obtain ⟨⟨x, f⟩, hx⟩ : ∃ p, L[k]? = some p := ⟨_, List.getElem?_eq_getElem (by rw [HL.out.1]; exact hlt)⟩
        obtain ⟨b0, b1, b2, b3, b4, b5, b6, b7⟩ := f
        obtain ⟨q, qf⟩ := hc k x _ hx
        have hg : g < w.heap.size := World.block_lt_of_cell? w _ q
        have qF : w.rangeAt g (off + k * 9 + 1) [.bool b0, .bool b1, .bool b2, .bool b3, .bool b4, .bool b5, .bool b6, .bool b7] := fun j v hv => qf j v hv
        have hcl := Mur.clip_range (show (0 : Int) ≤ 1000 by decide) x
        clear hc
        refine wp_seq ?_
        refine Wk.reg ?_
        refine Wk.rPure 0 (some 52) (.bool true) rfl rfl (by kernel_rfl) (Wk.boolT (b := decide (((k : Nat) : Int) < ((n : Nat) : Int))) (decide_eq_true (by omega)) (by kernel_rfl)) ?_
        refine Wk.rEnd 1 rfl ?_
        refine Wk.nxt ?_
        refine wp_seq ?_
        refine wp_cond_true (by kernel_rfl) ?_
        refine wp_skip ?_
        refine Wk.nxt ?_
        refine wp_seq ?_
        refine wp_block ?_
        refine wp_seq ?_
        refine Wk.reg ?_
        refine Wk.rPure 0 (some 53) (.int .i64 ((k : Nat) : Int)) rfl rfl (by kernel_rfl) (by kernel_rfl) ?_
        refine Wk.rPure 1 (some 11) (.int .i64 ((k : Nat) : Int)) rfl rfl (by kernel_rfl) (by kernel_rfl) ?_
        refine Wk.rEnd 2 rfl ?_
        refine Wk.nxt ?_
        refine wp_seq ?_
        refine Wk.reg ?_
        refine Wk.rPure 0 (some 54) (.int .i64 (tick 1000 5 L k)) rfl rfl (by kernel_rfl) (by kernel_rfl) ?_
        refine Wk.rPure 1 (some 55) (.slice (some ⟨g, off, none⟩) n c) rfl rfl (by kernel_rfl) (by kernel_rfl) ?_
        refine Wk.rPure 2 (some 56) (.int .i64 ((k : Nat) : Int)) rfl rfl (by kernel_rfl) (by kernel_rfl) ?_
        refine Wk.rPure 3 (some 57) (.pointer (some ⟨g, off + k * 9, none⟩)) rfl rfl (by kernel_rfl) (Wk.index_sl 22 30 (.tmp 55) (.tmp 56) rfl Try.underlying22 9 (by kernel_rfl) g off n c k .i64 (by kernel_rfl) (by kernel_rfl) (by omega)) ?_
        refine Wk.rPure 4 (some 58) (.pointer (some ⟨g, off + k * 9, none⟩)) rfl rfl (by kernel_rfl) (by kernel_rfl) ?_
        refine Wk.rPure 5 (some 59) (.int .i64 x) rfl rfl (by kernel_rfl) (Wk.load1 3 (.tmp 58) rfl (by kernel_rfl) ⟨g, off + k * 9, none⟩ (by kernel_rfl) (.int .i64 x) (Wk.Chg.cell HB q trivial)) ?_
        refine Wk.rPure 6 (some 60) (.int .i64 (if (0 : Int) > x then (0 : Int) else x)) rfl rfl (by kernel_rfl) (by kernel_rfl) ?_
        refine Wk.rPure 7 (some 61) (.int .i64 (if (1000 : Int) < (if (0 : Int) > x then (0 : Int) else x) then (1000 : Int) else (if (0 : Int) > x then (0 : Int) else x))) rfl rfl (by kernel_rfl) (by kernel_rfl) ?_
        have hts := Mur.tick_succ hx (hi := 1000) (now := 5)
        refine Wk.rPure 8 (some 62) (.int .i64 (tick 1000 5 L (k + 1))) rfl rfl (by kernel_rfl) (Wk.int64 (n := tick 1000 5 L k + Mur.clip 1000 x) (z := tick 1000 5 L (k + 1)) hts.symm (by omega) (by omega) (by kernel_rfl)) ?_
        refine Wk.rPure 9 (some 10) (.int .i64 (tick 1000 5 L (k + 1))) rfl rfl (by kernel_rfl) (by kernel_rfl) ?_
        refine Wk.rEnd 10 rfl ?_
        refine Wk.nxt ?_
        refine wp_seq ?_
        refine Wk.reg ?_
        refine Wk.rPure 0 (some 63) (.slice A3 k c3) rfl rfl (by kernel_rfl) (by kernel_rfl) ?_
        refine Wk.rPure 1 (some 64) (.int .i64 (tick 1000 5 L (k + 1))) rfl rfl (by kernel_rfl) (by kernel_rfl) ?_
        refine Wk.rPure 2 (some 65) (.slice (some ⟨g, off, none⟩) n c) rfl rfl (by kernel_rfl) (by kernel_rfl) ?_
        refine Wk.rPure 3 (some 66) (.int .i64 ((k : Nat) : Int)) rfl rfl (by kernel_rfl) (by kernel_rfl) ?_
        refine Wk.rPure 4 (some 67) (.pointer (some ⟨g, off + k * 9, none⟩)) rfl rfl (by kernel_rfl) (Wk.index_sl 22 30 (.tmp 65) (.tmp 66) rfl Try.underlying22 9 (by kernel_rfl) g off n c k .i64 (by kernel_rfl) (by kernel_rfl) (by omega)) ?_
        refine Wk.rPure 5 (some 68) (.pointer (some ⟨g, off + k * 9 + 1, none⟩)) rfl rfl (by kernel_rfl) (by kernel_rfl) ?_
        refine Wk.rPure 6 (some 69) (.agg #[.bool b0, .bool b1, .bool b2, .bool b3, .bool b4, .bool b5, .bool b6, .bool b7]) rfl rfl (by kernel_rfl) (Wk.loadR 28 (.tmp 68) rfl _ Try.underlying28 rfl g (off + k * 9 + 1) (by kernel_rfl) ([.bool b0, .bool b1, .bool b2, .bool b3, .bool b4, .bool b5, .bool b6, .bool b7]) (by kernel_rfl) (Wk.Chg.range HB qF trivial)) ?_
        refine Wk.rPure 7 (some 70) (.agg #[.int .i64 (tick 1000 5 L (k + 1)), .bool b0, .bool b1, .bool b2, .bool b3, .bool b4, .bool b5, .bool b6, .bool b7]) rfl rfl (by kernel_rfl) (by kernel_rfl) ?_
        refine Wk.rEx 8 (some 71) _ rfl rfl (by kernel_rfl) (Wk.new_ex (.slice (some ⟨W3.heap.size, 0, none⟩) 1 1) #[.int .i64 (tick 1000 5 L (k + 1)), .bool b0, .bool b1, .bool b2, .bool b3, .bool b4, .bool b5, .bool b6, .bool b7] 32 (by kernel_rfl)) ?_
        rintro _ W4 ⟨rfl, hb2, ch3, sz2⟩
        have zz3 := ch3.size
        refine Wk.rEx 9 (some 72) _ rfl rfl (by kernel_rfl) (Wk.append_run (.tmp 63) (.tmp 71) 26 32 rfl Try.underlying26 (.agg #[.int .i64 0, .bool false, .bool false, .bool false, .bool false, .bool false, .bool false, .bool false, .bool false]) 9 16 (by kernel_rfl) rfl (by omega) (w.heap.size + 1) (.slice A3 k c3) k (tcells (toldTo 1000 5 L k)) (some ⟨W3.heap.size, 0, none⟩) 1 1 ([.int .i64 (tick 1000 5 L (k + 1)), .bool b0, .bool b1, .bool b2, .bool b3, .bool b4, .bool b5, .bool b6, .bool b7]) (by kernel_rfl) (by kernel_rfl) (Wk.own_chg HO ch3 (fun g e _ _ => trivial)) (Wk.sl_blk 1 9 hb2 rfl) (fun h => by cases h) (by intro v hv; simp at hv; rcases hv with hv | hv | hv | hv | hv | hv | hv | hv | hv <;> (subst hv; rfl)) (by omega) (by unfold maxLen; omega) (by omega)) ?_
        rintro vv1 W5 ⟨HO1, ch4, ha1⟩
        obtain ⟨AA1, nn1, rfl, hcc1, hmm2, hN1, HS1, hl1⟩ := Wk.own_sl HO1
        have lt1 := World.ownsRow.lt HO1
        have zz4 := ch4.size
        refine Wk.rPure 10 (some 9) (.slice AA1 (k + 1) nn1) rfl rfl (by kernel_rfl) (by kernel_rfl) ?_
        refine Wk.rEnd 11 rfl ?_
        refine Wk.nxt ?_
        refine wp_seq ?_
        refine Wk.reg ?_
        refine Wk.rPure 0 (some 73) (.int .i64 most) rfl rfl (by kernel_rfl) (by kernel_rfl) ?_
        refine Wk.rPure 1 (some 74) (.int .i64 budget) rfl rfl (by kernel_rfl) (by kernel_rfl) ?_
        refine Wk.rPure 2 (some 75) (.slice AA1 (k + 1) nn1) rfl rfl (by kernel_rfl) (by kernel_rfl) ?_
        refine Wk.rCall 3 (some 76) 9 [.tmp 73, .tmp 74, .tmp 75] #[3, 3, 26] [.int .i64 most, .int .i64 budget, .slice AA1 (k + 1) nn1] rfl rfl (by kernel_rfl) rfl (by kernel_rfl) (by kernel_rfl) ?_
        refine (Answers_any most budget (toldTo 1000 5 L (k + 1)) AA1 (k + 1) nn1 W5 (Mur.sl_tolds (by rw [Mur.toldTo_succ hx, Mur.tcells_append]; exact HS1) (Mur.toldTo_length _ _ _ _)) (by omega) ⟨by omega, by omega⟩ ⟨by omega, by omega⟩ (told_range (by omega))).mono ?_
        rintro _ W6 ⟨_, rfl, HO2, hB2⟩
        have ch5 := Wk.Chg.ofBelow hB2
        obtain ⟨AW, cW, rfl, _, _, _, _, _⟩ := Wk.own_sl HO2
        obtain ⟨gW, rfl, hsW⟩ := Wk.own_some HO2 (by omega)
        have hgW := (World.ownsRow.lt HO2) gW rfl
        have qW := Wk.Sl.cell hsW (outs_at (k := k) (l := toldTo 1000 5 L (k + 1)) (most := most) (budget := budget))
        obtain ⟨ro, hro⟩ : ∃ ro, Hid ((refTo most budget (toldTo 1000 5 L (k + 1)) (k + 1)).out = ro) := ⟨_, rfl⟩
        rw [hro.out] at qW
        have zz5 := ch5.size
        refine ⟨_, rfl, ?_⟩
        refine Wk.rPure 4 (some 12) (.slice (some ⟨gW, 0, none⟩) (k + 1) cW) rfl rfl (by kernel_rfl) (by kernel_rfl) ?_
        refine Wk.rEnd 5 rfl ?_
        refine Wk.nxt ?_
        refine wp_seq ?_
        refine Wk.dReg [w.heap.size] (by kernel_rfl) ?_
        intro W7 ch6 sz3
        have zz6 := ch6.size
        have sS1 : Wk.Chg [w.heap.size] W7 W7 := (Wk.Chg.refl _).more (by simp)
        refine Wk.dVal 0 (some 77) (.pointer (some ⟨w.heap.size, 0, none⟩)) rfl rfl (by kernel_rfl) (by kernel_rfl) (by kernel_rfl) (fun _ _ _ h => h) (by kernel_rfl) (fun w' hw' => by kernel_rfl) sS1 ?_
        refine Wk.dVal 1 (some 78) (.int .i64 (tick 1000 5 L (k + 1))) rfl rfl (by kernel_rfl) (by kernel_rfl) (by kernel_rfl) (fun _ _ _ h => h) (by kernel_rfl) (fun w' hw' => by kernel_rfl) sS1 ?_
        refine Wk.dVal 2 (some 79) (.slice (some ⟨g, off, none⟩) n c) rfl rfl (by kernel_rfl) (by kernel_rfl) (by kernel_rfl) (fun _ _ _ h => h) (by kernel_rfl) (fun w' hw' => by kernel_rfl) sS1 ?_
        refine Wk.dVal 3 (some 80) (.int .i64 ((k : Nat) : Int)) rfl rfl (by kernel_rfl) (by kernel_rfl) (by kernel_rfl) (fun _ _ _ h => h) (by kernel_rfl) (fun w' hw' => by kernel_rfl) sS1 ?_
        refine Wk.dVal 4 (some 81) (.pointer (some ⟨g, off + k * 9, none⟩)) rfl rfl (by kernel_rfl) (by kernel_rfl) (by kernel_rfl) (fun _ _ _ h => h) (by kernel_rfl) (fun w' hw' => (Wk.index_sl 22 30 (.tmp 79) (.tmp 80) rfl Try.underlying22 9 (by kernel_rfl) g off n c k .i64 (by kernel_rfl) (by kernel_rfl) (by omega))) sS1 ?_
        refine Wk.dVal 5 (some 82) (.pointer (some ⟨g, off + k * 9 + 1, none⟩)) rfl rfl (by kernel_rfl) (by kernel_rfl) (by kernel_rfl) (fun _ _ _ h => h) (by kernel_rfl) (fun w' hw' => by kernel_rfl) sS1 ?_
        have kk4 := Wk.Chg.step HB ch3 trivial
        have kk5 := Wk.Chg.step kk4 ch4 (Wk.newOr_blk (fun g hg => by have := LT g hg; omega))
        have kk6 := Wk.Chg.step kk5 ch5 trivial
        have kk7 := Wk.Chg.step kk6 ch6 trivial
        refine Wk.dVal 6 (some 83) (.agg #[.bool b0, .bool b1, .bool b2, .bool b3, .bool b4, .bool b5, .bool b6, .bool b7]) rfl rfl (by kernel_rfl) (by kernel_rfl) (by kernel_rfl) (fun _ _ _ h => h) (by kernel_rfl) (fun w' hw' => (Wk.loadR 28 (.tmp 82) rfl _ Try.underlying28 rfl g (off + k * 9 + 1) (by kernel_rfl) ([.bool b0, .bool b1, .bool b2, .bool b3, .bool b4, .bool b5, .bool b6, .bool b7]) (by kernel_rfl) (Wk.Chg.range hw' (Wk.Chg.range kk7 qF trivial) ⟨by omega, trivial⟩))) sS1 ?_
        refine Wk.dVal 8 (some 85) (.slice (some ⟨gW, 0, none⟩) (k + 1) cW) rfl rfl (by kernel_rfl) (by kernel_rfl) (by kernel_rfl) (fun _ _ _ h => h) (by kernel_rfl) (fun w' hw' => by kernel_rfl) sS1 ?_
        refine Wk.dVal 9 (some 86) (.int .i64 ((k : Nat) : Int)) rfl rfl (by kernel_rfl) (by kernel_rfl) (by kernel_rfl) (fun _ _ _ h => h) (by kernel_rfl) (fun w' hw' => by kernel_rfl) sS1 ?_
        refine Wk.dVal 10 (some 87) (.pointer (some ⟨gW, 0 + k * 1, none⟩)) rfl rfl (by kernel_rfl) (by kernel_rfl) (by kernel_rfl) (fun _ _ _ h => h) (by kernel_rfl) (fun w' hw' => (Wk.index_sl 33 35 (.tmp 85) (.tmp 86) rfl Try.underlying33 1 (by kernel_rfl) gW 0 (k + 1) cW k .i64 (by kernel_rfl) (by kernel_rfl) (by omega))) sS1 ?_
        refine Wk.dVal 11 (some 88) (.int .u8 ro) rfl rfl (by kernel_rfl) (by kernel_rfl) (by kernel_rfl) (fun _ _ _ h => h) (by kernel_rfl) (fun w' hw' => (Wk.load1 35 (.tmp 87) rfl (by kernel_rfl) ⟨gW, 0 + k * 1, none⟩ (by kernel_rfl) (.int .u8 ro) (Wk.Chg.cell hw' (Wk.Chg.cell ch6 qW trivial) ⟨by omega, trivial⟩))) sS1 ?_
        refine Wk.dOp 7 (by kernel_rfl) ?_
        refine Wk.oCall (some 84) 10 [.tmp 77, .tmp 78, .tmp 83] #[23, 3, 28] [.pointer (some ⟨w.heap.size, 0, none⟩), .int .i64 (tick 1000 5 L (k + 1)), .agg #[.bool b0, .bool b1, .bool b2, .bool b3, .bool b4, .bool b5, .bool b6, .bool b7]] rfl rfl (by kernel_rfl) rfl (by kernel_rfl) (by kernel_rfl) ?_
        obtain ⟨han, hcase⟩ := Mur.ans_told 1000 5 most budget L k hx
        rw [hro.out] at han hcase
        refine (Step_told 1000 5 most budget L k hx w.heap.size W7 (Wk.Chg.hp ch6 (Wk.Chg.hp ch5 (Wk.Chg.hp ch4 (Wk.Chg.hp ch3 hG trivial) (Wk.off_blk (fun g hg => by have := LT g hg; omega))) trivial) trivial) (by decide) (by decide) ⟨by omega, by omega⟩ ⟨by omega, by omega⟩ (by omega)).mono ?_
        rw [han]
        rintro _ W8 ⟨rfl, hb3, ch7⟩
        have zz7 := ch7.size
        have sS2 := Wk.Chg.step sS1 ch7 ⟨.inl (by simp), trivial⟩
        refine ⟨_, rfl, sS2, ?_⟩
        refine Wk.dVal 12 (some 89) (.bool false) rfl rfl (by kernel_rfl) (by kernel_rfl) (by kernel_rfl) (fun _ _ _ h => h) (by kernel_rfl) (fun w' hw' => (Wk.boolF (b := (ro != ro)) (bne_eq_false_iff_eq.2 (rfl)) (by kernel_rfl))) sS2 ?_
        refine Wk.dVal 13 (some 90) (.bool false) rfl rfl (by kernel_rfl) (by kernel_rfl) (by kernel_rfl) (fun _ _ _ h => h) (by kernel_rfl) (fun w' hw' => by kernel_rfl) sS2 ?_
        refine Wk.dVal 14 (some 91) (.pointer (some ⟨w.heap.size, 0, none⟩)) rfl rfl (by kernel_rfl) (by kernel_rfl) (by kernel_rfl) (fun _ _ _ h => h) (by kernel_rfl) (fun w' hw' => by kernel_rfl) sS2 ?_
        refine Wk.dVal 16 (some 93) (.slice (some ⟨gW, 0, none⟩) (k + 1) cW) rfl rfl (by kernel_rfl) (by kernel_rfl) (by kernel_rfl) (fun _ _ _ h => h) (by kernel_rfl) (fun w' hw' => by kernel_rfl) sS2 ?_
        refine Wk.dVal 17 (some 94) (.int .i64 ((k : Nat) : Int)) rfl rfl (by kernel_rfl) (by kernel_rfl) (by kernel_rfl) (fun _ _ _ h => h) (by kernel_rfl) (fun w' hw' => by kernel_rfl) sS2 ?_
        refine Wk.dVal 18 (some 95) (.pointer (some ⟨gW, 0 + k * 1, none⟩)) rfl rfl (by kernel_rfl) (by kernel_rfl) (by kernel_rfl) (fun _ _ _ h => h) (by kernel_rfl) (fun w' hw' => (Wk.index_sl 33 35 (.tmp 93) (.tmp 94) rfl Try.underlying33 1 (by kernel_rfl) gW 0 (k + 1) cW k .i64 (by kernel_rfl) (by kernel_rfl) (by omega))) sS2 ?_
        refine Wk.dVal 19 (some 96) (.int .u8 ro) rfl rfl (by kernel_rfl) (by kernel_rfl) (by kernel_rfl) (fun _ _ _ h => h) (by kernel_rfl) (fun w' hw' => (Wk.load1 35 (.tmp 95) rfl (by kernel_rfl) ⟨gW, 0 + k * 1, none⟩ (by kernel_rfl) (.int .u8 ro) (Wk.Chg.cell hw' (Wk.Chg.cell ch6 qW trivial) ⟨by omega, trivial⟩))) sS2 ?_
        by_cases hx2 : ro = (4 : Int)
        · refine Wk.dVal 20 (some 97) (.bool true) rfl rfl (by kernel_rfl) (by kernel_rfl) (by kernel_rfl) (fun _ _ _ h => h) (by kernel_rfl) (fun w' hw' => (Wk.boolT (b := (ro == (4 : Int))) (beq_iff_eq.2 (by first | exact hx2 | omega)) (by kernel_rfl))) sS2 ?_
          refine Wk.dOp 15 (by kernel_rfl) ?_
          refine Wk.oCall (some 92) 11 [.tmp 91] #[23] [.pointer (some ⟨w.heap.size, 0, none⟩)] rfl rfl (by kernel_rfl) rfl (by kernel_rfl) (by kernel_rfl) ?_
          rcases hcase with ⟨hc4, hc5 | hc5⟩ | ⟨hc4, hc5, hc6⟩
          · refine (Over_any _ w.heap.size _ hb3).mono ?_
            rintro _ _ ⟨rfl, rfl⟩
            rw [show ((trnTo 1000 5 most budget L (k + 1)).state == 4) = true from by simp [hc4]]
            refine ⟨_, rfl, sS2, ?_⟩
            refine Wk.dVal 21 (some 98) (.bool true) rfl rfl (by kernel_rfl) (by kernel_rfl) (by kernel_rfl) (fun _ _ _ h => h) (by kernel_rfl) (fun w' hw' => by kernel_rfl) sS2 ?_
            refine Wk.dPass 22 (some 99) rfl rfl (by kernel_rfl) (by kernel_rfl) (by kernel_rfl) (fun _ _ _ h => h) (by kernel_rfl) sS2 ?_
            refine Wk.dPass 23 (some 100) rfl rfl (by kernel_rfl) (by kernel_rfl) (by kernel_rfl) (fun _ _ _ h => h) (by kernel_rfl) sS2 ?_
            refine Wk.dPass 24 (some 101) rfl rfl (by kernel_rfl) (by kernel_rfl) (by kernel_rfl) (fun _ _ _ h => h) (by kernel_rfl) sS2 ?_
            refine Wk.dPass 25 (some 102) rfl rfl (by kernel_rfl) (by kernel_rfl) (by kernel_rfl) (fun _ _ _ h => h) (by kernel_rfl) sS2 ?_
            refine Wk.dPass 26 (some 103) rfl rfl (by kernel_rfl) (by kernel_rfl) (by kernel_rfl) (fun _ _ _ h => h) (by kernel_rfl) sS2 ?_
            refine Wk.dVal 27 (some 104) (.bool true) rfl rfl (by kernel_rfl) (by kernel_rfl) (by kernel_rfl) (fun _ _ _ h => h) (by kernel_rfl) (fun w' hw' => by kernel_rfl) sS2 ?_
            refine Wk.dVal 28 (some 105) (.bool false) rfl rfl (by kernel_rfl) (by kernel_rfl) (by kernel_rfl) (fun _ _ _ h => h) (by kernel_rfl) (fun w' hw' => by kernel_rfl) sS2 ?_
            refine Wk.dVal 29 (some 106) (.bool false) rfl rfl (by kernel_rfl) (by kernel_rfl) (by kernel_rfl) (fun _ _ _ h => h) (by kernel_rfl) (fun w' hw' => by kernel_rfl) sS2 ?_
            refine Wk.dEnd (by kernel_rfl) ?_
            refine Wk.nxt ?_
            refine wp_cond_false (by kernel_rfl) ?_
            refine wp_skip ?_
            refine Wk.inN ?_
            refine Wk.nxt ?_
            refine Wk.reg ?_
            refine Wk.rPure 0 (some 107) (.int .i64 ((k + 1 : Nat) : Int)) rfl rfl (by kernel_rfl) (Wk.int64 (n := ((k : Nat) : Int) + 1) (z := ((k + 1 : Nat) : Int)) (by omega) (by omega) (by omega) (by kernel_rfl)) ?_
            refine Wk.rPure 1 (some 51) (.int .i64 ((k + 1 : Nat) : Int)) rfl rfl (by kernel_rfl) (by kernel_rfl) ?_
            refine Wk.rEnd 2 rfl ?_
            refine Wk.nxt ?_
            have kk8 := Wk.Chg.step kk7 ch7 ⟨.inr (by omega), trivial⟩
            refine ⟨_, ?_, k + 1, AA1, nn1, rfl, by kernel_rfl, (by omega), hb3, (by rw [Mur.toldTo_succ hx, Mur.tcells_append]; exact (Wk.own_chg (Wk.own_chg (Wk.own_chg HO1 ch5 (fun g e _ _ => trivial)) ch6 (fun g e _ _ => trivial)) ch7 (fun g e _ _ => ⟨by have := lt1 g e; omega, trivial⟩))), kk8⟩
            · omega
          · refine (Over_any _ w.heap.size _ hb3).mono ?_
            rintro _ _ ⟨rfl, rfl⟩
            rw [show ((trnTo 1000 5 most budget L (k + 1)).state == 4) = true from by simp [hc4]]
            refine ⟨_, rfl, sS2, ?_⟩
            refine Wk.dVal 21 (some 98) (.bool true) rfl rfl (by kernel_rfl) (by kernel_rfl) (by kernel_rfl) (fun _ _ _ h => h) (by kernel_rfl) (fun w' hw' => by kernel_rfl) sS2 ?_
            refine Wk.dPass 22 (some 99) rfl rfl (by kernel_rfl) (by kernel_rfl) (by kernel_rfl) (fun _ _ _ h => h) (by kernel_rfl) sS2 ?_
            refine Wk.dPass 23 (some 100) rfl rfl (by kernel_rfl) (by kernel_rfl) (by kernel_rfl) (fun _ _ _ h => h) (by kernel_rfl) sS2 ?_
            refine Wk.dPass 24 (some 101) rfl rfl (by kernel_rfl) (by kernel_rfl) (by kernel_rfl) (fun _ _ _ h => h) (by kernel_rfl) sS2 ?_
            refine Wk.dPass 25 (some 102) rfl rfl (by kernel_rfl) (by kernel_rfl) (by kernel_rfl) (fun _ _ _ h => h) (by kernel_rfl) sS2 ?_
            refine Wk.dPass 26 (some 103) rfl rfl (by kernel_rfl) (by kernel_rfl) (by kernel_rfl) (fun _ _ _ h => h) (by kernel_rfl) sS2 ?_
            refine Wk.dVal 27 (some 104) (.bool true) rfl rfl (by kernel_rfl) (by kernel_rfl) (by kernel_rfl) (fun _ _ _ h => h) (by kernel_rfl) (fun w' hw' => by kernel_rfl) sS2 ?_
            refine Wk.dVal 28 (some 105) (.bool false) rfl rfl (by kernel_rfl) (by kernel_rfl) (by kernel_rfl) (fun _ _ _ h => h) (by kernel_rfl) (fun w' hw' => by kernel_rfl) sS2 ?_
            refine Wk.dVal 29 (some 106) (.bool false) rfl rfl (by kernel_rfl) (by kernel_rfl) (by kernel_rfl) (fun _ _ _ h => h) (by kernel_rfl) (fun w' hw' => by kernel_rfl) sS2 ?_
            refine Wk.dEnd (by kernel_rfl) ?_
            refine Wk.nxt ?_
            refine wp_cond_false (by kernel_rfl) ?_
            refine wp_skip ?_
            refine Wk.inN ?_
            refine Wk.nxt ?_
            refine Wk.reg ?_
            refine Wk.rPure 0 (some 107) (.int .i64 ((k + 1 : Nat) : Int)) rfl rfl (by kernel_rfl) (Wk.int64 (n := ((k : Nat) : Int) + 1) (z := ((k + 1 : Nat) : Int)) (by omega) (by omega) (by omega) (by kernel_rfl)) ?_
            refine Wk.rPure 1 (some 51) (.int .i64 ((k + 1 : Nat) : Int)) rfl rfl (by kernel_rfl) (by kernel_rfl) ?_
            refine Wk.rEnd 2 rfl ?_
            refine Wk.nxt ?_
            have kk9 := Wk.Chg.step kk7 ch7 ⟨.inr (by omega), trivial⟩
            refine ⟨_, ?_, k + 1, AA1, nn1, rfl, by kernel_rfl, (by omega), hb3, (by rw [Mur.toldTo_succ hx, Mur.tcells_append]; exact (Wk.own_chg (Wk.own_chg (Wk.own_chg HO1 ch5 (fun g e _ _ => trivial)) ch6 (fun g e _ _ => trivial)) ch7 (fun g e _ _ => ⟨by have := lt1 g e; omega, trivial⟩))), kk9⟩
            · omega
          · refine (Over_any _ w.heap.size _ hb3).mono ?_
            rintro _ _ ⟨rfl, rfl⟩
            rw [show ((trnTo 1000 5 most budget L (k + 1)).state == 4) = false from by simp [hc4]]
            refine ⟨_, rfl, sS2, ?_⟩
            refine Wk.dVal 21 (some 98) (.bool true) rfl rfl (by kernel_rfl) (by kernel_rfl) (by kernel_rfl) (fun _ _ _ h => h) (by kernel_rfl) (fun w' hw' => by kernel_rfl) sS2 ?_
            refine Wk.dPass 22 (some 99) rfl rfl (by kernel_rfl) (by kernel_rfl) (by kernel_rfl) (fun _ _ _ h => h) (by kernel_rfl) sS2 ?_
            refine Wk.dPass 23 (some 100) rfl rfl (by kernel_rfl) (by kernel_rfl) (by kernel_rfl) (fun _ _ _ h => h) (by kernel_rfl) sS2 ?_
            refine Wk.dPass 24 (some 101) rfl rfl (by kernel_rfl) (by kernel_rfl) (by kernel_rfl) (fun _ _ _ h => h) (by kernel_rfl) sS2 ?_
            refine Wk.dPass 25 (some 102) rfl rfl (by kernel_rfl) (by kernel_rfl) (by kernel_rfl) (fun _ _ _ h => h) (by kernel_rfl) sS2 ?_
            refine Wk.dPass 26 (some 103) rfl rfl (by kernel_rfl) (by kernel_rfl) (by kernel_rfl) (fun _ _ _ h => h) (by kernel_rfl) sS2 ?_
            refine Wk.dVal 27 (some 104) (.bool true) rfl rfl (by kernel_rfl) (by kernel_rfl) (by kernel_rfl) (fun _ _ _ h => h) (by kernel_rfl) (fun w' hw' => by kernel_rfl) sS2 ?_
            refine Wk.dVal 28 (some 105) (.bool true) rfl rfl (by kernel_rfl) (by kernel_rfl) (by kernel_rfl) (fun _ _ _ h => h) (by kernel_rfl) (fun w' hw' => by kernel_rfl) sS2 ?_
            refine Wk.dVal 29 (some 106) (.bool true) rfl rfl (by kernel_rfl) (by kernel_rfl) (by kernel_rfl) (fun _ _ _ h => h) (by kernel_rfl) (fun w' hw' => by kernel_rfl) sS2 ?_
            refine Wk.dEnd (by kernel_rfl) ?_
            refine Wk.nxt ?_
            refine wp_cond_true (by kernel_rfl) ?_
            refine wp_seq ?_
            refine Wk.reg ?_
            refine Wk.rPure 0 (some 6) (.bool false) rfl rfl (by kernel_rfl) (by kernel_rfl) ?_
            refine Wk.rEnd 1 rfl ?_
            refine Wk.nxt ?_
            refine wp_ret ?_
            refine Wk.inR ?_
            refine Wk.thR ?_
            refine Wk.thR ?_
            refine Wk.inR ?_
            refine Wk.thR ?_
            exfalso; omega
        · refine Wk.dVal 20 (some 97) (.bool false) rfl rfl (by kernel_rfl) (by kernel_rfl) (by kernel_rfl) (fun _ _ _ h => h) (by kernel_rfl) (fun w' hw' => (Wk.boolF (b := (ro == (4 : Int))) (beq_eq_false_iff_ne.2 (by first | exact hx2 | omega)) (by kernel_rfl))) sS2 ?_
          refine Wk.dOp 15 (by kernel_rfl) ?_
          refine Wk.oCall (some 92) 11 [.tmp 91] #[23] [.pointer (some ⟨w.heap.size, 0, none⟩)] rfl rfl (by kernel_rfl) rfl (by kernel_rfl) (by kernel_rfl) ?_
          rcases hcase with ⟨hc4, hc5 | hc5⟩ | ⟨hc4, hc5, hc6⟩
          · refine (Over_any _ w.heap.size _ hb3).mono ?_
            rintro _ _ ⟨rfl, rfl⟩
            rw [show ((trnTo 1000 5 most budget L (k + 1)).state == 4) = true from by simp [hc4]]
            refine ⟨_, rfl, sS2, ?_⟩
            refine Wk.dVal 21 (some 98) (.bool false) rfl rfl (by kernel_rfl) (by kernel_rfl) (by kernel_rfl) (fun _ _ _ h => h) (by kernel_rfl) (fun w' hw' => by kernel_rfl) sS2 ?_
            refine Wk.dVal 22 (some 99) (.slice (some ⟨gW, 0, none⟩) (k + 1) cW) rfl rfl (by kernel_rfl) (by kernel_rfl) (by kernel_rfl) (fun _ _ _ h => h) (by kernel_rfl) (fun w' hw' => by kernel_rfl) sS2 ?_
            refine Wk.dVal 23 (some 100) (.int .i64 ((k : Nat) : Int)) rfl rfl (by kernel_rfl) (by kernel_rfl) (by kernel_rfl) (fun _ _ _ h => h) (by kernel_rfl) (fun w' hw' => by kernel_rfl) sS2 ?_
            refine Wk.dVal 24 (some 101) (.pointer (some ⟨gW, 0 + k * 1, none⟩)) rfl rfl (by kernel_rfl) (by kernel_rfl) (by kernel_rfl) (fun _ _ _ h => h) (by kernel_rfl) (fun w' hw' => (Wk.index_sl 33 35 (.tmp 99) (.tmp 100) rfl Try.underlying33 1 (by kernel_rfl) gW 0 (k + 1) cW k .i64 (by kernel_rfl) (by kernel_rfl) (by omega))) sS2 ?_
            refine Wk.dVal 25 (some 102) (.int .u8 ro) rfl rfl (by kernel_rfl) (by kernel_rfl) (by kernel_rfl) (fun _ _ _ h => h) (by kernel_rfl) (fun w' hw' => (Wk.load1 35 (.tmp 101) rfl (by kernel_rfl) ⟨gW, 0 + k * 1, none⟩ (by kernel_rfl) (.int .u8 ro) (Wk.Chg.cell hw' (Wk.Chg.cell ch6 qW trivial) ⟨by omega, trivial⟩))) sS2 ?_
            by_cases hx3 : ro = (5 : Int)
            · refine Wk.dVal 26 (some 103) (.bool true) rfl rfl (by kernel_rfl) (by kernel_rfl) (by kernel_rfl) (fun _ _ _ h => h) (by kernel_rfl) (fun w' hw' => (Wk.boolT (b := (ro == (5 : Int))) (beq_iff_eq.2 (by first | exact hx3 | omega)) (by kernel_rfl))) sS2 ?_
              refine Wk.dVal 27 (some 104) (.bool true) rfl rfl (by kernel_rfl) (by kernel_rfl) (by kernel_rfl) (fun _ _ _ h => h) (by kernel_rfl) (fun w' hw' => by kernel_rfl) sS2 ?_
              refine Wk.dVal 28 (some 105) (.bool false) rfl rfl (by kernel_rfl) (by kernel_rfl) (by kernel_rfl) (fun _ _ _ h => h) (by kernel_rfl) (fun w' hw' => by kernel_rfl) sS2 ?_
              refine Wk.dVal 29 (some 106) (.bool false) rfl rfl (by kernel_rfl) (by kernel_rfl) (by kernel_rfl) (fun _ _ _ h => h) (by kernel_rfl) (fun w' hw' => by kernel_rfl) sS2 ?_
              refine Wk.dEnd (by kernel_rfl) ?_
              refine Wk.nxt ?_
              refine wp_cond_false (by kernel_rfl) ?_
              refine wp_skip ?_
              refine Wk.inN ?_
              refine Wk.nxt ?_
              refine Wk.reg ?_
              refine Wk.rPure 0 (some 107) (.int .i64 ((k + 1 : Nat) : Int)) rfl rfl (by kernel_rfl) (Wk.int64 (n := ((k : Nat) : Int) + 1) (z := ((k + 1 : Nat) : Int)) (by omega) (by omega) (by omega) (by kernel_rfl)) ?_
              refine Wk.rPure 1 (some 51) (.int .i64 ((k + 1 : Nat) : Int)) rfl rfl (by kernel_rfl) (by kernel_rfl) ?_
              refine Wk.rEnd 2 rfl ?_
              refine Wk.nxt ?_
              have kk10 := Wk.Chg.step kk7 ch7 ⟨.inr (by omega), trivial⟩
              refine ⟨_, ?_, k + 1, AA1, nn1, rfl, by kernel_rfl, (by omega), hb3, (by rw [Mur.toldTo_succ hx, Mur.tcells_append]; exact (Wk.own_chg (Wk.own_chg (Wk.own_chg HO1 ch5 (fun g e _ _ => trivial)) ch6 (fun g e _ _ => trivial)) ch7 (fun g e _ _ => ⟨by have := lt1 g e; omega, trivial⟩))), kk10⟩
              · omega
            · refine Wk.dVal 26 (some 103) (.bool false) rfl rfl (by kernel_rfl) (by kernel_rfl) (by kernel_rfl) (fun _ _ _ h => h) (by kernel_rfl) (fun w' hw' => (Wk.boolF (b := (ro == (5 : Int))) (beq_eq_false_iff_ne.2 (by first | exact hx3 | omega)) (by kernel_rfl))) sS2 ?_
              refine Wk.dVal 27 (some 104) (.bool false) rfl rfl (by kernel_rfl) (by kernel_rfl) (by kernel_rfl) (fun _ _ _ h => h) (by kernel_rfl) (fun w' hw' => by kernel_rfl) sS2 ?_
              refine Wk.dVal 28 (some 105) (.bool true) rfl rfl (by kernel_rfl) (by kernel_rfl) (by kernel_rfl) (fun _ _ _ h => h) (by kernel_rfl) (fun w' hw' => by kernel_rfl) sS2 ?_
              refine Wk.dVal 29 (some 106) (.bool true) rfl rfl (by kernel_rfl) (by kernel_rfl) (by kernel_rfl) (fun _ _ _ h => h) (by kernel_rfl) (fun w' hw' => by kernel_rfl) sS2 ?_
              refine Wk.dEnd (by kernel_rfl) ?_
              refine Wk.nxt ?_
              refine wp_cond_true (by kernel_rfl) ?_
              refine wp_seq ?_
              refine Wk.reg ?_
              refine Wk.rPure 0 (some 6) (.bool false) rfl rfl (by kernel_rfl) (by kernel_rfl) ?_
              refine Wk.rEnd 1 rfl ?_
              refine Wk.nxt ?_
              refine wp_ret ?_
              refine Wk.inR ?_
              refine Wk.thR ?_
              refine Wk.thR ?_
              refine Wk.inR ?_
              refine Wk.thR ?_
              exfalso; omega
          · refine (Over_any _ w.heap.size _ hb3).mono ?_
            rintro _ _ ⟨rfl, rfl⟩
            rw [show ((trnTo 1000 5 most budget L (k + 1)).state == 4) = true from by simp [hc4]]
            refine ⟨_, rfl, sS2, ?_⟩
            refine Wk.dVal 21 (some 98) (.bool false) rfl rfl (by kernel_rfl) (by kernel_rfl) (by kernel_rfl) (fun _ _ _ h => h) (by kernel_rfl) (fun w' hw' => by kernel_rfl) sS2 ?_
            refine Wk.dVal 22 (some 99) (.slice (some ⟨gW, 0, none⟩) (k + 1) cW) rfl rfl (by kernel_rfl) (by kernel_rfl) (by kernel_rfl) (fun _ _ _ h => h) (by kernel_rfl) (fun w' hw' => by kernel_rfl) sS2 ?_
            refine Wk.dVal 23 (some 100) (.int .i64 ((k : Nat) : Int)) rfl rfl (by kernel_rfl) (by kernel_rfl) (by kernel_rfl) (fun _ _ _ h => h) (by kernel_rfl) (fun w' hw' => by kernel_rfl) sS2 ?_
            refine Wk.dVal 24 (some 101) (.pointer (some ⟨gW, 0 + k * 1, none⟩)) rfl rfl (by kernel_rfl) (by kernel_rfl) (by kernel_rfl) (fun _ _ _ h => h) (by kernel_rfl) (fun w' hw' => (Wk.index_sl 33 35 (.tmp 99) (.tmp 100) rfl Try.underlying33 1 (by kernel_rfl) gW 0 (k + 1) cW k .i64 (by kernel_rfl) (by kernel_rfl) (by omega))) sS2 ?_
            refine Wk.dVal 25 (some 102) (.int .u8 ro) rfl rfl (by kernel_rfl) (by kernel_rfl) (by kernel_rfl) (fun _ _ _ h => h) (by kernel_rfl) (fun w' hw' => (Wk.load1 35 (.tmp 101) rfl (by kernel_rfl) ⟨gW, 0 + k * 1, none⟩ (by kernel_rfl) (.int .u8 ro) (Wk.Chg.cell hw' (Wk.Chg.cell ch6 qW trivial) ⟨by omega, trivial⟩))) sS2 ?_
            refine Wk.dVal 26 (some 103) (.bool true) rfl rfl (by kernel_rfl) (by kernel_rfl) (by kernel_rfl) (fun _ _ _ h => h) (by kernel_rfl) (fun w' hw' => (Wk.boolT (b := (ro == (5 : Int))) (beq_iff_eq.2 (hc5)) (by kernel_rfl))) sS2 ?_
            refine Wk.dVal 27 (some 104) (.bool true) rfl rfl (by kernel_rfl) (by kernel_rfl) (by kernel_rfl) (fun _ _ _ h => h) (by kernel_rfl) (fun w' hw' => by kernel_rfl) sS2 ?_
            refine Wk.dVal 28 (some 105) (.bool false) rfl rfl (by kernel_rfl) (by kernel_rfl) (by kernel_rfl) (fun _ _ _ h => h) (by kernel_rfl) (fun w' hw' => by kernel_rfl) sS2 ?_
            refine Wk.dVal 29 (some 106) (.bool false) rfl rfl (by kernel_rfl) (by kernel_rfl) (by kernel_rfl) (fun _ _ _ h => h) (by kernel_rfl) (fun w' hw' => by kernel_rfl) sS2 ?_
            refine Wk.dEnd (by kernel_rfl) ?_
            refine Wk.nxt ?_
            refine wp_cond_false (by kernel_rfl) ?_
            refine wp_skip ?_
            refine Wk.inN ?_
            refine Wk.nxt ?_
            refine Wk.reg ?_
            refine Wk.rPure 0 (some 107) (.int .i64 ((k + 1 : Nat) : Int)) rfl rfl (by kernel_rfl) (Wk.int64 (n := ((k : Nat) : Int) + 1) (z := ((k + 1 : Nat) : Int)) (by omega) (by omega) (by omega) (by kernel_rfl)) ?_
            refine Wk.rPure 1 (some 51) (.int .i64 ((k + 1 : Nat) : Int)) rfl rfl (by kernel_rfl) (by kernel_rfl) ?_
            refine Wk.rEnd 2 rfl ?_
            refine Wk.nxt ?_
            have kk11 := Wk.Chg.step kk7 ch7 ⟨.inr (by omega), trivial⟩
            refine ⟨_, ?_, k + 1, AA1, nn1, rfl, by kernel_rfl, (by omega), hb3, (by rw [Mur.toldTo_succ hx, Mur.tcells_append]; exact (Wk.own_chg (Wk.own_chg (Wk.own_chg HO1 ch5 (fun g e _ _ => trivial)) ch6 (fun g e _ _ => trivial)) ch7 (fun g e _ _ => ⟨by have := lt1 g e; omega, trivial⟩))), kk11⟩
            · omega
          · refine (Over_any _ w.heap.size _ hb3).mono ?_
            rintro _ _ ⟨rfl, rfl⟩
            rw [show ((trnTo 1000 5 most budget L (k + 1)).state == 4) = false from by simp [hc4]]
            refine ⟨_, rfl, sS2, ?_⟩
            refine Wk.dVal 21 (some 98) (.bool false) rfl rfl (by kernel_rfl) (by kernel_rfl) (by kernel_rfl) (fun _ _ _ h => h) (by kernel_rfl) (fun w' hw' => by kernel_rfl) sS2 ?_
            refine Wk.dVal 22 (some 99) (.slice (some ⟨gW, 0, none⟩) (k + 1) cW) rfl rfl (by kernel_rfl) (by kernel_rfl) (by kernel_rfl) (fun _ _ _ h => h) (by kernel_rfl) (fun w' hw' => by kernel_rfl) sS2 ?_
            refine Wk.dVal 23 (some 100) (.int .i64 ((k : Nat) : Int)) rfl rfl (by kernel_rfl) (by kernel_rfl) (by kernel_rfl) (fun _ _ _ h => h) (by kernel_rfl) (fun w' hw' => by kernel_rfl) sS2 ?_
            refine Wk.dVal 24 (some 101) (.pointer (some ⟨gW, 0 + k * 1, none⟩)) rfl rfl (by kernel_rfl) (by kernel_rfl) (by kernel_rfl) (fun _ _ _ h => h) (by kernel_rfl) (fun w' hw' => (Wk.index_sl 33 35 (.tmp 99) (.tmp 100) rfl Try.underlying33 1 (by kernel_rfl) gW 0 (k + 1) cW k .i64 (by kernel_rfl) (by kernel_rfl) (by omega))) sS2 ?_
            refine Wk.dVal 25 (some 102) (.int .u8 ro) rfl rfl (by kernel_rfl) (by kernel_rfl) (by kernel_rfl) (fun _ _ _ h => h) (by kernel_rfl) (fun w' hw' => (Wk.load1 35 (.tmp 101) rfl (by kernel_rfl) ⟨gW, 0 + k * 1, none⟩ (by kernel_rfl) (.int .u8 ro) (Wk.Chg.cell hw' (Wk.Chg.cell ch6 qW trivial) ⟨by omega, trivial⟩))) sS2 ?_
            refine Wk.dVal 26 (some 103) (.bool false) rfl rfl (by kernel_rfl) (by kernel_rfl) (by kernel_rfl) (fun _ _ _ h => h) (by kernel_rfl) (fun w' hw' => (Wk.boolF (b := (ro == (5 : Int))) (beq_eq_false_iff_ne.2 (by omega)) (by kernel_rfl))) sS2 ?_
            refine Wk.dVal 27 (some 104) (.bool false) rfl rfl (by kernel_rfl) (by kernel_rfl) (by kernel_rfl) (fun _ _ _ h => h) (by kernel_rfl) (fun w' hw' => by kernel_rfl) sS2 ?_
            refine Wk.dVal 28 (some 105) (.bool false) rfl rfl (by kernel_rfl) (by kernel_rfl) (by kernel_rfl) (fun _ _ _ h => h) (by kernel_rfl) (fun w' hw' => by kernel_rfl) sS2 ?_
            refine Wk.dVal 29 (some 106) (.bool false) rfl rfl (by kernel_rfl) (by kernel_rfl) (by kernel_rfl) (fun _ _ _ h => h) (by kernel_rfl) (fun w' hw' => by kernel_rfl) sS2 ?_
            refine Wk.dEnd (by kernel_rfl) ?_
            refine Wk.nxt ?_
            refine wp_cond_false (by kernel_rfl) ?_
            refine wp_skip ?_
            refine Wk.inN ?_
            refine Wk.nxt ?_
            refine Wk.reg ?_
            refine Wk.rPure 0 (some 107) (.int .i64 ((k + 1 : Nat) : Int)) rfl rfl (by kernel_rfl) (Wk.int64 (n := ((k : Nat) : Int) + 1) (z := ((k + 1 : Nat) : Int)) (by omega) (by omega) (by omega) (by kernel_rfl)) ?_
            refine Wk.rPure 1 (some 51) (.int .i64 ((k + 1 : Nat) : Int)) rfl rfl (by kernel_rfl) (by kernel_rfl) ?_
            refine Wk.rEnd 2 rfl ?_
            refine Wk.nxt ?_
            have kk12 := Wk.Chg.step kk7 ch7 ⟨.inr (by omega), trivial⟩
            refine ⟨_, ?_, k + 1, AA1, nn1, rfl, by kernel_rfl, (by omega), hb3, (by rw [Mur.toldTo_succ hx, Mur.tcells_append]; exact (Wk.own_chg (Wk.own_chg (Wk.own_chg HO1 ch5 (fun g e _ _ => trivial)) ch6 (fun g e _ _ => trivial)) ch7 (fun g e _ _ => ⟨by have := lt1 g e; omega, trivial⟩))), kk12⟩
            · omega
      · refine wp_seq ?_
        refine Wk.reg ?_
        refine Wk.rPure 0 (some 52) (.bool false) rfl rfl (by kernel_rfl) (Wk.boolF (b := decide (((k : Nat) : Int) < ((n : Nat) : Int))) (decide_eq_false (by omega)) (by kernel_rfl)) ?_
        refine Wk.rEnd 1 rfl ?_
        refine Wk.nxt ?_
        refine wp_seq ?_
        refine wp_cond_false (by kernel_rfl) ?_
        refine wp_exit ?_
        refine Wk.thX ?_
        refine Wk.thX ?_
        refine Wk.inX ?_
        refine Wk.nxt ?_
        refine wp_seq ?_
        refine Wk.reg ?_
        refine Wk.rCall 0 (some 108) 8 [] #[] [] rfl rfl (by kernel_rfl) rfl (by kernel_rfl) (by kernel_rfl) ?_
        refine (known_any W3).mono ?_
        rintro _ W9 ⟨rfl, hB3⟩
        have ch8 := Wk.Chg.ofBelow hB3
        have zz8 := ch8.size
        refine ⟨_, rfl, ?_⟩
        refine Wk.rPure 1 (some 6) (.bool true) rfl rfl (by kernel_rfl) (by kernel_rfl) ?_
        refine Wk.rEnd 2 rfl ?_
        refine Wk.nxt ?_
        refine wp_ret ?_
        have kk13 := Wk.Chg.step HB ch8 trivial
        refine Wk.ret (.bool true) rfl (by kernel_rfl) ?_
        exact ⟨rfl, Wk.Chg.below0 kk13⟩
end Go.Proofs.Ytidhohnhhhooaaa
