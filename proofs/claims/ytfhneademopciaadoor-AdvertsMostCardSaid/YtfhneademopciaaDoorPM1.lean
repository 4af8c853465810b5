/- AdvertsMost, walked. -/
import Derived.Test.YtfhneademopciaaDoorPO11
namespace Go.Proofs.YtfhneademopciaaDoor
open Go.RowKit
open Mur (b8s Byt Own8 Seg Segs flat cutA attC Att SlA OwnA rowA)
set_option maxRecDepth 100000
set_option maxHeartbeats 4000000
def Mos20_F1 (b : Array Value) (u0 : Value) (u3 : Value) (u15 : Value) (u16 : Value) : Act := ⟨#[u0, b.getD 1 undef, b.getD 2 undef, u3, b.getD 4 undef, b.getD 5 undef, b.getD 6 undef, b.getD 7 undef, b.getD 8 undef, b.getD 9 undef, b.getD 10 undef, b.getD 11 undef, b.getD 12 undef, b.getD 13 undef, b.getD 14 undef, u15, u16, b.getD 17 undef, b.getD 18 undef, b.getD 19 undef, b.getD 20 undef, b.getD 21 undef, b.getD 22 undef, b.getD 23 undef, b.getD 24 undef, b.getD 25 undef, b.getD 26 undef, b.getD 27 undef, b.getD 28 undef, b.getD 29 undef, b.getD 30 undef, b.getD 31 undef, b.getD 32 undef, b.getD 33 undef, b.getD 34 undef, b.getD 35 undef, b.getD 36 undef, b.getD 37 undef, b.getD 38 undef, b.getD 39 undef, b.getD 40 undef, b.getD 41 undef, b.getD 42 undef, b.getD 43 undef, b.getD 44 undef, b.getD 45 undef, b.getD 46 undef, b.getD 47 undef, b.getD 48 undef, b.getD 49 undef, b.getD 50 undef, b.getD 51 undef, b.getD 52 undef, b.getD 53 undef, b.getD 54 undef, b.getD 55 undef, b.getD 56 undef, b.getD 57 undef, b.getD 58 undef, b.getD 59 undef, b.getD 60 undef, b.getD 61 undef, b.getD 62 undef, b.getD 63 undef, b.getD 64 undef, b.getD 65 undef, b.getD 66 undef, b.getD 67 undef, b.getD 68 undef, b.getD 69 undef, b.getD 70 undef, b.getD 71 undef, b.getD 72 undef, b.getD 73 undef, b.getD 74 undef, b.getD 75 undef, b.getD 76 undef, b.getD 77 undef, b.getD 78 undef, b.getD 79 undef, b.getD 80 undef, b.getD 81 undef, b.getD 82 undef], []⟩
def Mos20_F2 (b : Array Value) (u0 : Value) (u3 : Value) (u5 : Value) (u39 : Value) (u40 : Value) : Act := ⟨#[u0, b.getD 1 undef, b.getD 2 undef, u3, b.getD 4 undef, u5, b.getD 6 undef, b.getD 7 undef, b.getD 8 undef, b.getD 9 undef, b.getD 10 undef, b.getD 11 undef, b.getD 12 undef, b.getD 13 undef, b.getD 14 undef, b.getD 15 undef, b.getD 16 undef, b.getD 17 undef, b.getD 18 undef, b.getD 19 undef, b.getD 20 undef, b.getD 21 undef, b.getD 22 undef, b.getD 23 undef, b.getD 24 undef, b.getD 25 undef, b.getD 26 undef, b.getD 27 undef, b.getD 28 undef, b.getD 29 undef, b.getD 30 undef, b.getD 31 undef, b.getD 32 undef, b.getD 33 undef, b.getD 34 undef, b.getD 35 undef, b.getD 36 undef, b.getD 37 undef, b.getD 38 undef, u39, u40, b.getD 41 undef, b.getD 42 undef, b.getD 43 undef, b.getD 44 undef, b.getD 45 undef, b.getD 46 undef, b.getD 47 undef, b.getD 48 undef, b.getD 49 undef, b.getD 50 undef, b.getD 51 undef, b.getD 52 undef, b.getD 53 undef, b.getD 54 undef, b.getD 55 undef, b.getD 56 undef, b.getD 57 undef, b.getD 58 undef, b.getD 59 undef, b.getD 60 undef, b.getD 61 undef, b.getD 62 undef, b.getD 63 undef, b.getD 64 undef, b.getD 65 undef, b.getD 66 undef, b.getD 67 undef, b.getD 68 undef, b.getD 69 undef, b.getD 70 undef, b.getD 71 undef, b.getD 72 undef, b.getD 73 undef, b.getD 74 undef, b.getD 75 undef, b.getD 76 undef, b.getD 77 undef, b.getD 78 undef, b.getD 79 undef, b.getD 80 undef, b.getD 81 undef, b.getD 82 undef], []⟩
theorem most20_any (A : Option Addr) (n c : Nat) (L : List Att) (w : World) (hv : ShaVars w) (hl : SlA w A n L) (_hnc : n ≤ c ∧ c ≤ 9223372036854775807) : Calls Tryd.prog 6 #[.slice A n c] w fun e w' => e = .returned (.bool true) ∧ Below w.heap.size w w' := by
  have HV := Go.Lib.hid hv
  clear hv
  refine calls_of_wp Tryd.func6 rfl ?_
  refine wp_seq ?_
  refine Wk.reg ?_
  refine Wk.rPure 0 (some 2) (.bool false) rfl rfl (by kernel_rfl) (by kernel_rfl) ?_
  refine Wk.rEnd 1 rfl ?_
  refine Wk.nxt ?_
  refine wp_seq ?_
  refine wp_seq ?_
  refine Wk.reg ?_
  refine Wk.rPure 0 (some 7) (.slice A n c) rfl rfl (by kernel_rfl) (by kernel_rfl) ?_
  refine Wk.rPure 1 (some 8) (.int .i64 ((n : Nat) : Int)) rfl rfl (by kernel_rfl) (by kernel_rfl) ?_
  by_cases hx1 : ((n : Nat) : Int) > (300 : Int)
  · refine Wk.rPure 2 (some 9) (.bool true) rfl rfl (by kernel_rfl) (Wk.boolT (b := decide (((n : Nat) : Int) > (300 : Int))) (decide_eq_true (by first | exact hx1 | omega)) (by kernel_rfl)) ?_
    refine Wk.rEnd 3 rfl ?_
    refine Wk.nxt ?_
    refine wp_cond_true (by kernel_rfl) ?_
    refine wp_seq ?_
    refine Wk.reg ?_
    refine Wk.rCall 0 (some 10) 13 [] #[] [] rfl rfl (by kernel_rfl) rfl (by kernel_rfl) (by kernel_rfl) ?_
    refine (known20_any w HV.out).mono ?_
    rintro _ W1 ⟨rfl, ch1⟩
    have zz1 := ch1.size
    refine ⟨_, rfl, ?_⟩
    refine Wk.rPure 1 (some 2) (.bool true) rfl rfl (by kernel_rfl) (by kernel_rfl) ?_
    refine Wk.rEnd 2 rfl ?_
    refine Wk.nxt ?_
    refine wp_ret ?_
    refine Wk.thR ?_
    have kk1 : Wk.Chg [] w W1 := Wk.Chg.step ((Wk.Chg.refl _).more (by simp)) ch1 trivial
    refine Wk.ret (.bool true) rfl (by kernel_rfl) ?_
    exact ⟨rfl, Wk.Chg.below0 kk1⟩
  · refine Wk.rPure 2 (some 9) (.bool false) rfl rfl (by kernel_rfl) (Wk.boolF (b := decide (((n : Nat) : Int) > (300 : Int))) (decide_eq_false (by first | exact hx1 | omega)) (by kernel_rfl)) ?_
    refine Wk.rEnd 3 rfl ?_
    refine Wk.nxt ?_
    refine wp_cond_false (by kernel_rfl) ?_
    refine wp_skip ?_
    refine Wk.nxt ?_
    refine wp_seq ?_
    refine Wk.reg ?_
    refine Wk.rCall 0 (some 11) 14 [] #[] [] rfl rfl (by kernel_rfl) rfl (by kernel_rfl) (by kernel_rfl) ?_
    refine (New_any w).mono ?_
    rintro _ W2 ⟨FF1, rfl, hD1, ch2⟩
    have hM1 := Mur.SetF.mem hD1
    have zz2 := (hM1 _ (Mur.SetF.self hD1)).2
    have zz3 := ch2.size
    refine ⟨_, rfl, ?_⟩
    refine Wk.rPure 1 (some 3) (.pointer (some ⟨w.heap.size, 0, none⟩)) rfl rfl (by kernel_rfl) (by kernel_rfl) ?_
    refine Wk.rEnd 2 rfl ?_
    refine Wk.nxt ?_
    refine wp_seq ?_
    refine wp_seq ?_
    refine Wk.reg ?_
    refine Wk.rPure 0 (some 12) (.pointer (some ⟨w.heap.size, 0, none⟩)) rfl rfl (by kernel_rfl) (by kernel_rfl) ?_
    refine Wk.rPure 1 (some 13) (.bool false) rfl rfl (by kernel_rfl) (by kernel_rfl) ?_
    refine Wk.rEnd 2 rfl ?_
    refine Wk.nxt ?_
    refine wp_cond_false (by kernel_rfl) ?_
    refine wp_skip ?_
    refine Wk.nxt ?_
    refine wp_seq ?_
    refine wp_seq ?_
    refine Wk.reg ?_
    refine Wk.rPure 0 (some 14) (.slice A n c) rfl rfl (by kernel_rfl) (by kernel_rfl) ?_
    refine Wk.rPure 1 (some 15) (.int .i64 ((n : Nat) : Int)) rfl rfl (by kernel_rfl) (by kernel_rfl) ?_
    refine Wk.rPure 2 (some 16) (.int .i64 0) rfl rfl (by kernel_rfl) (by kernel_rfl) ?_
    refine Wk.rEnd 3 rfl ?_
    refine Wk.nxt ?_
    refine wp_block ?_
    refine Wk.loop (fun m_ a wr => ∃ (j : Nat) (L1 : List Att) (F1 : List Nat), m_ = n - j ∧ a = Mos20_F1 a.tmps (.slice A n c) (.pointer (some ⟨w.heap.size, 0, none⟩)) (.int .i64 ((n : Nat) : Int)) (.int .i64 ((j : Nat) : Int)) ∧ j ≤ n ∧ Mur.Canon (fun y_ => y_ ∈ L.take j) L1 ∧ Mur.SetF 32 57 w.heap.size wr w.heap.size L1 F1 ∧ Wk.Chg [] w wr) (n - 0) ?_ ?_
    · have kk2 : Wk.Chg [] w W2 := Wk.Chg.step ((Wk.Chg.refl _).more (by simp)) ch2 trivial
      refine ⟨0, [], FF1, rfl, by kernel_rfl, (by omega), (by simpa using Mur.Canon.nil), hD1, kk2⟩
    · rintro mm1 aa1 W3 ⟨j, L1, F1, hmm1, hF1, hj, hc1, hD1, HB⟩
      generalize aa1.tmps = bb1 at hF1
      subst hF1
      have hM1 := Mur.SetF.mem hD1
      have hg1_ := (hM1 _ (Mur.SetF.self hD1)).2
      have hzB := HB.size
      have hlL := hl.len
      by_cases hlt : j < n
      · obtain ⟨g_x, o_x, rfl, _⟩ := hl.ex (by omega)
        obtain ⟨x, hx⟩ : ∃ x, L[j]? = some x := ⟨_, List.getElem?_eq_getElem (by have := hl.len; omega)⟩
        refine wp_seq ?_
        refine Wk.reg ?_
        refine Wk.rPure 0 (some 17) (.bool true) rfl rfl (by kernel_rfl) (Wk.boolT (b := decide (((j : Nat) : Int) < ((n : Nat) : Int))) (decide_eq_true (by omega)) (by kernel_rfl)) ?_
        refine Wk.rEnd 1 rfl ?_
        refine Wk.nxt ?_
        refine wp_seq ?_
        refine wp_cond_true (by kernel_rfl) ?_
        refine wp_skip ?_
        refine Wk.nxt ?_
        refine wp_seq ?_
        refine wp_block ?_
        refine wp_seq ?_
        refine Wk.reg ?_
        refine Wk.rPure 0 (some 18) (.int .i64 ((j : Nat) : Int)) rfl rfl (by kernel_rfl) (by kernel_rfl) ?_
        refine Wk.rPure 1 (some 4) (.int .i64 ((j : Nat) : Int)) rfl rfl (by kernel_rfl) (by kernel_rfl) ?_
        refine Wk.rEnd 2 rfl ?_
        refine Wk.nxt ?_
        refine Wk.reg ?_
        refine Wk.rPure 0 (some 19) (.pointer (some ⟨w.heap.size, 0, none⟩)) rfl rfl (by kernel_rfl) (by kernel_rfl) ?_
        refine Wk.rPure 1 (some 20) (.slice (some ⟨g_x, o_x, none⟩) n c) rfl rfl (by kernel_rfl) (by kernel_rfl) ?_
        refine Wk.rPure 2 (some 21) (.int .i64 ((j : Nat) : Int)) rfl rfl (by kernel_rfl) (by kernel_rfl) ?_
        refine Wk.rPure 3 (some 22) (.pointer (some ⟨g_x, o_x + j * 97, none⟩)) rfl rfl (by kernel_rfl) (Wk.index_sl 22 32 (.tmp 20) (.tmp 21) rfl Tryd.underlying22 97 (by kernel_rfl) g_x o_x n c j .i64 (by kernel_rfl) (by kernel_rfl) (by omega)) ?_
        refine Wk.rPure 4 (some 23) (.agg ((Mur.attC x.k x.r x.n x.t).toArray)) rfl rfl (by kernel_rfl) (Wk.loadR 32 (.tmp 22) rfl _ Tryd.underlying32 rfl g_x (o_x + j * 97) (by kernel_rfl) (Mur.attC x.k x.r x.n x.t) (by rw [Mur.attC_length x.hk x.hr x.ht]; kernel_rfl) ((Mur.SlA.chg hl HB (fun g off e hl => trivial)).elem hx)) ?_
        refine Wk.rCall 5 (some 24) 15 [.tmp 19, .tmp 23] #[24, 32] [.pointer (some ⟨w.heap.size, 0, none⟩), .agg ((Mur.attC x.k x.r x.n x.t).toArray)] rfl rfl (by kernel_rfl) rfl (by kernel_rfl) (by kernel_rfl) ?_
        refine (Add_any w.heap.size L1 w.heap.size F1 x W3 hD1).mono ?_
        rintro _ W4 ⟨FF2, rfl, hD2, ch3, no1⟩
        have hM2 := Mur.SetF.mem hD2
        have zz4 := ch3.size
        refine ⟨_, rfl, ?_⟩
        refine Wk.rEnd 6 rfl ?_
        refine Wk.inN ?_
        refine Wk.nxt ?_
        refine Wk.reg ?_
        refine Wk.rPure 0 (some 25) (.int .i64 ((j + 1 : Nat) : Int)) rfl rfl (by kernel_rfl) (Wk.int64 (n := ((j : Nat) : Int) + 1) (z := ((j + 1 : Nat) : Int)) (by omega) (by omega) (by omega) (by kernel_rfl)) ?_
        refine Wk.rPure 1 (some 16) (.int .i64 ((j + 1 : Nat) : Int)) rfl rfl (by kernel_rfl) (by kernel_rfl) ?_
        refine Wk.rEnd 2 rfl ?_
        refine Wk.nxt ?_
        have kk3 := Wk.Chg.step HB ch3 (Mur.newOr_iff.2 (fun t ht => .inr (by have := hM1 t ht; omega)))
        refine ⟨_, ?_, j + 1, (Mur.addS x L1).1, FF2, rfl, by kernel_rfl, (by omega), ((hc1.add x).iff fun y_ => (Mur.mem_take_succ hx).symm), hD2, kk3⟩
        · omega
      · replace hc1 := hc1.iff (Y := fun y_ => y_ ∈ L) fun y_ => by rw [List.take_of_length_le (by omega)]
        refine wp_seq ?_
        refine Wk.reg ?_
        refine Wk.rPure 0 (some 17) (.bool false) rfl rfl (by kernel_rfl) (Wk.boolF (b := decide (((j : Nat) : Int) < ((n : Nat) : Int))) (decide_eq_false (by omega)) (by kernel_rfl)) ?_
        refine Wk.rEnd 1 rfl ?_
        refine Wk.nxt ?_
        refine wp_seq ?_
        refine wp_cond_false (by kernel_rfl) ?_
        refine wp_exit ?_
        refine Wk.thX ?_
        refine Wk.thX ?_
        refine Wk.inX ?_
        refine Wk.nxt ?_
        refine wp_seq ?_
        refine Wk.reg ?_
        refine Wk.rPure 0 (some 26) (.pointer (some ⟨w.heap.size, 0, none⟩)) rfl rfl (by kernel_rfl) (by kernel_rfl) ?_
        refine Wk.rCall 1 (some 27) 18 [.tmp 26, .const (.slice none 0 0)] #[24, 38] [.pointer (some ⟨w.heap.size, 0, none⟩), .slice none 0 0] rfl rfl (by kernel_rfl) rfl (by kernel_rfl) (by kernel_rfl) ?_
        refine (Below_any w.heap.size L1 w.heap.size F1 ([]) none 0 0 W3 hD1 (Byt.nil _ none) (by omega)).mono ?_
        rw [Mur.belowL_nil]
        rintro _ W5 ⟨AA1, nn1, nn2, rfl, ow1, ch4⟩
        have zz5 := ch4.size
        have hq1 := ow1.nc
        have hq2 := ow1.cm
        have hq3 := ow1.sl.len
        have hq4 : L1.length ≤ 200 := Nat.le_trans (Nat.le_refl _) (Mur.SetF.len hD1)
        refine ⟨_, rfl, ?_⟩
        refine Wk.rPure 2 (some 5) (.slice AA1 nn1 nn2) rfl rfl (by kernel_rfl) (by kernel_rfl) ?_
        refine Wk.rEnd 3 rfl ?_
        refine Wk.nxt ?_
        refine wp_seq ?_
        refine wp_seq ?_
        refine Wk.reg ?_
        refine Wk.rPure 0 (some 28) (.slice AA1 nn1 nn2) rfl rfl (by kernel_rfl) (by kernel_rfl) ?_
        refine Wk.rPure 1 (some 29) (.int .i64 ((nn1 : Nat) : Int)) rfl rfl (by kernel_rfl) (by kernel_rfl) ?_
        by_cases hx2 : ((nn1 : Nat) : Int) > (200 : Int)
        · refine Wk.rPure 2 (some 30) (.bool true) rfl rfl (by kernel_rfl) (Wk.boolT (b := decide (((nn1 : Nat) : Int) > (200 : Int))) (decide_eq_true (by first | exact hx2 | omega)) (by kernel_rfl)) ?_
          refine Wk.rPure 3 (some 31) (.bool true) rfl rfl (by kernel_rfl) (by kernel_rfl) ?_
          refine Wk.rPass 4 (some 32) rfl rfl (by kernel_rfl) ?_
          refine Wk.rPass 5 (some 33) rfl rfl (by kernel_rfl) ?_
          refine Wk.rPass 6 (some 34) rfl rfl (by kernel_rfl) ?_
          refine Wk.rPass 7 (some 35) rfl rfl (by kernel_rfl) ?_
          refine Wk.rPass 8 (some 36) rfl rfl (by kernel_rfl) ?_
          refine Wk.rPure 9 (some 37) (.bool true) rfl rfl (by kernel_rfl) (by kernel_rfl) ?_
          refine Wk.rEnd 10 rfl ?_
          refine Wk.nxt ?_
          refine wp_cond_true (by kernel_rfl) ?_
          refine wp_seq ?_
          refine Wk.reg ?_
          refine Wk.rPure 0 (some 2) (.bool false) rfl rfl (by kernel_rfl) (by kernel_rfl) ?_
          refine Wk.rEnd 1 rfl ?_
          refine Wk.nxt ?_
          refine wp_ret ?_
          refine Wk.thR ?_
          exfalso; omega
        · refine Wk.rPure 2 (some 30) (.bool false) rfl rfl (by kernel_rfl) (Wk.boolF (b := decide (((nn1 : Nat) : Int) > (200 : Int))) (decide_eq_false (by first | exact hx2 | omega)) (by kernel_rfl)) ?_
          refine Wk.rPure 3 (some 31) (.bool false) rfl rfl (by kernel_rfl) (by kernel_rfl) ?_
          refine Wk.rPure 4 (some 32) (.slice AA1 nn1 nn2) rfl rfl (by kernel_rfl) (by kernel_rfl) ?_
          refine Wk.rPure 5 (some 33) (.int .i64 ((nn1 : Nat) : Int)) rfl rfl (by kernel_rfl) (by kernel_rfl) ?_
          refine Wk.rPure 6 (some 34) (.pointer (some ⟨w.heap.size, 0, none⟩)) rfl rfl (by kernel_rfl) (by kernel_rfl) ?_
          refine Wk.rCall 7 (some 35) 23 [.tmp 34] #[24] [.pointer (some ⟨w.heap.size, 0, none⟩)] rfl rfl (by kernel_rfl) rfl (by kernel_rfl) (by kernel_rfl) ?_
          have hD3 := Mur.SetF.chg hD1 ch4 (fun s hs => trivial)
          refine (Len_any w.heap.size L1 w.heap.size F1 W5 hD3).mono ?_
          rintro _ _ ⟨rfl, rfl⟩
          refine ⟨_, rfl, ?_⟩
          by_cases hx3 : ((nn1 : Nat) : Int) ≠ ((L1.length : Nat) : Int)
          · refine Wk.rPure 8 (some 36) (.bool true) rfl rfl (by kernel_rfl) (Wk.boolT (b := (((nn1 : Nat) : Int) != ((L1.length : Nat) : Int))) (bne_iff_ne.2 (by first | exact hx3 | omega)) (by kernel_rfl)) ?_
            refine Wk.rPure 9 (some 37) (.bool true) rfl rfl (by kernel_rfl) (by kernel_rfl) ?_
            refine Wk.rEnd 10 rfl ?_
            refine Wk.nxt ?_
            refine wp_cond_true (by kernel_rfl) ?_
            refine wp_seq ?_
            refine Wk.reg ?_
            refine Wk.rPure 0 (some 2) (.bool false) rfl rfl (by kernel_rfl) (by kernel_rfl) ?_
            refine Wk.rEnd 1 rfl ?_
            refine Wk.nxt ?_
            refine wp_ret ?_
            refine Wk.thR ?_
            exfalso; omega
          · refine Wk.rPure 8 (some 36) (.bool false) rfl rfl (by kernel_rfl) (Wk.boolF (b := (((nn1 : Nat) : Int) != ((L1.length : Nat) : Int))) (bne_eq_false_iff_eq.2 (by first | exact hx3 | omega)) (by kernel_rfl)) ?_
            refine Wk.rPure 9 (some 37) (.bool false) rfl rfl (by kernel_rfl) (by kernel_rfl) ?_
            refine Wk.rEnd 10 rfl ?_
            refine Wk.nxt ?_
            refine wp_cond_false (by kernel_rfl) ?_
            refine wp_skip ?_
            refine Wk.nxt ?_
            refine wp_seq ?_
            refine wp_seq ?_
            refine Wk.reg ?_
            refine Wk.rPure 0 (some 38) (.slice A n c) rfl rfl (by kernel_rfl) (by kernel_rfl) ?_
            refine Wk.rPure 1 (some 39) (.int .i64 ((n : Nat) : Int)) rfl rfl (by kernel_rfl) (by kernel_rfl) ?_
            refine Wk.rPure 2 (some 40) (.int .i64 0) rfl rfl (by kernel_rfl) (by kernel_rfl) ?_
            refine Wk.rEnd 3 rfl ?_
            refine Wk.nxt ?_
            refine wp_block ?_
            have kk4 := Wk.Chg.step HB ch4 trivial
            refine Wk.loop (fun m_ a wr => ∃ (i : Nat), m_ = n - i ∧ a = Mos20_F2 a.tmps (.slice A n c) (.pointer (some ⟨w.heap.size, 0, none⟩)) (.slice AA1 nn1 nn2) (.int .i64 ((n : Nat) : Int)) (.int .i64 ((i : Nat) : Int)) ∧ i ≤ n ∧ Wk.Chg [] W5 wr) (n - 0) ?_ ?_
            · refine ⟨0, rfl, by kernel_rfl, (by omega), (Wk.Chg.refl _)⟩
            · rintro mm2 aa2 W6 ⟨i, hmm2, hF2, hi, HB0⟩
              generalize aa2.tmps = bb2 at hF2
              subst hF2
              have HB2 := Wk.Chg.step kk4 HB0 trivial
              have hzB0 := HB0.size
              have hzB2 := HB2.size
              have hlL := hl.len
              have hDx := Mur.SetF.chg hD3 HB0 (fun _ _ => trivial)
              have hOx := Mur.OwnA.chg ow1 HB0 (fun _ _ _ _ => trivial)
              have hOl := hOx.sl.len
              by_cases hlt : i < n
              · obtain ⟨g_x, o_x, rfl, _⟩ := hl.ex (by omega)
                obtain ⟨x, hx⟩ : ∃ x, L[i]? = some x := ⟨_, List.getElem?_eq_getElem (by have := hl.len; omega)⟩
                refine wp_seq ?_
                refine Wk.reg ?_
                refine Wk.rPure 0 (some 41) (.bool true) rfl rfl (by kernel_rfl) (Wk.boolT (b := decide (((i : Nat) : Int) < ((n : Nat) : Int))) (decide_eq_true (by omega)) (by kernel_rfl)) ?_
                refine Wk.rEnd 1 rfl ?_
                refine Wk.nxt ?_
                refine wp_seq ?_
                refine wp_cond_true (by kernel_rfl) ?_
                refine wp_skip ?_
                refine Wk.nxt ?_
                refine wp_seq ?_
                refine wp_block ?_
                refine wp_seq ?_
                refine Wk.reg ?_
                refine Wk.rPure 0 (some 42) (.int .i64 ((i : Nat) : Int)) rfl rfl (by kernel_rfl) (by kernel_rfl) ?_
                refine Wk.rPure 1 (some 6) (.int .i64 ((i : Nat) : Int)) rfl rfl (by kernel_rfl) (by kernel_rfl) ?_
                refine Wk.rEnd 2 rfl ?_
                refine Wk.nxt ?_
                refine wp_seq ?_
                refine wp_seq ?_
                refine Wk.reg ?_
                refine Wk.rPure 0 (some 43) (.pointer (some ⟨w.heap.size, 0, none⟩)) rfl rfl (by kernel_rfl) (by kernel_rfl) ?_
                refine Wk.rPure 1 (some 44) (.slice (some ⟨g_x, o_x, none⟩) n c) rfl rfl (by kernel_rfl) (by kernel_rfl) ?_
                refine Wk.rPure 2 (some 45) (.int .i64 ((i : Nat) : Int)) rfl rfl (by kernel_rfl) (by kernel_rfl) ?_
                refine Wk.rPure 3 (some 46) (.pointer (some ⟨g_x, o_x + i * 97, none⟩)) rfl rfl (by kernel_rfl) (Wk.index_sl 22 32 (.tmp 44) (.tmp 45) rfl Tryd.underlying22 97 (by kernel_rfl) g_x o_x n c i .i64 (by kernel_rfl) (by kernel_rfl) (by omega)) ?_
                refine Wk.rPure 4 (some 47) (.agg ((Mur.attC x.k x.r x.n x.t).toArray)) rfl rfl (by kernel_rfl) (Wk.loadR 32 (.tmp 46) rfl _ Tryd.underlying32 rfl g_x (o_x + i * 97) (by kernel_rfl) (Mur.attC x.k x.r x.n x.t) (by rw [Mur.attC_length x.hk x.hr x.ht]; kernel_rfl) ((Mur.SlA.chg hl HB2 (fun g off e hl => trivial)).elem hx)) ?_
                refine Wk.rCall 5 (some 48) 24 [.tmp 43, .tmp 47] #[24, 32] [.pointer (some ⟨w.heap.size, 0, none⟩), .agg ((Mur.attC x.k x.r x.n x.t).toArray)] rfl rfl (by kernel_rfl) rfl (by kernel_rfl) (by kernel_rfl) ?_
                by_cases hmem1 : x ∈ L1
                · refine (Has_any w.heap.size L1 w.heap.size F1 x W6 hDx).mono ?_
                  rw [decide_eq_true (hmem1 : x ∈ L1)]
                  rintro _ W7 ⟨rfl, ch5⟩
                  have zz6 := ch5.size
                  refine ⟨_, rfl, ?_⟩
                  refine Wk.rPure 6 (some 49) (.bool true) rfl rfl (by kernel_rfl) (by kernel_rfl) ?_
                  refine Wk.rPass 7 (some 50) rfl rfl (by kernel_rfl) ?_
                  refine Wk.rPass 8 (some 51) rfl rfl (by kernel_rfl) ?_
                  refine Wk.rPass 9 (some 52) rfl rfl (by kernel_rfl) ?_
                  refine Wk.rPass 10 (some 53) rfl rfl (by kernel_rfl) ?_
                  refine Wk.rPass 11 (some 54) rfl rfl (by kernel_rfl) ?_
                  refine Wk.rPass 12 (some 55) rfl rfl (by kernel_rfl) ?_
                  refine Wk.rPure 13 (some 56) (.bool true) rfl rfl (by kernel_rfl) (by kernel_rfl) ?_
                  refine Wk.rPure 14 (some 57) (.bool true) rfl rfl (by kernel_rfl) (by kernel_rfl) ?_
                  refine Wk.rPass 15 (some 58) rfl rfl (by kernel_rfl) ?_
                  refine Wk.rPass 16 (some 59) rfl rfl (by kernel_rfl) ?_
                  refine Wk.rPass 17 (some 60) rfl rfl (by kernel_rfl) ?_
                  refine Wk.rPass 18 (some 61) rfl rfl (by kernel_rfl) ?_
                  refine Wk.rPass 19 (some 62) rfl rfl (by kernel_rfl) ?_
                  refine Wk.rPass 20 (some 63) rfl rfl (by kernel_rfl) ?_
                  refine Wk.rPure 21 (some 64) (.bool true) rfl rfl (by kernel_rfl) (by kernel_rfl) ?_
                  refine Wk.rEnd 22 rfl ?_
                  refine Wk.nxt ?_
                  refine wp_cond_true (by kernel_rfl) ?_
                  refine wp_exit ?_
                  refine Wk.thX ?_
                  refine Wk.inX ?_
                  refine Wk.nxt ?_
                  refine Wk.reg ?_
                  refine Wk.rPure 0 (some 81) (.int .i64 ((i + 1 : Nat) : Int)) rfl rfl (by kernel_rfl) (Wk.int64 (n := ((i : Nat) : Int) + 1) (z := ((i + 1 : Nat) : Int)) (by omega) (by omega) (by omega) (by kernel_rfl)) ?_
                  refine Wk.rPure 1 (some 40) (.int .i64 ((i + 1 : Nat) : Int)) rfl rfl (by kernel_rfl) (by kernel_rfl) ?_
                  refine Wk.rEnd 2 rfl ?_
                  refine Wk.nxt ?_
                  have kk5 := Wk.Chg.step HB0 ch5 trivial
                  refine ⟨_, ?_, i + 1, rfl, by kernel_rfl, (by omega), kk5⟩
                  · omega
                · refine (Has_any w.heap.size L1 w.heap.size F1 x W6 hDx).mono ?_
                  rw [decide_eq_false (hmem1 : ¬ (x ∈ L1))]
                  rintro _ W7 ⟨rfl, ch5⟩
                  have zz7 := ch5.size
                  refine ⟨_, rfl, ?_⟩
                  refine Wk.rPure 6 (some 49) (.bool false) rfl rfl (by kernel_rfl) (by kernel_rfl) ?_
                  refine Wk.rPure 7 (some 50) (.slice (some ⟨g_x, o_x, none⟩) n c) rfl rfl (by kernel_rfl) (by kernel_rfl) ?_
                  refine Wk.rPure 8 (some 51) (.int .i64 ((i : Nat) : Int)) rfl rfl (by kernel_rfl) (by kernel_rfl) ?_
                  refine Wk.rPure 9 (some 52) (.pointer (some ⟨g_x, o_x + i * 97, none⟩)) rfl rfl (by kernel_rfl) (Wk.index_sl 22 32 (.tmp 50) (.tmp 51) rfl Tryd.underlying22 97 (by kernel_rfl) g_x o_x n c i .i64 (by kernel_rfl) (by kernel_rfl) (by omega)) ?_
                  refine Wk.rPure 10 (some 53) (.pointer (some ⟨g_x, o_x + i * 97 + 64, none⟩)) rfl rfl (by kernel_rfl) (by kernel_rfl) ?_
                  have kk6 := Wk.Chg.step HB2 ch5 trivial
                  refine Wk.rPure 11 (some 54) (.int .i64 x.n) rfl rfl (by kernel_rfl) (Wk.load1 3 (.tmp 53) rfl (by kernel_rfl) ⟨g_x, o_x + i * 97 + 64, none⟩ (by kernel_rfl) (.int .i64 x.n) ((Mur.SlA.chg hl kk6 (fun g off e hl => trivial)).length_ hx)) ?_
                  by_cases hx4 : x.n < (1 : Int)
                  · refine Wk.rPure 12 (some 55) (.bool true) rfl rfl (by kernel_rfl) (Wk.boolT (b := decide (x.n < (1 : Int))) (decide_eq_true (by first | exact hx4 | omega)) (by kernel_rfl)) ?_
                    refine Wk.rPure 13 (some 56) (.bool true) rfl rfl (by kernel_rfl) (by kernel_rfl) ?_
                    refine Wk.rPure 14 (some 57) (.bool true) rfl rfl (by kernel_rfl) (by kernel_rfl) ?_
                    refine Wk.rPass 15 (some 58) rfl rfl (by kernel_rfl) ?_
                    refine Wk.rPass 16 (some 59) rfl rfl (by kernel_rfl) ?_
                    refine Wk.rPass 17 (some 60) rfl rfl (by kernel_rfl) ?_
                    refine Wk.rPass 18 (some 61) rfl rfl (by kernel_rfl) ?_
                    refine Wk.rPass 19 (some 62) rfl rfl (by kernel_rfl) ?_
                    refine Wk.rPass 20 (some 63) rfl rfl (by kernel_rfl) ?_
                    refine Wk.rPure 21 (some 64) (.bool true) rfl rfl (by kernel_rfl) (by kernel_rfl) ?_
                    refine Wk.rEnd 22 rfl ?_
                    refine Wk.nxt ?_
                    refine wp_cond_true (by kernel_rfl) ?_
                    refine wp_exit ?_
                    refine Wk.thX ?_
                    refine Wk.inX ?_
                    refine Wk.nxt ?_
                    refine Wk.reg ?_
                    refine Wk.rPure 0 (some 81) (.int .i64 ((i + 1 : Nat) : Int)) rfl rfl (by kernel_rfl) (Wk.int64 (n := ((i : Nat) : Int) + 1) (z := ((i + 1 : Nat) : Int)) (by omega) (by omega) (by omega) (by kernel_rfl)) ?_
                    refine Wk.rPure 1 (some 40) (.int .i64 ((i + 1 : Nat) : Int)) rfl rfl (by kernel_rfl) (by kernel_rfl) ?_
                    refine Wk.rEnd 2 rfl ?_
                    refine Wk.nxt ?_
                    have kk7 := Wk.Chg.step HB0 ch5 trivial
                    refine ⟨_, ?_, i + 1, rfl, by kernel_rfl, (by omega), kk7⟩
                    · omega
                  · refine Wk.rPure 12 (some 55) (.bool false) rfl rfl (by kernel_rfl) (Wk.boolF (b := decide (x.n < (1 : Int))) (decide_eq_false (by first | exact hx4 | omega)) (by kernel_rfl)) ?_
                    refine Wk.rPure 13 (some 56) (.bool false) rfl rfl (by kernel_rfl) (by kernel_rfl) ?_
                    refine Wk.rPure 14 (some 57) (.bool false) rfl rfl (by kernel_rfl) (by kernel_rfl) ?_
                    refine Wk.rPure 15 (some 58) (.slice (some ⟨g_x, o_x, none⟩) n c) rfl rfl (by kernel_rfl) (by kernel_rfl) ?_
                    refine Wk.rPure 16 (some 59) (.int .i64 ((i : Nat) : Int)) rfl rfl (by kernel_rfl) (by kernel_rfl) ?_
                    refine Wk.rPure 17 (some 60) (.pointer (some ⟨g_x, o_x + i * 97, none⟩)) rfl rfl (by kernel_rfl) (Wk.index_sl 22 32 (.tmp 58) (.tmp 59) rfl Tryd.underlying22 97 (by kernel_rfl) g_x o_x n c i .i64 (by kernel_rfl) (by kernel_rfl) (by omega)) ?_
                    refine Wk.rPure 18 (some 61) (.pointer (some ⟨g_x, o_x + i * 97 + 64, none⟩)) rfl rfl (by kernel_rfl) (by kernel_rfl) ?_
                    refine Wk.rPure 19 (some 62) (.int .i64 x.n) rfl rfl (by kernel_rfl) (Wk.load1 3 (.tmp 61) rfl (by kernel_rfl) ⟨g_x, o_x + i * 97 + 64, none⟩ (by kernel_rfl) (.int .i64 x.n) ((Mur.SlA.chg hl kk6 (fun g off e hl => trivial)).length_ hx)) ?_
                    by_cases hx5 : x.n > (5000 : Int)
                    · refine Wk.rPure 20 (some 63) (.bool true) rfl rfl (by kernel_rfl) (Wk.boolT (b := decide (x.n > (5000 : Int))) (decide_eq_true (by first | exact hx5 | omega)) (by kernel_rfl)) ?_
                      refine Wk.rPure 21 (some 64) (.bool true) rfl rfl (by kernel_rfl) (by kernel_rfl) ?_
                      refine Wk.rEnd 22 rfl ?_
                      refine Wk.nxt ?_
                      refine wp_cond_true (by kernel_rfl) ?_
                      refine wp_exit ?_
                      refine Wk.thX ?_
                      refine Wk.inX ?_
                      refine Wk.nxt ?_
                      refine Wk.reg ?_
                      refine Wk.rPure 0 (some 81) (.int .i64 ((i + 1 : Nat) : Int)) rfl rfl (by kernel_rfl) (Wk.int64 (n := ((i : Nat) : Int) + 1) (z := ((i + 1 : Nat) : Int)) (by omega) (by omega) (by omega) (by kernel_rfl)) ?_
                      refine Wk.rPure 1 (some 40) (.int .i64 ((i + 1 : Nat) : Int)) rfl rfl (by kernel_rfl) (by kernel_rfl) ?_
                      refine Wk.rEnd 2 rfl ?_
                      refine Wk.nxt ?_
                      have kk8 := Wk.Chg.step HB0 ch5 trivial
                      refine ⟨_, ?_, i + 1, rfl, by kernel_rfl, (by omega), kk8⟩
                      · omega
                    · refine Wk.rPure 20 (some 63) (.bool false) rfl rfl (by kernel_rfl) (Wk.boolF (b := decide (x.n > (5000 : Int))) (decide_eq_false (by first | exact hx5 | omega)) (by kernel_rfl)) ?_
                      obtain ⟨hfull, hlast⟩ := hc1.out x (List.mem_of_getElem? hx) (show Mur.may x.n from ⟨by omega, by omega⟩) hmem1
                      obtain rfl : nn1 = 200 := by omega
                      obtain ⟨g_z, rfl, _, hgz_⟩ := hOx.ex (by omega)
                      obtain ⟨z, hz⟩ : ∃ z, L1[199]? = some z := ⟨_, List.getElem?_eq_getElem (by omega)⟩
                      refine Wk.rPure 21 (some 64) (.bool false) rfl rfl (by kernel_rfl) (by kernel_rfl) ?_
                      refine Wk.rEnd 22 rfl ?_
                      refine Wk.nxt ?_
                      refine wp_cond_false (by kernel_rfl) ?_
                      refine wp_skip ?_
                      refine Wk.nxt ?_
                      refine wp_seq ?_
                      refine Wk.dReg ([]) (by kernel_rfl) ?_
                      intro W8 ch6 sz1
                      have zz8 := ch6.size
                      have sS1 : Wk.Chg ([]) W8 W8 := (Wk.Chg.refl _).more (by simp)
                      refine Wk.dVal 0 (some 65) (.slice (some ⟨g_z, 0, none⟩) 200 nn2) rfl rfl (by kernel_rfl) (by kernel_rfl) (by kernel_rfl) (fun _ _ _ h => h) (by kernel_rfl) (fun w' hw' => by kernel_rfl) sS1 ?_
                      refine Wk.dVal 1 (some 66) (.int .i64 200) rfl rfl (by kernel_rfl) (by kernel_rfl) (by kernel_rfl) (fun _ _ _ h => h) (by kernel_rfl) (fun w' hw' => by kernel_rfl) sS1 ?_
                      refine Wk.dVal 2 (some 67) (.bool false) rfl rfl (by kernel_rfl) (by kernel_rfl) (by kernel_rfl) (fun _ _ _ h => h) (by kernel_rfl) (fun w' hw' => (Wk.boolF (b := decide ((200 : Int) < (200 : Int))) (decide_eq_false (by decide)) (by kernel_rfl))) sS1 ?_
                      refine Wk.dVal 3 (some 68) (.bool false) rfl rfl (by kernel_rfl) (by kernel_rfl) (by kernel_rfl) (fun _ _ _ h => h) (by kernel_rfl) (fun w' hw' => by kernel_rfl) sS1 ?_
                      refine Wk.dVal 4 (some 69) (.slice (some ⟨g_x, o_x, none⟩) n c) rfl rfl (by kernel_rfl) (by kernel_rfl) (by kernel_rfl) (fun _ _ _ h => h) (by kernel_rfl) (fun w' hw' => by kernel_rfl) sS1 ?_
                      refine Wk.dVal 5 (some 70) (.int .i64 ((i : Nat) : Int)) rfl rfl (by kernel_rfl) (by kernel_rfl) (by kernel_rfl) (fun _ _ _ h => h) (by kernel_rfl) (fun w' hw' => by kernel_rfl) sS1 ?_
                      refine Wk.dVal 6 (some 71) (.pointer (some ⟨g_x, o_x + i * 97, none⟩)) rfl rfl (by kernel_rfl) (by kernel_rfl) (by kernel_rfl) (fun _ _ _ h => h) (by kernel_rfl) (fun w' hw' => (Wk.index_sl 22 32 (.tmp 69) (.tmp 70) rfl Tryd.underlying22 97 (by kernel_rfl) g_x o_x n c i .i64 (by kernel_rfl) (by kernel_rfl) (by omega))) sS1 ?_
                      have kk9 := Wk.Chg.step kk6 ch6 trivial
                      refine Wk.dVal 7 (some 72) (.agg ((Mur.attC x.k x.r x.n x.t).toArray)) rfl rfl (by kernel_rfl) (by kernel_rfl) (by kernel_rfl) (fun _ _ _ h => h) (by kernel_rfl) (fun w' hw' => (Wk.loadR 32 (.tmp 71) rfl _ Tryd.underlying32 rfl g_x (o_x + i * 97) (by kernel_rfl) (Mur.attC x.k x.r x.n x.t) (by rw [Mur.attC_length x.hk x.hr x.ht]; kernel_rfl) ((Mur.SlA.chg (Mur.SlA.chg hl kk9 (fun g off e hl => trivial)) hw' (fun g off e hl => trivial)).elem hx))) sS1 ?_
                      refine Wk.dVal 8 (some 73) (.slice (some ⟨g_z, 0, none⟩) 200 nn2) rfl rfl (by kernel_rfl) (by kernel_rfl) (by kernel_rfl) (fun _ _ _ h => h) (by kernel_rfl) (fun w' hw' => by kernel_rfl) sS1 ?_
                      refine Wk.dVal 9 (some 74) (.slice (some ⟨g_z, 0, none⟩) 200 nn2) rfl rfl (by kernel_rfl) (by kernel_rfl) (by kernel_rfl) (fun _ _ _ h => h) (by kernel_rfl) (fun w' hw' => by kernel_rfl) sS1 ?_
                      refine Wk.dVal 10 (some 75) (.int .i64 200) rfl rfl (by kernel_rfl) (by kernel_rfl) (by kernel_rfl) (fun _ _ _ h => h) (by kernel_rfl) (fun w' hw' => by kernel_rfl) sS1 ?_
                      refine Wk.dVal 11 (some 76) (.int .i64 199) rfl rfl (by kernel_rfl) (by kernel_rfl) (by kernel_rfl) (fun _ _ _ h => h) (by kernel_rfl) (fun w' hw' => (Wk.int64 (n := 200 - 1) (z := 199) (by omega) (by omega) (by omega) (by kernel_rfl))) sS1 ?_
                      refine Wk.dVal 12 (some 77) (.pointer (some ⟨g_z, 19303, none⟩)) rfl rfl (by kernel_rfl) (by kernel_rfl) (by kernel_rfl) (fun _ _ _ h => h) (by kernel_rfl) (fun w' hw' => (Wk.index_sl 22 32 (.tmp 73) (.tmp 76) rfl Tryd.underlying22 97 (by kernel_rfl) g_z 0 200 nn2 199 .i64 (by kernel_rfl) (by kernel_rfl) (by omega))) sS1 ?_
                      refine Wk.dVal 13 (some 78) (.agg ((Mur.attC z.k z.r z.n z.t).toArray)) rfl rfl (by kernel_rfl) (by kernel_rfl) (by kernel_rfl) (fun _ _ _ h => h) (by kernel_rfl) (fun w' hw' => (Wk.loadR 32 (.tmp 77) rfl _ Tryd.underlying32 rfl g_z 19303 (by kernel_rfl) (Mur.attC z.k z.r z.n z.t) (by rw [Mur.attC_length z.hk z.hr z.ht]; kernel_rfl) ((Mur.SlA.chg (Mur.SlA.chg (Mur.SlA.chg hOx.sl ch5 (fun g off e hl => trivial)) ch6 (fun g off e hl => trivial)) hw' (fun g off e hl => trivial)).elem hz))) sS1 ?_
                      refine Wk.dOp 14 (by kernel_rfl) ?_
                      refine Wk.oCall (some 79) 25 [.tmp 72, .tmp 78] #[32, 32] [.agg ((Mur.attC x.k x.r x.n x.t).toArray), .agg ((Mur.attC z.k z.r z.n z.t).toArray)] rfl rfl (by kernel_rfl) rfl (by kernel_rfl) (by kernel_rfl) ?_
                      refine (Less20_any x z W8).mono ?_
                      rw [decide_eq_false (Mur.Att.lt_asymm (hlast z (List.mem_of_getElem? hz)) : ¬ x.lt z)]
                      rintro _ W9 ⟨rfl, ch7⟩
                      have zz9 := ch7.size
                      have sS2 := Wk.Chg.step sS1 ch7 trivial
                      refine ⟨_, rfl, sS2, ?_⟩
                      refine Wk.dVal 15 (some 80) (.bool false) rfl rfl (by kernel_rfl) (by kernel_rfl) (by kernel_rfl) (fun _ _ _ h => h) (by kernel_rfl) (fun w' hw' => by kernel_rfl) sS2 ?_
                      refine Wk.dEnd (by kernel_rfl) ?_
                      refine Wk.nxt ?_
                      refine wp_cond_false (by kernel_rfl) ?_
                      refine wp_skip ?_
                      refine Wk.inN ?_
                      refine Wk.nxt ?_
                      refine Wk.reg ?_
                      refine Wk.rPure 0 (some 81) (.int .i64 ((i + 1 : Nat) : Int)) rfl rfl (by kernel_rfl) (Wk.int64 (n := ((i : Nat) : Int) + 1) (z := ((i + 1 : Nat) : Int)) (by omega) (by omega) (by omega) (by kernel_rfl)) ?_
                      refine Wk.rPure 1 (some 40) (.int .i64 ((i + 1 : Nat) : Int)) rfl rfl (by kernel_rfl) (by kernel_rfl) ?_
                      refine Wk.rEnd 2 rfl ?_
                      refine Wk.nxt ?_
                      have kk10 := Wk.Chg.step HB0 ch5 trivial
                      have kk11 := Wk.Chg.step kk10 ch6 trivial
                      have kk12 := Wk.Chg.step kk11 ch7 trivial
                      refine ⟨_, ?_, i + 1, rfl, by kernel_rfl, (by omega), kk12⟩
                      · omega
              · refine wp_seq ?_
                refine Wk.reg ?_
                refine Wk.rPure 0 (some 41) (.bool false) rfl rfl (by kernel_rfl) (Wk.boolF (b := decide (((i : Nat) : Int) < ((n : Nat) : Int))) (decide_eq_false (by omega)) (by kernel_rfl)) ?_
                refine Wk.rEnd 1 rfl ?_
                refine Wk.nxt ?_
                refine wp_seq ?_
                refine wp_cond_false (by kernel_rfl) ?_
                refine wp_exit ?_
                refine Wk.thX ?_
                refine Wk.thX ?_
                refine Wk.inX ?_
                refine Wk.nxt ?_
                refine wp_seq ?_
                refine Wk.reg ?_
                refine Wk.rCall 0 (some 82) 13 [] #[] [] rfl rfl (by kernel_rfl) rfl (by kernel_rfl) (by kernel_rfl) ?_
                refine (known20_any W6 (HV.out.below (Wk.Chg.below0 HB2))).mono ?_
                rintro _ W10 ⟨rfl, ch8⟩
                have zz10 := ch8.size
                refine ⟨_, rfl, ?_⟩
                refine Wk.rPure 1 (some 2) (.bool true) rfl rfl (by kernel_rfl) (by kernel_rfl) ?_
                refine Wk.rEnd 2 rfl ?_
                refine Wk.nxt ?_
                refine wp_ret ?_
                have kk13 := Wk.Chg.step HB2 ch8 trivial
                refine Wk.ret (.bool true) rfl (by kernel_rfl) ?_
                exact ⟨rfl, Wk.Chg.below0 kk13⟩
end Go.Proofs.YtfhneademopciaaDoor
