/- Laws of adverts: what was met. No program in sight. gossip's laws: set. GossipQuiet, walked. -/
import Derived.Test.YtfhneademopciaaDoorPQ4
import Derived.Test.YtfhneademopciaaDoorPQ8
import Derived.Test.YtfhneademopciaaDoorPQ10
import Derived.Test.YtfhneademopciaaDoorPQ14
namespace Mur
theorem mem_take_succ {L : List Att} {j : Nat} {x y : Att} (hx : L[j]? = some x) : y ∈ L.take (j + 1) ↔ y = x ∨ y ∈ L.take j := by
  obtain ⟨h, rfl⟩ := List.getElem?_eq_some_iff.1 hx
  rw [List.take_succ_eq_append_getElem h, List.mem_append, List.mem_singleton]
  exact Or.comm
end Mur
namespace Go.Proofs.YtfhneademopciaaDoor
open Go.RowKit
open Mur (b8s Byt Own8 Seg Segs flat cutA attC Att SlA OwnA rowA msgC)
set_option maxRecDepth 100000
set_option maxHeartbeats 4000000
def SetG_F1 (b : Array Value) (u0 : Value) (u5 : Value) (u6 : Value) (u13 : Value) (u14 : Value) : Act := ⟨#[u0, b.getD 1 undef, b.getD 2 undef, b.getD 3 undef, b.getD 4 undef, u5, u6, b.getD 7 undef, b.getD 8 undef, b.getD 9 undef, b.getD 10 undef, b.getD 11 undef, b.getD 12 undef, u13, u14, b.getD 15 undef, b.getD 16 undef, b.getD 17 undef, b.getD 18 undef, b.getD 19 undef, b.getD 20 undef, b.getD 21 undef, b.getD 22 undef, b.getD 23 undef, b.getD 24 undef, b.getD 25 undef, b.getD 26 undef, b.getD 27 undef, b.getD 28 undef, b.getD 29 undef, b.getD 30 undef, b.getD 31 undef, b.getD 32 undef, b.getD 33 undef, b.getD 34 undef], []⟩
theorem set_any (A : Option Addr) (n c : Nat) (L : List Att) (w : World) (hl : SlA w A n L) (_hnc : n ≤ c ∧ c ≤ 9223372036854775807) : Calls Tryd.prog 33 #[.slice A n c] w fun e w' => ∃ g F DA dn dc Z, e = .returned (.tuple #[.pointer (some ⟨g, 0, none⟩), .slice DA dn dc, .bool true]) ∧ Mur.SetF 32 57 w.heap.size w' g Z F ∧ SlA w' DA dn Z ∧ (dn ≤ dc ∧ dc ≤ 9223372036854775807) ∧ (∀ g_ off_, DA = some ⟨g_, off_, none⟩ → g_ ∉ F ∧ w.heap.size ≤ g_ ∧ g_ < w'.heap.size) ∧ Mur.Canon (fun y_ => y_ ∈ L) Z ∧ Wk.Chg [] w w' := by
  refine calls_of_wp Tryd.func33 rfl ?_
  refine wp_seq ?_
  refine Wk.reg ?_
  refine Wk.rPure 0 (some 2) (.pointer none) rfl rfl (by kernel_rfl) (by kernel_rfl) ?_
  refine Wk.rPure 1 (some 3) (.slice none 0 0) rfl rfl (by kernel_rfl) (by kernel_rfl) ?_
  refine Wk.rPure 2 (some 4) (.bool false) rfl rfl (by kernel_rfl) (by kernel_rfl) ?_
  refine Wk.rEnd 3 rfl ?_
  refine Wk.nxt ?_
  refine wp_seq ?_
  refine Wk.reg ?_
  refine Wk.rCall 0 (some 8) 14 [] #[] [] rfl rfl (by kernel_rfl) rfl (by kernel_rfl) (by kernel_rfl) ?_
  refine (New_any w).mono ?_
  rintro _ W1 ⟨FF1, rfl, hD1, ch1⟩
  have hM1 := Mur.SetF.mem hD1
  have zz1 := (hM1 _ (Mur.SetF.self hD1)).2
  have zz2 := ch1.size
  refine ⟨_, rfl, ?_⟩
  refine Wk.rEx 1 (some 9) _ rfl rfl (by kernel_rfl) (Wk.new_ex (.slice (some ⟨W1.heap.size, 0, none⟩) 0 0) #[] 32 (by kernel_rfl)) ?_
  rintro _ W2 ⟨rfl, hb1, ch2, sz1⟩
  have zz3 := ch2.size
  refine Wk.rPure 2 (some 5) (.pointer (some ⟨w.heap.size, 0, none⟩)) rfl rfl (by kernel_rfl) (by kernel_rfl) ?_
  refine Wk.rPure 3 (some 6) (.slice (some ⟨W1.heap.size, 0, none⟩) 0 0) rfl rfl (by kernel_rfl) (by kernel_rfl) ?_
  refine Wk.rEnd 4 rfl ?_
  refine Wk.nxt ?_
  refine wp_seq ?_
  refine wp_seq ?_
  refine Wk.reg ?_
  refine Wk.rPure 0 (some 10) (.pointer (some ⟨w.heap.size, 0, none⟩)) rfl rfl (by kernel_rfl) (by kernel_rfl) ?_
  refine Wk.rPure 1 (some 11) (.bool false) rfl rfl (by kernel_rfl) (by kernel_rfl) ?_
  refine Wk.rEnd 2 rfl ?_
  refine Wk.nxt ?_
  refine wp_cond_false (by kernel_rfl) ?_
  refine wp_skip ?_
  refine Wk.nxt ?_
  refine wp_seq ?_
  refine wp_seq ?_
  refine Wk.reg ?_
  refine Wk.rPure 0 (some 12) (.slice A n c) rfl rfl (by kernel_rfl) (by kernel_rfl) ?_
  refine Wk.rPure 1 (some 13) (.int .i64 ((n : Nat) : Int)) rfl rfl (by kernel_rfl) (by kernel_rfl) ?_
  refine Wk.rPure 2 (some 14) (.int .i64 0) rfl rfl (by kernel_rfl) (by kernel_rfl) ?_
  refine Wk.rEnd 3 rfl ?_
  refine Wk.nxt ?_
  refine wp_block ?_
  have hD2 := Mur.SetF.chg hD1 ch2 (fun s hs => trivial)
  refine Wk.loop (fun m_ a wr => ∃ (j : Nat) (g : Nat) (L1 : List Att) (F1 : List Nat) (DA : Option Addr) (dn : Nat) (dc : Nat), m_ = n - j ∧ a = SetG_F1 a.tmps (.slice A n c) (.pointer (some ⟨g, 0, none⟩)) (.slice DA dn dc) (.int .i64 ((n : Nat) : Int)) (.int .i64 ((j : Nat) : Int)) ∧ j ≤ n ∧ Mur.Canon (fun y_ => y_ ∈ L.take j) L1 ∧ Mur.SetF 32 57 w.heap.size wr g L1 F1 ∧ SlA wr DA dn L1 ∧ (dn ≤ dc ∧ dc ≤ 9223372036854775807) ∧ (∀ g_ off_, DA = some ⟨g_, off_, none⟩ → g_ ∉ F1 ∧ w.heap.size ≤ g_ ∧ g_ < wr.heap.size) ∧ Wk.Chg [] w wr) (n - 0) ?_ ?_
  · have kk1 : Wk.Chg [] w W1 := Wk.Chg.step ((Wk.Chg.refl _).more (by simp)) ch1 trivial
    have kk2 := Wk.Chg.step kk1 ch2 trivial
    refine ⟨0, w.heap.size, [], FF1, some ⟨W1.heap.size, 0, none⟩, 0, 0, rfl, by kernel_rfl, (by omega), (by simpa using Mur.Canon.nil), hD2, (Mur.SlA.nil _ _), (by omega), (fun g_ off_ e_ => by cases e_; exact ⟨fun ht_ => by have := hM1 _ ht_; omega, by omega, by omega⟩), kk2⟩
  · rintro mm1 aa1 W3 ⟨j, g, L1, F1, DA, dn, dc, hmm1, hF1, hj, hc1, hD1, hdoc, hdnc, hnm, HB⟩
    generalize aa1.tmps = bb1 at hF1
    subst hF1
    have hzB := HB.size
    have hlL := hl.len
    have hM1 := Mur.SetF.mem hD1
    have hg1_ := hM1 _ (Mur.SetF.self hD1)
    have hsrt1 := Mur.SetF.srt hD1
    have hlen1 := Mur.SetF.len hD1
    have hdl_ := hdoc.len
    by_cases hlt : j < n
    · obtain ⟨g_x, o_x, rfl, _⟩ := hl.ex (by omega)
      obtain ⟨x, hx⟩ : ∃ x, L[j]? = some x := ⟨_, List.getElem?_eq_getElem (by have := hl.len; omega)⟩
      refine wp_seq ?_
      refine Wk.reg ?_
      refine Wk.rPure 0 (some 15) (.bool true) rfl rfl (by kernel_rfl) (Wk.boolT (b := decide (((j : Nat) : Int) < ((n : Nat) : Int))) (decide_eq_true (by omega)) (by kernel_rfl)) ?_
      refine Wk.rEnd 1 rfl ?_
      refine Wk.nxt ?_
      refine wp_seq ?_
      refine wp_cond_true (by kernel_rfl) ?_
      refine wp_skip ?_
      refine Wk.nxt ?_
      refine wp_seq ?_
      refine wp_block ?_
      refine wp_seq ?_
      refine Wk.reg ?_
      refine Wk.rPure 0 (some 16) (.int .i64 ((j : Nat) : Int)) rfl rfl (by kernel_rfl) (by kernel_rfl) ?_
      refine Wk.rPure 1 (some 7) (.int .i64 ((j : Nat) : Int)) rfl rfl (by kernel_rfl) (by kernel_rfl) ?_
      refine Wk.rEnd 2 rfl ?_
      refine Wk.nxt ?_
      refine wp_seq ?_
      refine Wk.reg ?_
      refine Wk.rPure 0 (some 17) (.pointer (some ⟨g, 0, none⟩)) rfl rfl (by kernel_rfl) (by kernel_rfl) ?_
      refine Wk.rPure 1 (some 18) (.slice (some ⟨g_x, o_x, none⟩) n c) rfl rfl (by kernel_rfl) (by kernel_rfl) ?_
      refine Wk.rPure 2 (some 19) (.int .i64 ((j : Nat) : Int)) rfl rfl (by kernel_rfl) (by kernel_rfl) ?_
      refine Wk.rPure 3 (some 20) (.pointer (some ⟨g_x, o_x + j * 97, none⟩)) rfl rfl (by kernel_rfl) (Wk.index_sl 22 32 (.tmp 18) (.tmp 19) rfl Tryd.underlying22 97 (by kernel_rfl) g_x o_x n c j .i64 (by kernel_rfl) (by kernel_rfl) (by omega)) ?_
      refine Wk.rPure 4 (some 21) (.agg ((Mur.attC x.k x.r x.n x.t).toArray)) rfl rfl (by kernel_rfl) (Wk.loadR 32 (.tmp 20) rfl _ Tryd.underlying32 rfl g_x (o_x + j * 97) (by kernel_rfl) (Mur.attC x.k x.r x.n x.t) (by rw [Mur.attC_length x.hk x.hr x.ht]; kernel_rfl) ((Mur.SlA.chg hl HB (fun g off e hl => trivial)).elem hx)) ?_
      refine Wk.rCall 5 (some 22) 15 [.tmp 17, .tmp 21] #[24, 32] [.pointer (some ⟨g, 0, none⟩), .agg ((Mur.attC x.k x.r x.n x.t).toArray)] rfl rfl (by kernel_rfl) rfl (by kernel_rfl) (by kernel_rfl) ?_
      refine (Add_any w.heap.size L1 g F1 x W3 hD1).mono ?_
      rintro _ W4 ⟨FF2, rfl, hD3, ch3, no1⟩
      have hM2 := Mur.SetF.mem hD3
      have zz4 := ch3.size
      have hdoc1 : SlA W4 DA dn L1 := Mur.SlA.chg hdoc ch3 (fun g_ off_ e_ _ => Wk.off_of_not (hnm g_ off_ e_).1)
      have hnm1 : (∀ g_ off_, DA = some ⟨g_, off_, none⟩ → g_ ∉ FF2 ∧ w.heap.size ≤ g_ ∧ g_ < W4.heap.size) := fun g_ off_ e_ => ⟨fun ht_ => (Mur.newOr_iff.1 no1 g_ ht_).elim (hnm g_ off_ e_).1 (fun h_ => by have := (hnm g_ off_ e_).2; omega), (hnm g_ off_ e_).2.1, by have := (hnm g_ off_ e_).2.2; omega⟩
      refine ⟨_, rfl, ?_⟩
      refine Wk.rEnd 6 rfl ?_
      refine Wk.nxt ?_
      refine Wk.reg ?_
      refine Wk.rPure 0 (some 24) (.slice DA dn dc) rfl rfl (by kernel_rfl) (by kernel_rfl) ?_
      refine Wk.rPure 1 (some 25) (.slice (some ⟨g_x, o_x, none⟩) n c) rfl rfl (by kernel_rfl) (by kernel_rfl) ?_
      refine Wk.rPure 2 (some 26) (.int .i64 ((j : Nat) : Int)) rfl rfl (by kernel_rfl) (by kernel_rfl) ?_
      refine Wk.rPure 3 (some 27) (.pointer (some ⟨g_x, o_x + j * 97, none⟩)) rfl rfl (by kernel_rfl) (Wk.index_sl 22 32 (.tmp 25) (.tmp 26) rfl Tryd.underlying22 97 (by kernel_rfl) g_x o_x n c j .i64 (by kernel_rfl) (by kernel_rfl) (by omega)) ?_
      have kk3 := Wk.Chg.step HB ch3 (Mur.newOr_iff.2 (fun t ht => .inr (by have := hM1 t ht; omega)))
      refine Wk.rPure 4 (some 28) (.agg ((Mur.attC x.k x.r x.n x.t).toArray)) rfl rfl (by kernel_rfl) (Wk.loadR 32 (.tmp 27) rfl _ Tryd.underlying32 rfl g_x (o_x + j * 97) (by kernel_rfl) (Mur.attC x.k x.r x.n x.t) (by rw [Mur.attC_length x.hk x.hr x.ht]; kernel_rfl) ((Mur.SlA.chg hl kk3 (fun g off e hl => trivial)).elem hx)) ?_
      refine Wk.rCall 5 (some 29) 26 [.tmp 24, .tmp 28] #[50, 32] [.slice DA dn dc, .agg ((Mur.attC x.k x.r x.n x.t).toArray)] rfl rfl (by kernel_rfl) rfl (by kernel_rfl) (by kernel_rfl) ?_
      refine (Radd_any DA dn dc L1 x W4 hdoc1 hsrt1 hlen1 (by omega)).mono ?_
      rintro _ W5 ⟨DA1, dn1, dc1, rfl, hd_1, hpl1, hnc1, ch4⟩
      have zz5 := ch4.size
      have hnm2 : (∀ g_ off_, DA1 = some ⟨g_, off_, none⟩ → g_ ∉ FF2 ∧ w.heap.size ≤ g_ ∧ g_ < W5.heap.size) := fun g_ off_ e_ => hpl1.elim (fun h1_ => by
        rw [h1_] at e_
        have h2_ := hnm1 g_ off_ e_
        exact ⟨h2_.1, h2_.2.1, by omega⟩) (fun h1_ => ⟨fun ht_ => by
        have h2_ := h1_ g_ off_ e_
        have h3_ := hM2 g_ ht_
        omega, by have h2_ := h1_ g_ off_ e_; omega, (h1_ g_ off_ e_).2⟩)
      refine ⟨_, rfl, ?_⟩
      refine Wk.rPure 6 (some 23) (.tuple #[.slice DA1 dn1 dc1, .int .i64 ((Mur.addS x L1).2)]) rfl rfl (by kernel_rfl) (by kernel_rfl) ?_
      refine Wk.rPure 7 (some 30) (.slice DA1 dn1 dc1) rfl rfl (by kernel_rfl) (by kernel_rfl) ?_
      refine Wk.rPure 8 (some 31) (.int .i64 ((Mur.addS x L1).2)) rfl rfl (by kernel_rfl) (by kernel_rfl) ?_
      refine Wk.rPure 9 (some 6) (.slice DA1 dn1 dc1) rfl rfl (by kernel_rfl) (by kernel_rfl) ?_
      refine Wk.rEnd 10 rfl ?_
      refine Wk.inN ?_
      refine Wk.nxt ?_
      refine Wk.reg ?_
      refine Wk.rPure 0 (some 32) (.int .i64 ((j + 1 : Nat) : Int)) rfl rfl (by kernel_rfl) (Wk.int64 (n := ((j : Nat) : Int) + 1) (z := ((j + 1 : Nat) : Int)) (by omega) (by omega) (by omega) (by kernel_rfl)) ?_
      refine Wk.rPure 1 (some 14) (.int .i64 ((j + 1 : Nat) : Int)) rfl rfl (by kernel_rfl) (by kernel_rfl) ?_
      refine Wk.rEnd 2 rfl ?_
      refine Wk.nxt ?_
      have hD4 := Mur.SetF.chg hD3 ch4 (fun s hs => trivial)
      have kk4 := Wk.Chg.step kk3 ch4 trivial
      refine ⟨_, ?_, j + 1, g, (Mur.addS x L1).1, FF2, DA1, dn1, dc1, rfl, by kernel_rfl, (by omega), ((hc1.add x).iff fun y_ => (Mur.mem_take_succ hx).symm), hD4, hd_1, (by omega), (fun g_ off_ e_ => by have h1_ := hnm2 g_ off_ e_; exact ⟨h1_.1, h1_.2.1, by omega⟩), kk4⟩
      · omega
    · replace hc1 := hc1.iff (Y := fun y_ => y_ ∈ L) fun y_ => by rw [List.take_of_length_le (by omega)]
      refine wp_seq ?_
      refine Wk.reg ?_
      refine Wk.rPure 0 (some 15) (.bool false) rfl rfl (by kernel_rfl) (Wk.boolF (b := decide (((j : Nat) : Int) < ((n : Nat) : Int))) (decide_eq_false (by omega)) (by kernel_rfl)) ?_
      refine Wk.rEnd 1 rfl ?_
      refine Wk.nxt ?_
      refine wp_seq ?_
      refine wp_cond_false (by kernel_rfl) ?_
      refine wp_exit ?_
      refine Wk.thX ?_
      refine Wk.thX ?_
      refine Wk.inX ?_
      refine Wk.nxt ?_
      refine wp_seq ?_
      refine Wk.reg ?_
      refine Wk.rPure 0 (some 33) (.pointer (some ⟨g, 0, none⟩)) rfl rfl (by kernel_rfl) (by kernel_rfl) ?_
      refine Wk.rPure 1 (some 34) (.slice DA dn dc) rfl rfl (by kernel_rfl) (by kernel_rfl) ?_
      refine Wk.rPure 2 (some 2) (.pointer (some ⟨g, 0, none⟩)) rfl rfl (by kernel_rfl) (by kernel_rfl) ?_
      refine Wk.rPure 3 (some 3) (.slice DA dn dc) rfl rfl (by kernel_rfl) (by kernel_rfl) ?_
      refine Wk.rPure 4 (some 4) (.bool true) rfl rfl (by kernel_rfl) (by kernel_rfl) ?_
      refine Wk.rEnd 5 rfl ?_
      refine Wk.nxt ?_
      refine wp_ret ?_
      refine Wk.ret (.tuple #[.pointer (some ⟨g, 0, none⟩), .slice DA dn dc, .bool true]) rfl (by kernel_rfl) ?_
      exact ⟨_, _, _, _, _, _, rfl, hD1, hdoc, hdnc, hnm, hc1, HB⟩
end Go.Proofs.YtfhneademopciaaDoor
namespace Go.Proofs.YtfhneademopciaaDoor
open Go.RowKit
open Mur (b8s Byt Own8 Seg Segs flat cutA attC Att SlA OwnA rowA msgC)
set_option maxRecDepth 100000
set_option maxHeartbeats 4000000
theorem quiet_any (A : Option Addr) (n c : Nat) (L : List Att) (w : World) (hv : ShaVars w) (hl : SlA w A n L) (_hnc : n ≤ c ∧ c ≤ 9223372036854775807) : Calls Tryd.prog 10 #[.slice A n c] w fun e w' => e = .returned (.bool true) ∧ Below w.heap.size w w' := by
  have HV := Go.Lib.hid hv
  clear hv
  have hLl_ := hl.len
  refine calls_of_wp Tryd.func10 rfl ?_
  refine wp_seq ?_
  refine Wk.reg ?_
  refine Wk.rPure 0 (some 2) (.bool false) rfl rfl (by kernel_rfl) (by kernel_rfl) ?_
  refine Wk.rEnd 1 rfl ?_
  refine Wk.nxt ?_
  refine wp_seq ?_
  refine wp_seq ?_
  refine Wk.reg ?_
  refine Wk.rPure 0 (some 9) (.slice A n c) rfl rfl (by kernel_rfl) (by kernel_rfl) ?_
  refine Wk.rPure 1 (some 10) (.int .i64 ((n : Nat) : Int)) rfl rfl (by kernel_rfl) (by kernel_rfl) ?_
  by_cases hx1 : ((n : Nat) : Int) > (200 : Int)
  · refine Wk.rPure 2 (some 11) (.bool true) rfl rfl (by kernel_rfl) (Wk.boolT (b := decide (((n : Nat) : Int) > (200 : Int))) (decide_eq_true (by first | exact hx1 | omega)) (by kernel_rfl)) ?_
    refine Wk.rEnd 3 rfl ?_
    refine Wk.nxt ?_
    refine wp_cond_true (by kernel_rfl) ?_
    refine wp_seq ?_
    refine Wk.reg ?_
    refine Wk.rCall 0 (some 12) 32 [] #[] [] rfl rfl (by kernel_rfl) rfl (by kernel_rfl) (by kernel_rfl) ?_
    refine (known21_any w HV.out).mono ?_
    rintro _ W1 ⟨rfl, ch1⟩
    have zz1 := ch1.size
    refine ⟨_, rfl, ?_⟩
    refine Wk.rPure 1 (some 2) (.bool true) rfl rfl (by kernel_rfl) (by kernel_rfl) ?_
    refine Wk.rEnd 2 rfl ?_
    refine Wk.nxt ?_
    refine wp_ret ?_
    refine Wk.thR ?_
    have kk1 : Wk.Chg [] w W1 := Wk.Chg.step ((Wk.Chg.refl _).more (by simp)) ch1 trivial
    refine Wk.ret (.bool true) rfl (by kernel_rfl) ?_
    exact ⟨rfl, Wk.Chg.below0 kk1⟩
  · refine Wk.rPure 2 (some 11) (.bool false) rfl rfl (by kernel_rfl) (Wk.boolF (b := decide (((n : Nat) : Int) > (200 : Int))) (decide_eq_false (by first | exact hx1 | omega)) (by kernel_rfl)) ?_
    refine Wk.rEnd 3 rfl ?_
    refine Wk.nxt ?_
    refine wp_cond_false (by kernel_rfl) ?_
    refine wp_skip ?_
    refine Wk.nxt ?_
    refine wp_seq ?_
    refine Wk.reg ?_
    refine Wk.rPure 0 (some 14) (.slice A n c) rfl rfl (by kernel_rfl) (by kernel_rfl) ?_
    refine Wk.rCall 1 (some 15) 33 [.tmp 14] #[22] [.slice A n c] rfl rfl (by kernel_rfl) rfl (by kernel_rfl) (by kernel_rfl) ?_
    refine (set_any A n c L w hl _hnc).mono ?_
    rintro _ W2 ⟨gs1, FF1, DA1, dn1, dc1, Z1, rfl, hD1, hdo1, hdc1, hnm1, hcn1, ch2⟩
    have zz2 := ch2.size
    have hM1 := Mur.SetF.mem hD1
    have zz3 := (hM1 _ (Mur.SetF.self hD1))
    have hzl1 := Mur.SetF.len hD1
    have hdl1 := hdo1.len
    have hlt1 : ∀ g_ off_, DA1 = some ⟨g_, off_, none⟩ → g_ ∉ FF1 ∧ w.heap.size ≤ g_ ∧ g_ < W2.heap.size := hnm1
    refine ⟨_, rfl, ?_⟩
    refine Wk.rPure 2 (some 13) (.tuple #[.pointer (some ⟨gs1, 0, none⟩), .slice DA1 dn1 dc1, .bool true]) rfl rfl (by kernel_rfl) (by kernel_rfl) ?_
    refine Wk.rPure 3 (some 16) (.pointer (some ⟨gs1, 0, none⟩)) rfl rfl (by kernel_rfl) (by kernel_rfl) ?_
    refine Wk.rPure 4 (some 17) (.slice DA1 dn1 dc1) rfl rfl (by kernel_rfl) (by kernel_rfl) ?_
    refine Wk.rPure 5 (some 18) (.bool true) rfl rfl (by kernel_rfl) (by kernel_rfl) ?_
    refine Wk.rPure 6 (some 3) (.pointer (some ⟨gs1, 0, none⟩)) rfl rfl (by kernel_rfl) (by kernel_rfl) ?_
    refine Wk.rPure 7 (some 4) (.slice DA1 dn1 dc1) rfl rfl (by kernel_rfl) (by kernel_rfl) ?_
    refine Wk.rPure 8 (some 5) (.bool true) rfl rfl (by kernel_rfl) (by kernel_rfl) ?_
    refine Wk.rEnd 9 rfl ?_
    refine Wk.nxt ?_
    refine wp_seq ?_
    refine Wk.reg ?_
    refine Wk.rPure 0 (some 20) (.slice A n c) rfl rfl (by kernel_rfl) (by kernel_rfl) ?_
    refine Wk.rCall 1 (some 21) 33 [.tmp 20] #[22] [.slice A n c] rfl rfl (by kernel_rfl) rfl (by kernel_rfl) (by kernel_rfl) ?_
    have kk2 : Wk.Chg [] w W2 := Wk.Chg.step ((Wk.Chg.refl _).more (by simp)) ch2 trivial
    refine (set_any A n c L W2 (Mur.SlA.chg hl kk2 (fun g off e hl => trivial)) _hnc).mono ?_
    rintro _ W3 ⟨gs2, FF2, DA2, dn2, dc2, Z2, rfl, hD2, hdo2, hdc2, hnm2, hcn2, ch3⟩
    have zz4 := ch3.size
    have hM2 := Mur.SetF.mem hD2
    have zz5 := (hM2 _ (Mur.SetF.self hD2))
    have hzl2 := Mur.SetF.len hD2
    have hdl2 := hdo2.len
    have hlt2 : ∀ g_ off_, DA2 = some ⟨g_, off_, none⟩ → g_ ∉ FF2 ∧ W2.heap.size ≤ g_ ∧ g_ < W3.heap.size := hnm2
    have jj1 : Mur.Dj FF2 FF1 := fun s h1 h2 => by have := hM2 s h1; have := hM1 s h2; omega
    have jj2 : Mur.Dj FF1 FF2 := fun s h1 h2 => jj1 s h2 h1
    refine ⟨_, rfl, ?_⟩
    refine Wk.rPure 2 (some 19) (.tuple #[.pointer (some ⟨gs2, 0, none⟩), .slice DA2 dn2 dc2, .bool true]) rfl rfl (by kernel_rfl) (by kernel_rfl) ?_
    refine Wk.rPure 3 (some 22) (.pointer (some ⟨gs2, 0, none⟩)) rfl rfl (by kernel_rfl) (by kernel_rfl) ?_
    refine Wk.rPure 4 (some 23) (.slice DA2 dn2 dc2) rfl rfl (by kernel_rfl) (by kernel_rfl) ?_
    refine Wk.rPure 5 (some 24) (.bool true) rfl rfl (by kernel_rfl) (by kernel_rfl) ?_
    refine Wk.rPure 6 (some 6) (.pointer (some ⟨gs2, 0, none⟩)) rfl rfl (by kernel_rfl) (by kernel_rfl) ?_
    refine Wk.rPure 7 (some 7) (.slice DA2 dn2 dc2) rfl rfl (by kernel_rfl) (by kernel_rfl) ?_
    refine Wk.rPure 8 (some 8) (.bool true) rfl rfl (by kernel_rfl) (by kernel_rfl) ?_
    refine Wk.rEnd 9 rfl ?_
    refine Wk.nxt ?_
    refine wp_seq ?_
    refine wp_seq ?_
    refine Wk.reg ?_
    refine Wk.rPure 0 (some 25) (.bool true) rfl rfl (by kernel_rfl) (by kernel_rfl) ?_
    refine Wk.rPure 1 (some 26) (.bool false) rfl rfl (by kernel_rfl) (by kernel_rfl) ?_
    refine Wk.rPure 2 (some 27) (.bool false) rfl rfl (by kernel_rfl) (by kernel_rfl) ?_
    refine Wk.rPure 3 (some 28) (.bool true) rfl rfl (by kernel_rfl) (by kernel_rfl) ?_
    refine Wk.rPure 4 (some 29) (.bool false) rfl rfl (by kernel_rfl) (by kernel_rfl) ?_
    refine Wk.rPure 5 (some 30) (.bool false) rfl rfl (by kernel_rfl) (by kernel_rfl) ?_
    refine Wk.rEnd 6 rfl ?_
    refine Wk.nxt ?_
    refine wp_cond_false (by kernel_rfl) ?_
    refine wp_skip ?_
    refine Wk.nxt ?_
    refine wp_seq ?_
    refine Wk.reg ?_
    refine Wk.rPure 0 (some 31) (.pointer (some ⟨gs1, 0, none⟩)) rfl rfl (by kernel_rfl) (by kernel_rfl) ?_
    refine Wk.rPure 1 (some 32) (.pointer (some ⟨gs2, 0, none⟩)) rfl rfl (by kernel_rfl) (by kernel_rfl) ?_
    refine Wk.rPure 2 (some 33) (.agg #[.pointer (some ⟨gs1, 0, none⟩), .pointer (some ⟨gs2, 0, none⟩)]) rfl rfl (by kernel_rfl) (Mur.run_built 62 _ rfl [(0, .pointer (some ⟨gs1, 0, none⟩)), (1, .pointer (some ⟨gs2, 0, none⟩))] (by kernel_rfl) _ (by kernel_rfl)) ?_
    refine Wk.rCall 3 (some 34) 34 [.tmp 33, .const (.bool false)] #[62, 4] [.agg #[.pointer (some ⟨gs1, 0, none⟩), .pointer (some ⟨gs2, 0, none⟩)], .bool false] rfl rfl (by kernel_rfl) rfl (by kernel_rfl) (by kernel_rfl) ?_
    obtain rfl : Z1 = Z2 := hcn1.uniq hcn2
    have hD3 := Mur.SetF.chg hD1 ch3 (fun s hs => trivial)
    have kk3 := Wk.Chg.step kk2 ch3 trivial
    refine (exchange_any w Z1 Z1 Z1 (Mur.two_same (Mur.SetF.srt hD1) (Mur.SetF.len hD1) (Mur.SetF.ok hD1)) w.heap.size W2.heap.size gs1 gs2 FF1 FF2 false W3 HV.out (Wk.Chg.below0 kk3) (by omega) hD3 hD2 jj2).mono ?_
    rintro _ W4 ⟨rx1, S1, S2, E1, E2, rfl, hone1, hall1, hD4, hD5, jj3, hN1, hN2, ch4⟩
    have jj4 : Mur.Dj E2 E1 := fun s_ h_ k_ => jj3 s_ k_ h_
    have hmF1 : ∀ t_, t_ ∈ (FF1 ++ FF2) → w.heap.size ≤ t_ ∧ t_ < W3.heap.size := fun t_ ht_ => by rcases List.mem_append.1 ht_ with h_ | h_ <;> first | (have := hM1 t_ h_; omega) | (have := hM2 t_ h_; omega)
    have zz6 := ch4.size
    have hM3 := Mur.SetF.mem hD4
    have hM4 := Mur.SetF.mem hD5
    have zz7 := hM3 _ (Mur.SetF.self hD4)
    have zz8 := hM4 _ (Mur.SetF.self hD5)
    obtain rfl : rx1 = 1 := hone1 rfl
    refine ⟨_, rfl, ?_⟩
    refine Wk.rPure 4 (some 35) (.bool true) rfl rfl (by kernel_rfl) (Wk.boolT (b := ((1 : Int) == (1 : Int))) (beq_iff_eq.2 (by decide)) (by kernel_rfl)) ?_
    refine Wk.rPure 5 (some 36) (.bool true) rfl rfl (by kernel_rfl) (by kernel_rfl) ?_
    refine Wk.rCall 6 (some 37) 32 [] #[] [] rfl rfl (by kernel_rfl) rfl (by kernel_rfl) (by kernel_rfl) ?_
    have kk4 := Wk.Chg.step kk3 ch4 (Mur.newOr_iff.2 (fun t ht => .inr (by have := hmF1 t ht; omega)))
    refine (known21_any W4 (HV.out.below (Wk.Chg.below0 kk4))).mono ?_
    rintro _ W5 ⟨rfl, ch5⟩
    have zz9 := ch5.size
    refine ⟨_, rfl, ?_⟩
    refine Wk.rPure 7 (some 38) (.bool true) rfl rfl (by kernel_rfl) (by kernel_rfl) ?_
    refine Wk.rPure 8 (some 2) (.bool true) rfl rfl (by kernel_rfl) (by kernel_rfl) ?_
    refine Wk.rEnd 9 rfl ?_
    refine Wk.nxt ?_
    refine wp_ret ?_
    have kk5 := Wk.Chg.step kk4 ch5 trivial
    refine Wk.ret (.bool true) rfl (by kernel_rfl) ?_
    exact ⟨rfl, Wk.Chg.below0 kk5⟩
end Go.Proofs.YtfhneademopciaaDoor
