/- gossip's laws: set. GossipMeets, walked. -/
import Derived.Test.YtfhneademopciaaDoorPM10
import Derived.Test.YtfhneademopciaaDoorPM11
import Derived.Test.YtfhneademopciaaDoorPM14
import Derived.Test.YtfhneademopciaaDoorPM13
namespace Go.Proofs.YtfhneademopciaaDoor
open Go.RowKit
open Mur (b8s Byt Own8 Seg Segs flat cutA attC Att SlA OwnA rowA msgC)
set_option maxRecDepth 100000
set_option maxHeartbeats 4000000
def SetG_F1 (b : Array Value) (u0 : Value) (u5 : Value) (u6 : Value) (u13 : Value) (u14 : Value) : Act := ⟨#[u0, b.getD 1 undef, b.getD 2 undef, b.getD 3 undef, b.getD 4 undef, u5, u6, b.getD 7 undef, b.getD 8 undef, b.getD 9 undef, b.getD 10 undef, b.getD 11 undef, b.getD 12 undef, u13, u14, b.getD 15 undef, b.getD 16 undef, b.getD 17 undef, b.getD 18 undef, b.getD 19 undef, b.getD 20 undef, b.getD 21 undef, b.getD 22 undef, b.getD 23 undef, b.getD 24 undef, b.getD 25 undef, b.getD 26 undef, b.getD 27 undef, b.getD 28 undef, b.getD 29 undef, b.getD 30 undef, b.getD 31 undef, b.getD 32 undef, b.getD 33 undef, b.getD 34 undef], []⟩
theorem set_any (A : Option Addr) (n c : Nat) (L : List Att) (w : World) (hl : SlA w A n L) (_hnc : n ≤ c ∧ c ≤ 9223372036854775807) : Calls Tryd.prog 33 #[.slice A n c] w fun e w' => ∃ g F DA dn dc Z, e = .returned (.tuple #[.pointer (some ⟨g, 0, none⟩), .slice DA dn dc, .bool true]) ∧ Mur.SetF 32 57 w.heap.size w' g Z F ∧ SlA w' DA dn Z ∧ (dn ≤ dc ∧ dc ≤ 9223372036854775807) ∧ (∀ g_ off_, DA = some ⟨g_, off_, none⟩ → g_ ∉ F ∧ w.heap.size ≤ g_ ∧ g_ < w'.heap.size) ∧ Mur.Canon (fun y_ => y_ ∈ L) Z ∧ Wk.Chg [] w w' := by
 refine calls_of_wp Tryd.func33 rfl ?_
 refine wp_seq (Wk.reg ?_)
 refine Wk.rP 0 2 (.pointer none) rfl rfl ?_
 refine Wk.rP 1 3 (.slice none 0 0) rfl rfl ?_
 refine Wk.rP 2 4 (.bool false) rfl rfl ?_
 refine Wk.rEnd 3 rfl (Wk.nxt (wp_seq (Wk.reg ?_)))
 refine Wk.rC 0 8 14 [] #[] [] rfl rfl rfl ?_
 refine (New_any w).mono ?_
 rintro _ W1 ⟨FF1, rfl, hD1, ch1⟩
 have hM1 := Mur.SetF.mem hD1
 have zz1 := (hM1 _ (Mur.SetF.self hD1)).2
 have zz2 := ch1.size
 refine ⟨_, rfl, ?_⟩
 refine Wk.rEx 1 (some 9) _ rfl rfl (by kernel_rfl) (Wk.new_ex (.slice (some ⟨W1.heap.size, 0, none⟩) 0 0) #[] 32 (by kernel_rfl)) ?_
 rintro _ W2 ⟨rfl, hb1, ch2, sz1⟩
 have zz3 := ch2.size
 refine Wk.rP 2 5 (.pointer (some ⟨w.heap.size, 0, none⟩)) rfl rfl ?_
 refine Wk.rP 3 6 (.slice (some ⟨W1.heap.size, 0, none⟩) 0 0) rfl rfl ?_
 refine Wk.rEnd 4 rfl (Wk.nxt (wp_seq (wp_seq (Wk.reg ?_))))
 refine Wk.rP 0 10 (.pointer (some ⟨w.heap.size, 0, none⟩)) rfl rfl ?_
 refine Wk.rP 1 11 (.bool false) rfl rfl ?_
 refine Wk.rEnd 2 rfl (Wk.nxt (wp_cond_false (by kernel_rfl) (wp_skip (Wk.nxt (wp_seq (wp_seq (Wk.reg ?_)))))))
 refine Wk.rP 0 12 (.slice A n c) rfl rfl ?_
 refine Wk.rP 1 13 (.int .i64 ((n : Nat) : Int)) rfl rfl ?_
 refine Wk.rP 2 14 (.int .i64 0) rfl rfl ?_
 refine Wk.rEnd 3 rfl (Wk.nxt (wp_block ?_))
 have hD2 := Mur.SetF.chg hD1 ch2 (fun s hs => trivial)
 refine Wk.loop (fun m_ a wr => ∃ (j : Nat) (g : Nat) (L1 : List Att) (F1 : List Nat) (DA : Option Addr) (dn : Nat) (dc : Nat), m_ = n - j ∧ a = SetG_F1 a.tmps (.slice A n c) (.pointer (some ⟨g, 0, none⟩)) (.slice DA dn dc) (.int .i64 ((n : Nat) : Int)) (.int .i64 ((j : Nat) : Int)) ∧ j ≤ n ∧ Mur.Canon (fun y_ => y_ ∈ L.take j) L1 ∧ Mur.SetF 32 57 w.heap.size wr g L1 F1 ∧ SlA wr DA dn L1 ∧ (dn ≤ dc ∧ dc ≤ 9223372036854775807) ∧ (∀ g_ off_, DA = some ⟨g_, off_, none⟩ → g_ ∉ F1 ∧ w.heap.size ≤ g_ ∧ g_ < wr.heap.size) ∧ Wk.Chg [] w wr) (n - 0) ?_ ?_
 ·have kk1 : Wk.Chg [] w W1 := Wk.Chg.step ((Wk.Chg.refl _).more (by simp)) ch1 trivial
  have kk2 := Wk.Chg.step kk1 ch2 trivial
  refine ⟨0, w.heap.size, [], FF1, some ⟨W1.heap.size, 0, none⟩, 0, 0, rfl, by kernel_rfl, (by omega), (by simpa using Mur.Canon.nil), hD2, (Mur.SlA.nil _ _), (by omega), (fun g_ off_ e_ => by cases e_; exact ⟨fun ht_ => by have := hM1 _ ht_; omega, by omega, by omega⟩), kk2⟩
 rintro mm1 aa1 W3 ⟨j, g, L1, F1, DA, dn, dc, hmm1, hF1, hj, hc1, hD1, hdoc, hdnc, hnm, HB⟩
 generalize aa1.tmps = bb1 at hF1
 subst hF1
 have hzB := HB.size
 have hlL := hl.len
 have hM1 := Mur.SetF.mem hD1
 have hg1_ := hM1 _ (Mur.SetF.self hD1)
 have hsrt1 := Mur.SetF.srt hD1
 have hlen1 := Mur.SetF.len hD1
 have hdl_ := hdoc.len
 by_cases hlt : j < n
 ·obtain ⟨g_x, o_x, rfl, _⟩ := hl.ex (by omega)
  obtain ⟨x, hx⟩ : ∃ x, L[j]? = some x := ⟨_, List.getElem?_eq_getElem (by have := hl.len; omega)⟩
  refine wp_seq (Wk.reg ?_)
  refine Wk.rQ 0 15 (.bool true) rfl rfl (Wk.boolT (b := decide (((j : Nat) : Int) < ((n : Nat) : Int))) (decide_eq_true (by omega)) (by kernel_rfl)) ?_
  refine Wk.rEnd 1 rfl (Wk.nxt (wp_seq (wp_cond_true (by kernel_rfl) (wp_skip (Wk.nxt (wp_seq (wp_block (wp_seq (Wk.reg ?_)))))))))
  refine Wk.rP 0 16 (.int .i64 ((j : Nat) : Int)) rfl rfl ?_
  refine Wk.rP 1 7 (.int .i64 ((j : Nat) : Int)) rfl rfl ?_
  refine Wk.rEnd 2 rfl (Wk.nxt (wp_seq (Wk.reg ?_)))
  refine Wk.rP 0 17 (.pointer (some ⟨g, 0, none⟩)) rfl rfl ?_
  refine Wk.rP 1 18 (.slice (some ⟨g_x, o_x, none⟩) n c) rfl rfl ?_
  refine Wk.rP 2 19 (.int .i64 ((j : Nat) : Int)) rfl rfl ?_
  refine Wk.rQ 3 20 (.pointer (some ⟨g_x, o_x + j * 97, none⟩)) rfl rfl (Wk.index_sl 22 32 (.tmp 18) (.tmp 19) rfl Tryd.underlying22 97 (by kernel_rfl) g_x o_x n c j .i64 (by kernel_rfl) (by kernel_rfl) (by omega)) ?_
  refine Wk.rQ 4 21 (.agg ((Mur.attC x.k x.r x.n x.t).toArray)) rfl rfl (Wk.loadR 32 (.tmp 20) rfl _ Tryd.underlying32 rfl g_x (o_x + j * 97) (by kernel_rfl) (Mur.attC x.k x.r x.n x.t) (by rw [Mur.attC_length x.hk x.hr x.ht]; kernel_rfl) ((Mur.SlA.chg hl HB (fun g off e hl => trivial)).elem hx)) ?_
  refine Wk.rC 5 22 15 [.tmp 17, .tmp 21] #[24, 32] [.pointer (some ⟨g, 0, none⟩), .agg ((Mur.attC x.k x.r x.n x.t).toArray)] rfl rfl rfl ?_
  refine (Add_any w.heap.size L1 g F1 x W3 hD1).mono ?_
  rintro _ W4 ⟨FF2, rfl, hD3, ch3, no1⟩
  have hM2 := Mur.SetF.mem hD3
  have zz4 := ch3.size
  have hdoc1 : SlA W4 DA dn L1 := Mur.SlA.chg hdoc ch3 (fun g_ off_ e_ _ => Wk.off_of_not (hnm g_ off_ e_).1)
  have hnm1 : (∀ g_ off_, DA = some ⟨g_, off_, none⟩ → g_ ∉ FF2 ∧ w.heap.size ≤ g_ ∧ g_ < W4.heap.size) := fun g_ off_ e_ => ⟨fun ht_ => (Mur.newOr_iff.1 no1 g_ ht_).elim (hnm g_ off_ e_).1 (fun h_ => by have := (hnm g_ off_ e_).2; omega), (hnm g_ off_ e_).2.1, by have := (hnm g_ off_ e_).2.2; omega⟩
  refine ⟨_, rfl, ?_⟩
  refine Wk.rEnd 6 rfl (Wk.nxt (Wk.reg ?_))
  refine Wk.rP 0 24 (.slice DA dn dc) rfl rfl ?_
  refine Wk.rP 1 25 (.slice (some ⟨g_x, o_x, none⟩) n c) rfl rfl ?_
  refine Wk.rP 2 26 (.int .i64 ((j : Nat) : Int)) rfl rfl ?_
  refine Wk.rQ 3 27 (.pointer (some ⟨g_x, o_x + j * 97, none⟩)) rfl rfl (Wk.index_sl 22 32 (.tmp 25) (.tmp 26) rfl Tryd.underlying22 97 (by kernel_rfl) g_x o_x n c j .i64 (by kernel_rfl) (by kernel_rfl) (by omega)) ?_
  have kk3 := Wk.Chg.step HB ch3 (Mur.newOr_iff.2 (fun t ht => .inr (by have := hM1 t ht; omega)))
  refine Wk.rQ 4 28 (.agg ((Mur.attC x.k x.r x.n x.t).toArray)) rfl rfl (Wk.loadR 32 (.tmp 27) rfl _ Tryd.underlying32 rfl g_x (o_x + j * 97) (by kernel_rfl) (Mur.attC x.k x.r x.n x.t) (by rw [Mur.attC_length x.hk x.hr x.ht]; kernel_rfl) ((Mur.SlA.chg hl kk3 (fun g off e hl => trivial)).elem hx)) ?_
  refine Wk.rC 5 29 26 [.tmp 24, .tmp 28] #[50, 32] [.slice DA dn dc, .agg ((Mur.attC x.k x.r x.n x.t).toArray)] rfl rfl rfl ?_
  refine (Radd_any DA dn dc L1 x W4 hdoc1 hsrt1 hlen1 (by omega)).mono ?_
  rintro _ W5 ⟨DA1, dn1, dc1, rfl, hd_1, hpl1, hnc1, ch4⟩
  have zz5 := ch4.size
  have hnm2 : (∀ g_ off_, DA1 = some ⟨g_, off_, none⟩ → g_ ∉ FF2 ∧ w.heap.size ≤ g_ ∧ g_ < W5.heap.size) := fun g_ off_ e_ => hpl1.elim (fun h1_ => by
   rw [h1_] at e_
   have h2_ := hnm1 g_ off_ e_
   exact ⟨h2_.1, h2_.2.1, by omega⟩) (fun h1_ => ⟨fun ht_ => by
   have h2_ := h1_ g_ off_ e_
   have h3_ := hM2 g_ ht_
   omega, by have h2_ := h1_ g_ off_ e_; omega, (h1_ g_ off_ e_).2⟩)
  refine ⟨_, rfl, ?_⟩
  refine Wk.rP 6 23 (.tuple #[.slice DA1 dn1 dc1, .int .i64 ((Mur.addS x L1).2)]) rfl rfl ?_
  refine Wk.rP 7 30 (.slice DA1 dn1 dc1) rfl rfl ?_
  refine Wk.rP 8 31 (.int .i64 ((Mur.addS x L1).2)) rfl rfl ?_
  refine Wk.rP 9 6 (.slice DA1 dn1 dc1) rfl rfl ?_
  refine Wk.rEnd 10 rfl (Wk.inN (Wk.nxt (Wk.reg ?_)))
  refine Wk.rQ 0 32 (.int .i64 ((j + 1 : Nat) : Int)) rfl rfl (Wk.int64 (n := ((j : Nat) : Int) + 1) (z := ((j + 1 : Nat) : Int)) (by omega) (by omega) (by omega) (by kernel_rfl)) ?_
  refine Wk.rP 1 14 (.int .i64 ((j + 1 : Nat) : Int)) rfl rfl ?_
  refine Wk.rEnd 2 rfl (Wk.nxt ?_)
  have hD4 := Mur.SetF.chg hD3 ch4 (fun s hs => trivial)
  have kk4 := Wk.Chg.step kk3 ch4 trivial
  refine ⟨_, ?_, j + 1, g, (Mur.addS x L1).1, FF2, DA1, dn1, dc1, rfl, by kernel_rfl, (by omega), ((hc1.add x).iff fun y_ => (Mur.mem_take_succ hx).symm), hD4, hd_1, (by omega), (fun g_ off_ e_ => by have h1_ := hnm2 g_ off_ e_; exact ⟨h1_.1, h1_.2.1, by omega⟩), kk4⟩
  omega
 replace hc1 := hc1.iff (Y := fun y_ => y_ ∈ L) fun y_ => by rw [List.take_of_length_le (by omega)]
 refine wp_seq (Wk.reg ?_)
 refine Wk.rQ 0 15 (.bool false) rfl rfl (Wk.boolF (b := decide (((j : Nat) : Int) < ((n : Nat) : Int))) (decide_eq_false (by omega)) (by kernel_rfl)) ?_
 refine Wk.rEnd 1 rfl (Wk.nxt (wp_seq (wp_cond_false (by kernel_rfl) (wp_exit (Wk.thX (Wk.thX (Wk.inX (Wk.nxt (wp_seq (Wk.reg ?_))))))))))
 refine Wk.rP 0 33 (.pointer (some ⟨g, 0, none⟩)) rfl rfl ?_
 refine Wk.rP 1 34 (.slice DA dn dc) rfl rfl ?_
 refine Wk.rP 2 2 (.pointer (some ⟨g, 0, none⟩)) rfl rfl ?_
 refine Wk.rP 3 3 (.slice DA dn dc) rfl rfl ?_
 refine Wk.rP 4 4 (.bool true) rfl rfl ?_
 refine Wk.rEnd 5 rfl (Wk.nxt (wp_ret ?_))
 refine Wk.ret (.tuple #[.pointer (some ⟨g, 0, none⟩), .slice DA dn dc, .bool true]) rfl (by kernel_rfl) ?_
 exact ⟨_, _, _, _, _, _, rfl, hD1, hdoc, hdnc, hnm, hc1, HB⟩
end Go.Proofs.YtfhneademopciaaDoor
namespace Go.Proofs.YtfhneademopciaaDoor
open Go.RowKit
open Mur (b8s Byt Own8 Seg Segs flat cutA attC Att SlA OwnA rowA msgC)
set_option maxRecDepth 100000
set_option maxHeartbeats 4000000
def Meets_F1 (b : Array Value) (u2 : Value) (u7 : Value) (u8 : Value) (u10 : Value) (u11 : Value) (u13 : Value) (u44 : Value) (u45 : Value) : Act := ⟨#[b.getD 0 undef, b.getD 1 undef, u2, b.getD 3 undef, b.getD 4 undef, b.getD 5 undef, b.getD 6 undef, u7, u8, b.getD 9 undef, u10, u11, b.getD 12 undef, u13, b.getD 14 undef, b.getD 15 undef, b.getD 16 undef, b.getD 17 undef, b.getD 18 undef, b.getD 19 undef, b.getD 20 undef, b.getD 21 undef, b.getD 22 undef, b.getD 23 undef, b.getD 24 undef, b.getD 25 undef, b.getD 26 undef, b.getD 27 undef, b.getD 28 undef, b.getD 29 undef, b.getD 30 undef, b.getD 31 undef, b.getD 32 undef, b.getD 33 undef, b.getD 34 undef, b.getD 35 undef, b.getD 36 undef, b.getD 37 undef, b.getD 38 undef, b.getD 39 undef, b.getD 40 undef, b.getD 41 undef, b.getD 42 undef, b.getD 43 undef, u44, u45, b.getD 46 undef, b.getD 47 undef, b.getD 48 undef, b.getD 49 undef, b.getD 50 undef, b.getD 51 undef, b.getD 52 undef, b.getD 53 undef, b.getD 54 undef, b.getD 55 undef, b.getD 56 undef, b.getD 57 undef, b.getD 58 undef, b.getD 59 undef, b.getD 60 undef, b.getD 61 undef, b.getD 62 undef, b.getD 63 undef, b.getD 64 undef, b.getD 65 undef, b.getD 66 undef, b.getD 67 undef, b.getD 68 undef, b.getD 69 undef, b.getD 70 undef, b.getD 71 undef, b.getD 72 undef, b.getD 73 undef, b.getD 74 undef, b.getD 75 undef, b.getD 76 undef, b.getD 77 undef, b.getD 78 undef, b.getD 79 undef, b.getD 80 undef, b.getD 81 undef], []⟩
theorem meets_any (A : Option Addr) (n c : Nat) (L : List Att) (B : Option Addr) (m d : Nat) (M : List Att) (back : Bool) (w : World) (hv : ShaVars w) (hl : SlA w A n L) (_hnc : n ≤ c ∧ c ≤ 9223372036854775807) (hm : SlA w B m M) (hmc : m ≤ d ∧ d ≤ 9223372036854775807) : Calls Tryd.prog 9 #[.slice A n c, .slice B m d, .bool back] w fun e w' => e = .returned (.bool true) ∧ Below w.heap.size w w' := by
 have HV := Go.Lib.hid hv
 clear hv
 have hLl_ := hl.len
 have hMl_ := hm.len
 refine calls_of_wp Tryd.func9 rfl ?_
 refine wp_seq (Wk.reg ?_)
 refine Wk.rP 0 6 (.bool false) rfl rfl ?_
 refine Wk.rEnd 1 rfl (Wk.nxt (wp_seq (wp_seq (Wk.reg ?_))))
 refine Wk.rP 0 15 (.slice A n c) rfl rfl ?_
 refine Wk.rP 1 16 (.int .i64 ((n : Nat) : Int)) rfl rfl ?_
 by_cases hx1 : ((n : Nat) : Int) > (100 : Int)
 ·refine Wk.rQ 2 17 (.bool true) rfl rfl (Wk.boolT (b := decide (((n : Nat) : Int) > (100 : Int))) (decide_eq_true (by first | exact hx1 | omega)) (by kernel_rfl)) ?_
  refine Wk.rP 3 18 (.bool true) rfl rfl ?_
  refine Wk.rPass 4 (some 19) rfl rfl (by kernel_rfl) ?_
  refine Wk.rPass 5 (some 20) rfl rfl (by kernel_rfl) ?_
  refine Wk.rPass 6 (some 21) rfl rfl (by kernel_rfl) ?_
  refine Wk.rP 7 22 (.bool true) rfl rfl ?_
  refine Wk.rEnd 8 rfl (Wk.nxt (wp_cond_true (by kernel_rfl) (wp_seq (Wk.reg ?_))))
  refine Wk.rC 0 23 32 [] #[] [] rfl rfl rfl ?_
  refine (known21_any w HV.out).mono ?_
  rintro _ W1 ⟨rfl, ch1⟩
  have zz1 := ch1.size
  refine ⟨_, rfl, ?_⟩
  refine Wk.rP 1 6 (.bool true) rfl rfl ?_
  refine Wk.rEnd 2 rfl (Wk.nxt (wp_ret (Wk.thR ?_)))
  have kk1 : Wk.Chg [] w W1 := Wk.Chg.step ((Wk.Chg.refl _).more (by simp)) ch1 trivial
  refine Wk.ret (.bool true) rfl (by kernel_rfl) ?_
  exact ⟨rfl, Wk.Chg.below0 kk1⟩
 refine Wk.rQ 2 17 (.bool false) rfl rfl (Wk.boolF (b := decide (((n : Nat) : Int) > (100 : Int))) (decide_eq_false (by first | exact hx1 | omega)) (by kernel_rfl)) ?_
 refine Wk.rP 3 18 (.bool false) rfl rfl ?_
 refine Wk.rP 4 19 (.slice B m d) rfl rfl ?_
 refine Wk.rP 5 20 (.int .i64 ((m : Nat) : Int)) rfl rfl ?_
 by_cases hx2 : ((m : Nat) : Int) > (100 : Int)
 ·refine Wk.rQ 6 21 (.bool true) rfl rfl (Wk.boolT (b := decide (((m : Nat) : Int) > (100 : Int))) (decide_eq_true (by first | exact hx2 | omega)) (by kernel_rfl)) ?_
  refine Wk.rP 7 22 (.bool true) rfl rfl ?_
  refine Wk.rEnd 8 rfl (Wk.nxt (wp_cond_true (by kernel_rfl) (wp_seq (Wk.reg ?_))))
  refine Wk.rC 0 23 32 [] #[] [] rfl rfl rfl ?_
  refine (known21_any w HV.out).mono ?_
  rintro _ W2 ⟨rfl, ch2⟩
  have zz2 := ch2.size
  refine ⟨_, rfl, ?_⟩
  refine Wk.rP 1 6 (.bool true) rfl rfl ?_
  refine Wk.rEnd 2 rfl (Wk.nxt (wp_ret (Wk.thR ?_)))
  have kk2 : Wk.Chg [] w W2 := Wk.Chg.step ((Wk.Chg.refl _).more (by simp)) ch2 trivial
  refine Wk.ret (.bool true) rfl (by kernel_rfl) ?_
  exact ⟨rfl, Wk.Chg.below0 kk2⟩
 refine Wk.rQ 6 21 (.bool false) rfl rfl (Wk.boolF (b := decide (((m : Nat) : Int) > (100 : Int))) (decide_eq_false (by first | exact hx2 | omega)) (by kernel_rfl)) ?_
 refine Wk.rP 7 22 (.bool false) rfl rfl ?_
 refine Wk.rEnd 8 rfl (Wk.nxt (wp_cond_false (by kernel_rfl) (wp_skip (Wk.nxt (wp_seq (Wk.reg ?_))))))
 refine Wk.rP 0 25 (.slice A n c) rfl rfl ?_
 refine Wk.rC 1 26 33 [.tmp 25] #[22] [.slice A n c] rfl rfl rfl ?_
 refine (set_any A n c L w hl _hnc).mono ?_
 rintro _ W3 ⟨gs1, FF1, DA1, dn1, dc1, Z1, rfl, hD1, hdo1, hdc1, hnm1, hcn1, ch3⟩
 have zz3 := ch3.size
 have hM1 := Mur.SetF.mem hD1
 have zz4 := (hM1 _ (Mur.SetF.self hD1))
 have hzl1 := Mur.SetF.len hD1
 have hdl1 := hdo1.len
 have hlt1 : ∀ g_ off_, DA1 = some ⟨g_, off_, none⟩ → g_ ∉ FF1 ∧ w.heap.size ≤ g_ ∧ g_ < W3.heap.size := hnm1
 refine ⟨_, rfl, ?_⟩
 refine Wk.rP 2 24 (.tuple #[.pointer (some ⟨gs1, 0, none⟩), .slice DA1 dn1 dc1, .bool true]) rfl rfl ?_
 refine Wk.rP 3 27 (.pointer (some ⟨gs1, 0, none⟩)) rfl rfl ?_
 refine Wk.rP 4 28 (.slice DA1 dn1 dc1) rfl rfl ?_
 refine Wk.rP 5 29 (.bool true) rfl rfl ?_
 refine Wk.rP 6 7 (.pointer (some ⟨gs1, 0, none⟩)) rfl rfl ?_
 refine Wk.rP 7 8 (.slice DA1 dn1 dc1) rfl rfl ?_
 refine Wk.rP 8 9 (.bool true) rfl rfl ?_
 refine Wk.rEnd 9 rfl (Wk.nxt (wp_seq (Wk.reg ?_)))
 refine Wk.rP 0 31 (.slice B m d) rfl rfl ?_
 refine Wk.rC 1 32 33 [.tmp 31] #[22] [.slice B m d] rfl rfl rfl ?_
 have kk3 : Wk.Chg [] w W3 := Wk.Chg.step ((Wk.Chg.refl _).more (by simp)) ch3 trivial
 refine (set_any B m d M W3 (Mur.SlA.chg hm kk3 (fun g off e hl => trivial)) hmc).mono ?_
 rintro _ W4 ⟨gs2, FF2, DA2, dn2, dc2, Z2, rfl, hD2, hdo2, hdc2, hnm2, hcn2, ch4⟩
 have zz5 := ch4.size
 have hM2 := Mur.SetF.mem hD2
 have zz6 := (hM2 _ (Mur.SetF.self hD2))
 have hzl2 := Mur.SetF.len hD2
 have hdl2 := hdo2.len
 have hlt2 : ∀ g_ off_, DA2 = some ⟨g_, off_, none⟩ → g_ ∉ FF2 ∧ W3.heap.size ≤ g_ ∧ g_ < W4.heap.size := hnm2
 have jj1 : Mur.Dj FF2 FF1 := fun s h1 h2 => by have := hM2 s h1; have := hM1 s h2; omega
 have jj2 : Mur.Dj FF1 FF2 := fun s h1 h2 => jj1 s h2 h1
 refine ⟨_, rfl, ?_⟩
 refine Wk.rP 2 30 (.tuple #[.pointer (some ⟨gs2, 0, none⟩), .slice DA2 dn2 dc2, .bool true]) rfl rfl ?_
 refine Wk.rP 3 33 (.pointer (some ⟨gs2, 0, none⟩)) rfl rfl ?_
 refine Wk.rP 4 34 (.slice DA2 dn2 dc2) rfl rfl ?_
 refine Wk.rP 5 35 (.bool true) rfl rfl ?_
 refine Wk.rP 6 10 (.pointer (some ⟨gs2, 0, none⟩)) rfl rfl ?_
 refine Wk.rP 7 11 (.slice DA2 dn2 dc2) rfl rfl ?_
 refine Wk.rP 8 12 (.bool true) rfl rfl ?_
 refine Wk.rEnd 9 rfl (Wk.nxt (wp_seq (wp_seq (Wk.reg ?_))))
 refine Wk.rP 0 36 (.bool true) rfl rfl ?_
 refine Wk.rP 1 37 (.bool false) rfl rfl ?_
 refine Wk.rP 2 38 (.bool false) rfl rfl ?_
 refine Wk.rP 3 39 (.bool true) rfl rfl ?_
 refine Wk.rP 4 40 (.bool false) rfl rfl ?_
 refine Wk.rP 5 41 (.bool false) rfl rfl ?_
 refine Wk.rEnd 6 rfl (Wk.nxt (wp_cond_false (by kernel_rfl) (wp_skip (Wk.nxt (wp_seq (Wk.reg ?_))))))
 refine Wk.rP 0 42 (.slice DA1 dn1 dc1) rfl rfl ?_
 refine Wk.rP 1 13 (.slice DA1 dn1 dc1) rfl rfl ?_
 refine Wk.rEnd 2 rfl (Wk.nxt (wp_seq (wp_seq (Wk.reg ?_))))
 refine Wk.rP 0 43 (.slice DA2 dn2 dc2) rfl rfl ?_
 refine Wk.rP 1 44 (.int .i64 ((dn2 : Nat) : Int)) rfl rfl ?_
 refine Wk.rP 2 45 (.int .i64 0) rfl rfl ?_
 refine Wk.rEnd 3 rfl (Wk.nxt (wp_block ?_))
 have hof0 : ∀ g_ off_, DA1 = some ⟨g_, off_, none⟩ → g_ ∉ FF1 ∧ g_ ∉ FF2 := fun g_ off_ e_ => ⟨(hlt1 g_ off_ e_).1, fun h_ => by have := hlt1 g_ off_ e_; have := hM2 g_ h_; omega⟩
 have hof1 : ∀ g_ off_, DA2 = some ⟨g_, off_, none⟩ → g_ ∉ FF1 ∧ g_ ∉ FF2 := fun g_ off_ e_ => ⟨fun h_ => by have := hlt2 g_ off_ e_; have := hM1 g_ h_; omega, (hlt2 g_ off_ e_).1⟩
 have kk4 := Wk.Chg.step kk3 ch4 trivial
 have hD3 := Mur.SetF.chg hD1 ch4 (fun s hs => trivial)
 refine Wk.loop (fun m_ a wr => ∃ (i : Nat) (AU : Option Addr) (nu : Nat) (cu : Nat) (U : List Att), m_ = dn2 - i ∧ a = Meets_F1 a.tmps (.bool back) (.pointer (some ⟨gs1, 0, none⟩)) (.slice DA1 dn1 dc1) (.pointer (some ⟨gs2, 0, none⟩)) (.slice DA2 dn2 dc2) (.slice AU nu cu) (.int .i64 ((dn2 : Nat) : Int)) (.int .i64 ((i : Nat) : Int)) ∧ i ≤ dn2 ∧ Mur.Canon (fun y_ => y_ ∈ L ∨ y_ ∈ Z2.take i) U ∧ SlA wr AU nu U ∧ (nu ≤ cu ∧ cu ≤ 9223372036854775807) ∧ (∀ g_ off_, AU = some ⟨g_, off_, none⟩ → (g_ ∉ FF1 ∧ g_ ∉ FF2) ∧ g_ < wr.heap.size) ∧ Wk.Chg [] W4 wr) (dn2 - 0) ?_ ?_
 ·refine ⟨0, DA1, dn1, dc1, Z1, rfl, by kernel_rfl, (by omega), (hcn1.iff fun y_ => by simp), (Mur.SlA.chg hdo1 ch4 (fun g off e hl => trivial)), (by omega), (fun g_ off_ e_ => ⟨hof0 g_ off_ e_, by have := hlt1 g_ off_ e_; omega⟩), (Wk.Chg.refl _)⟩
 rintro mm1 aa1 W5 ⟨i, AU, nu, cu, U, hmm1, hF1, hi, hcU, hUs, hUn, hUo, HBu⟩
 generalize aa1.tmps = bb1 at hF1
 subst hF1
 have hz1 := HBu.size
 have hB1 := Wk.Chg.step kk4 HBu trivial
 have hD4 := Mur.SetF.chg hD3 HBu (fun _ _ => trivial)
 have hD5 := Mur.SetF.chg hD2 HBu (fun _ _ => trivial)
 have hUl_ := hUs.len
 have hUc_ := hcU.len
 by_cases hlt : i < dn2
 ·have hsl1_ := (Mur.SlA.chg hdo2 HBu (fun g off e hl => trivial))
  obtain ⟨g_x, o_x, rfl, _⟩ := hsl1_.ex (by omega)
  obtain ⟨x, hx⟩ : ∃ x, Z2[i]? = some x := ⟨_, List.getElem?_eq_getElem (by have := hsl1_.len; omega)⟩
  refine wp_seq (Wk.reg ?_)
  refine Wk.rQ 0 46 (.bool true) rfl rfl (Wk.boolT (b := decide (((i : Nat) : Int) < ((dn2 : Nat) : Int))) (decide_eq_true (by omega)) (by kernel_rfl)) ?_
  refine Wk.rEnd 1 rfl (Wk.nxt (wp_seq (wp_cond_true (by kernel_rfl) (wp_skip (Wk.nxt (wp_seq (wp_block (wp_seq (Wk.reg ?_)))))))))
  refine Wk.rP 0 47 (.int .i64 ((i : Nat) : Int)) rfl rfl ?_
  refine Wk.rP 1 14 (.int .i64 ((i : Nat) : Int)) rfl rfl ?_
  refine Wk.rEnd 2 rfl (Wk.nxt (Wk.reg ?_))
  refine Wk.rP 0 49 (.slice AU nu cu) rfl rfl ?_
  refine Wk.rP 1 50 (.slice (some ⟨g_x, o_x, none⟩) dn2 dc2) rfl rfl ?_
  refine Wk.rP 2 51 (.int .i64 ((i : Nat) : Int)) rfl rfl ?_
  refine Wk.rQ 3 52 (.pointer (some ⟨g_x, o_x + i * 97, none⟩)) rfl rfl (Wk.index_sl 50 32 (.tmp 50) (.tmp 51) rfl Tryd.underlying50 97 (by kernel_rfl) g_x o_x dn2 dc2 i .i64 (by kernel_rfl) (by kernel_rfl) (by omega)) ?_
  refine Wk.rQ 4 53 (.agg ((Mur.attC x.k x.r x.n x.t).toArray)) rfl rfl (Wk.loadR 32 (.tmp 52) rfl _ Tryd.underlying32 rfl g_x (o_x + i * 97) (by kernel_rfl) (Mur.attC x.k x.r x.n x.t) (by rw [Mur.attC_length x.hk x.hr x.ht]; kernel_rfl) ((Mur.SlA.chg hdo2 HBu (fun g off e hl => trivial)).elem hx)) ?_
  refine Wk.rC 5 54 26 [.tmp 49, .tmp 53] #[50, 32] [.slice AU nu cu, .agg ((Mur.attC x.k x.r x.n x.t).toArray)] rfl rfl rfl ?_
  refine (Radd_any AU nu cu U x W5 hUs hcU.srt hcU.len (by omega)).mono ?_
  rintro _ W6 ⟨DA3, dn3, dc3, rfl, hd_1, hpl1, hnc1, ch5⟩
  have zz7 := ch5.size
  refine ⟨_, rfl, ?_⟩
  refine Wk.rP 6 48 (.tuple #[.slice DA3 dn3 dc3, .int .i64 ((Mur.addS x U).2)]) rfl rfl ?_
  refine Wk.rP 7 55 (.slice DA3 dn3 dc3) rfl rfl ?_
  refine Wk.rP 8 56 (.int .i64 ((Mur.addS x U).2)) rfl rfl ?_
  refine Wk.rP 9 13 (.slice DA3 dn3 dc3) rfl rfl ?_
  refine Wk.rEnd 10 rfl (Wk.inN (Wk.nxt (Wk.reg ?_)))
  refine Wk.rQ 0 57 (.int .i64 ((i + 1 : Nat) : Int)) rfl rfl (Wk.int64 (n := ((i : Nat) : Int) + 1) (z := ((i + 1 : Nat) : Int)) (by omega) (by omega) (by omega) (by kernel_rfl)) ?_
  refine Wk.rP 1 45 (.int .i64 ((i + 1 : Nat) : Int)) rfl rfl ?_
  refine Wk.rEnd 2 rfl (Wk.nxt ?_)
  have kk5 := Wk.Chg.step HBu ch5 trivial
  have hUo2 : ∀ g_ off_, DA3 = some ⟨g_, off_, none⟩ → (g_ ∉ FF1 ∧ g_ ∉ FF2) ∧ g_ < W6.heap.size := fun g_ off_ e_ => hpl1.elim (fun h1_ => by
   rw [h1_] at e_
   have h2_ := hUo g_ off_ e_
   exact ⟨h2_.1, by omega⟩) (fun h1_ => ⟨⟨fun ht_ => by have h2_ := h1_ g_ off_ e_; have := hM1 g_ ht_; omega, fun ht_ => by have h2_ := h1_ g_ off_ e_; have := hM2 g_ ht_; omega⟩, by have h2_ := h1_ g_ off_ e_; omega⟩)
  refine ⟨_, ?_, i + 1, DA3, dn3, dc3, (Mur.addS x U).1, rfl, by kernel_rfl, (by omega), ((hcU.add x).iff fun y_ => by rw [Mur.mem_take_succ hx]; exact or_left_comm), hd_1, (by omega), hUo2, kk5⟩
  omega
 have hll1_ := ((Mur.SlA.chg hdo2 HBu (fun g off e hl => trivial))).len
 rw [List.take_of_length_le (show Z2.length ≤ i by omega)] at hcU
 refine wp_seq (Wk.reg ?_)
 refine Wk.rQ 0 46 (.bool false) rfl rfl (Wk.boolF (b := decide (((i : Nat) : Int) < ((dn2 : Nat) : Int))) (decide_eq_false (by omega)) (by kernel_rfl)) ?_
 refine Wk.rEnd 1 rfl (Wk.nxt (wp_seq (wp_cond_false (by kernel_rfl) (wp_exit (Wk.thX (Wk.thX (Wk.inX (Wk.nxt (wp_seq (wp_seq (Wk.reg ?_)))))))))))
 refine Wk.rP 0 58 (.pointer (some ⟨gs1, 0, none⟩)) rfl rfl ?_
 refine Wk.rP 1 59 (.pointer (some ⟨gs2, 0, none⟩)) rfl rfl ?_
 refine Wk.rQ 2 60 (.agg #[.pointer (some ⟨gs1, 0, none⟩), .pointer (some ⟨gs2, 0, none⟩)]) rfl rfl (Mur.run_built 62 _ rfl [(0, .pointer (some ⟨gs1, 0, none⟩)), (1, .pointer (some ⟨gs2, 0, none⟩))] (by kernel_rfl) _ (by kernel_rfl)) ?_
 refine Wk.rP 3 61 (.bool back) rfl rfl ?_
 refine Wk.rC 4 62 34 [.tmp 60, .tmp 61] #[62, 4] [.agg #[.pointer (some ⟨gs1, 0, none⟩), .pointer (some ⟨gs2, 0, none⟩)], .bool back] rfl rfl rfl ?_
 refine (exchange_any w Z1 Z2 U (Mur.two_all hcn1 hcn2 hcU (by omega) (by omega)) w.heap.size W3.heap.size gs1 gs2 FF1 FF2 back W5 HV.out (Wk.Chg.below0 hB1) (by omega) hD4 hD5 jj2).mono ?_
 rintro _ W7 ⟨rx1, S1, S2, E1, E2, rfl, hone1, hall1, hD6, hD7, jj3, hN1, hN2, ch6⟩
 have jj4 : Mur.Dj E2 E1 := fun s_ h_ k_ => jj3 s_ k_ h_
 have hmF1 : ∀ t_, t_ ∈ (FF1 ++ FF2) → w.heap.size ≤ t_ ∧ t_ < W5.heap.size := fun t_ ht_ => by rcases List.mem_append.1 ht_ with h_ | h_ <;> first | (have := hM1 t_ h_; omega) | (have := hM2 t_ h_; omega)
 have hofU : ∀ g_ off_, AU = some ⟨g_, off_, none⟩ → g_ ∉ FF1 ∧ g_ ∉ FF2 := fun g_ off_ e_ => (hUo g_ off_ e_).1
 have zz8 := ch6.size
 have hM3 := Mur.SetF.mem hD6
 have hM4 := Mur.SetF.mem hD7
 have zz9 := hM3 _ (Mur.SetF.self hD6)
 have zz10 := hM4 _ (Mur.SetF.self hD7)
 have hdo3 : SlA W7 DA1 _ Z1 := Mur.SlA.chg (Mur.SlA.chg (Mur.SlA.chg hdo1 ch4 (fun g off e hl => trivial)) HBu (fun g off e hl => trivial)) ch6 (fun g_ off_ e_ _ => Mur.off_iff.2 fun t_ ht_ e2_ => by subst e2_; rcases List.mem_append.1 ht_ with h_ | h_ <;> first | exact (hof0 g_ off_ e_).1 h_ | exact (hof0 g_ off_ e_).2 h_)
 have hdo4 : SlA W7 DA2 _ Z2 := Mur.SlA.chg (Mur.SlA.chg hdo2 HBu (fun g off e hl => trivial)) ch6 (fun g_ off_ e_ _ => Mur.off_iff.2 fun t_ ht_ e2_ => by subst e2_; rcases List.mem_append.1 ht_ with h_ | h_ <;> first | exact (hof1 g_ off_ e_).1 h_ | exact (hof1 g_ off_ e_).2 h_)
 have hdo5 : SlA W7 AU _ U := Mur.SlA.chg hUs ch6 (fun g_ off_ e_ _ => Mur.off_iff.2 fun t_ ht_ e2_ => by subst e2_; rcases List.mem_append.1 ht_ with h_ | h_ <;> first | exact (hofU g_ off_ e_).1 h_ | exact (hofU g_ off_ e_).2 h_)
 refine ⟨_, rfl, ?_⟩
 refine Wk.rQ 5 63 (.bool false) rfl rfl (Wk.boolF (b := decide (((rx1 : Nat) : Int) < (0 : Int))) (decide_eq_false (by omega)) (by kernel_rfl)) ?_
 refine Wk.rEnd 6 rfl (Wk.nxt (wp_cond_false (by kernel_rfl) (wp_skip (Wk.nxt (wp_seq (wp_seq (Wk.reg ?_)))))))
 refine Wk.rP 0 64 (.pointer (some ⟨gs1, 0, none⟩)) rfl rfl ?_
 refine Wk.rC 1 65 18 [.tmp 64, .const (.slice none 0 0)] #[24, 38] [.pointer (some ⟨gs1, 0, none⟩), .slice none 0 0] rfl rfl rfl ?_
 refine (Below_any w.heap.size S1 gs1 E1 ([]) none 0 0 W7 hD6 (Byt.nil _ none) (by omega)).mono ?_
 rw [Mur.belowL_nil]
 rintro _ W8 ⟨AA1, nn1, nn2, rfl, ow1, ch7⟩
 have zz11 := ch7.size
 have hq1 := ow1.nc
 have hq2 := ow1.cm
 have hq3 := ow1.sl.len
 have hq4 : S1.length ≤ 200 := Nat.le_trans (Nat.le_refl _) (Mur.SetF.len hD6)
 refine ⟨_, rfl, ?_⟩
 refine Wk.rP 2 66 (.slice AU nu cu) rfl rfl ?_
 refine Wk.rC 3 67 17 [.tmp 65, .tmp 66] #[22, 22] [.slice AA1 nn1 nn2, .slice AU nu cu] rfl rfl rfl ?_
 refine (Same20_any AA1 nn1 nn2 S1 AU nu cu U W8 ow1.sl (Mur.SlA.chg hdo5 ch7 (fun g off e hl => trivial)) (by omega)).mono ?_
 by_cases hsa1 : S1 = U
 ·rw [decide_eq_true (hsa1 : S1 = U)]
  rintro _ W10 ⟨rfl, ch8⟩
  have zz12 := ch8.size
  refine ⟨_, rfl, ?_⟩
  refine Wk.rP 4 68 (.bool true) rfl rfl ?_
  refine Wk.rP 5 69 (.pointer (some ⟨gs2, 0, none⟩)) rfl rfl ?_
  refine Wk.rC 6 70 18 [.tmp 69, .const (.slice none 0 0)] #[24, 38] [.pointer (some ⟨gs2, 0, none⟩), .slice none 0 0] rfl rfl rfl ?_
  have hD8 := Mur.SetF.chg hD7 ch7 (fun s hs => trivial)
  have hD9 := Mur.SetF.chg hD8 ch8 (fun s hs => trivial)
  refine (Below_any W3.heap.size S2 gs2 E2 ([]) none 0 0 W10 hD9 (Byt.nil _ none) (by omega)).mono ?_
  rw [Mur.belowL_nil]
  rintro _ W11 ⟨AA2, nn3, nn4, rfl, ow2, ch9⟩
  have zz13 := ch9.size
  have hq5 := ow2.nc
  have hq6 := ow2.cm
  have hq7 := ow2.sl.len
  have hq8 : S2.length ≤ 200 := Nat.le_trans (Nat.le_refl _) (Mur.SetF.len hD9)
  refine ⟨_, rfl, ?_⟩
  refine Wk.rP 7 71 (.slice AU nu cu) rfl rfl ?_
  refine Wk.rC 8 72 17 [.tmp 70, .tmp 71] #[22, 22] [.slice AA2 nn3 nn4, .slice AU nu cu] rfl rfl rfl ?_
  refine (Same20_any AA2 nn3 nn4 S2 AU nu cu U W11 ow2.sl (Mur.SlA.chg (Mur.SlA.chg (Mur.SlA.chg hdo5 ch7 (fun g off e hl => trivial)) ch8 (fun g off e hl => trivial)) ch9 (fun g off e hl => trivial)) (by omega)).mono ?_
  by_cases hsa2 : S2 = U
  ·rw [decide_eq_true (hsa2 : S2 = U)]
   rintro _ W12 ⟨rfl, ch10⟩
   have zz14 := ch10.size
   refine ⟨_, rfl, ?_⟩
   refine Wk.rP 9 73 (.bool true) rfl rfl ?_
   refine Wk.rEnd 10 rfl (Wk.nxt (wp_cond_true (by kernel_rfl) (wp_seq (Wk.reg ?_))))
   refine Wk.rC 0 74 32 [] #[] [] rfl rfl rfl ?_
   have kk6 := Wk.Chg.step hB1 ch6 (Mur.newOr_iff.2 (fun t ht => .inr (by have := hmF1 t ht; omega)))
   have kk7 := Wk.Chg.step kk6 ch7 trivial
   have kk8 := Wk.Chg.step kk7 ch8 trivial
   have kk9 := Wk.Chg.step kk8 ch9 trivial
   have kk10 := Wk.Chg.step kk9 ch10 trivial
   refine (known21_any W12 (HV.out.below (Wk.Chg.below0 kk10))).mono ?_
   rintro _ W13 ⟨rfl, ch11⟩
   have zz15 := ch11.size
   refine ⟨_, rfl, ?_⟩
   refine Wk.rP 1 6 (.bool true) rfl rfl ?_
   refine Wk.rEnd 2 rfl (Wk.nxt (wp_ret (Wk.thR ?_)))
   have kk11 := Wk.Chg.step kk10 ch11 trivial
   refine Wk.ret (.bool true) rfl (by kernel_rfl) ?_
   exact ⟨rfl, Wk.Chg.below0 kk11⟩
  rw [decide_eq_false (hsa2 : ¬ (S2 = U))]
  rintro _ W12 ⟨rfl, ch10⟩
  have zz16 := ch10.size
  refine ⟨_, rfl, ?_⟩
  refine Wk.rP 9 73 (.bool false) rfl rfl ?_
  refine Wk.rEnd 10 rfl (Wk.nxt (wp_cond_false (by kernel_rfl) (wp_skip (Wk.nxt (wp_seq (Wk.reg ?_))))))
  refine Wk.rC 0 75 20 [] #[] [] rfl rfl rfl ?_
  refine (Hnew_any W12).mono ?_
  rintro _ W14 ⟨qh1, hc, kc, Hh, Hk, rfl, hqh1, hqz1, ch12⟩
  have zz17 := ch12.size
  have hcs := hc_size Hh.out
  have kcs := kc_size Hk.out
  refine ⟨_, rfl, ?_⟩
  refine Wk.rP 1 76 (.slice DA1 dn1 dc1) rfl rfl ?_
  refine Wk.rP 2 77 (.slice DA2 dn2 dc2) rfl rfl ?_
  refine Wk.rC 3 78 35 [.tmp 75, .tmp 76, .tmp 77, .const (.slice none 0 0)] #[41, 50, 50, 38] [.pointer (some ⟨qh1, 0, none⟩), .slice DA1 dn1 dc1, .slice DA2 dn2 dc2, .slice none 0 0] rfl rfl rfl ?_
  have hbP_ : Mur.BadP [] Z1 Z2 := Mur.shown_of hall1 (fun h_ => hsa2 (by first | exact h_.1 | exact h_.2))
  refine (Shown_any hc kc Hh Hk qh1 DA1 dn1 dc1 Z1 DA2 dn2 dc2 Z2 (by omega) (by omega) 8 [] none 0 0 W14 rfl rfl hqh1 (Mur.SlA.chg (Mur.SlA.chg (Mur.SlA.chg (Mur.SlA.chg (Mur.SlA.chg hdo3 ch7 (fun g off e hl => trivial)) ch8 (fun g off e hl => trivial)) ch9 (fun g off e hl => trivial)) ch10 (fun g off e hl => trivial)) ch12 (fun g off e hl => trivial)) (Mur.SlA.chg (Mur.SlA.chg (Mur.SlA.chg (Mur.SlA.chg (Mur.SlA.chg hdo4 ch7 (fun g off e hl => trivial)) ch8 (fun g off e hl => trivial)) ch9 (fun g off e hl => trivial)) ch10 (fun g off e hl => trivial)) ch12 (fun g off e hl => trivial)) (Byt.nil _ none) (fun _ => rfl)).mono ?_
  rintro _ W15 ⟨rs1, rfl, hrs1, ch13⟩
  obtain rfl : rs1 = true := hrs1 hbP_
  have zz18 := ch13.size
  refine ⟨_, rfl, ?_⟩
  refine Wk.rP 4 79 (.bool true) rfl rfl ?_
  refine Wk.rC 5 80 32 [] #[] [] rfl rfl rfl ?_
  have kk12 := Wk.Chg.step hB1 ch6 (Mur.newOr_iff.2 (fun t ht => .inr (by have := hmF1 t ht; omega)))
  have kk13 := Wk.Chg.step kk12 ch7 trivial
  have kk14 := Wk.Chg.step kk13 ch8 trivial
  have kk15 := Wk.Chg.step kk14 ch9 trivial
  have kk16 := Wk.Chg.step kk15 ch10 trivial
  have kk17 := Wk.Chg.step kk16 ch12 trivial
  have kk18 := Wk.Chg.step kk17 ch13 trivial
  refine (known21_any W15 (HV.out.below (Wk.Chg.below0 kk18))).mono ?_
  rintro _ W16 ⟨rfl, ch14⟩
  have zz19 := ch14.size
  refine ⟨_, rfl, ?_⟩
  refine Wk.rP 6 81 (.bool true) rfl rfl ?_
  refine Wk.rP 7 6 (.bool true) rfl rfl ?_
  refine Wk.rEnd 8 rfl (Wk.nxt (wp_ret ?_))
  have kk19 := Wk.Chg.step kk18 ch14 trivial
  refine Wk.ret (.bool true) rfl (by kernel_rfl) ?_
  exact ⟨rfl, Wk.Chg.below0 kk19⟩
 rw [decide_eq_false (hsa1 : ¬ (S1 = U))]
 rintro _ W10 ⟨rfl, ch8⟩
 have zz20 := ch8.size
 refine ⟨_, rfl, ?_⟩
 refine Wk.rP 4 68 (.bool false) rfl rfl ?_
 refine Wk.rPass 5 (some 69) rfl rfl (by kernel_rfl) ?_
 refine Wk.rPass 6 (some 70) rfl rfl (by kernel_rfl) ?_
 refine Wk.rPass 7 (some 71) rfl rfl (by kernel_rfl) ?_
 refine Wk.rPass 8 (some 72) rfl rfl (by kernel_rfl) ?_
 refine Wk.rP 9 73 (.bool false) rfl rfl ?_
 refine Wk.rEnd 10 rfl (Wk.nxt (wp_cond_false (by kernel_rfl) (wp_skip (Wk.nxt (wp_seq (Wk.reg ?_))))))
 refine Wk.rC 0 75 20 [] #[] [] rfl rfl rfl ?_
 refine (Hnew_any W10).mono ?_
 rintro _ W17 ⟨qh2, hc, kc, Hh, Hk, rfl, hqh2, hqz2, ch15⟩
 have zz21 := ch15.size
 have hcs := hc_size Hh.out
 have kcs := kc_size Hk.out
 refine ⟨_, rfl, ?_⟩
 refine Wk.rP 1 76 (.slice DA1 dn1 dc1) rfl rfl ?_
 refine Wk.rP 2 77 (.slice DA2 dn2 dc2) rfl rfl ?_
 refine Wk.rC 3 78 35 [.tmp 75, .tmp 76, .tmp 77, .const (.slice none 0 0)] #[41, 50, 50, 38] [.pointer (some ⟨qh2, 0, none⟩), .slice DA1 dn1 dc1, .slice DA2 dn2 dc2, .slice none 0 0] rfl rfl rfl ?_
 have hbP_ : Mur.BadP [] Z1 Z2 := Mur.shown_of hall1 (fun h_ => hsa1 (by first | exact h_.1 | exact h_.2))
 refine (Shown_any hc kc Hh Hk qh2 DA1 dn1 dc1 Z1 DA2 dn2 dc2 Z2 (by omega) (by omega) 8 [] none 0 0 W17 rfl rfl hqh2 (Mur.SlA.chg (Mur.SlA.chg (Mur.SlA.chg hdo3 ch7 (fun g off e hl => trivial)) ch8 (fun g off e hl => trivial)) ch15 (fun g off e hl => trivial)) (Mur.SlA.chg (Mur.SlA.chg (Mur.SlA.chg hdo4 ch7 (fun g off e hl => trivial)) ch8 (fun g off e hl => trivial)) ch15 (fun g off e hl => trivial)) (Byt.nil _ none) (fun _ => rfl)).mono ?_
 rintro _ W18 ⟨rs2, rfl, hrs2, ch16⟩
 obtain rfl : rs2 = true := hrs2 hbP_
 have zz22 := ch16.size
 refine ⟨_, rfl, ?_⟩
 refine Wk.rP 4 79 (.bool true) rfl rfl ?_
 refine Wk.rC 5 80 32 [] #[] [] rfl rfl rfl ?_
 have kk20 := Wk.Chg.step hB1 ch6 (Mur.newOr_iff.2 (fun t ht => .inr (by have := hmF1 t ht; omega)))
 have kk21 := Wk.Chg.step kk20 ch7 trivial
 have kk22 := Wk.Chg.step kk21 ch8 trivial
 have kk23 := Wk.Chg.step kk22 ch15 trivial
 have kk24 := Wk.Chg.step kk23 ch16 trivial
 refine (known21_any W18 (HV.out.below (Wk.Chg.below0 kk24))).mono ?_
 rintro _ W19 ⟨rfl, ch17⟩
 have zz23 := ch17.size
 refine ⟨_, rfl, ?_⟩
 refine Wk.rP 6 81 (.bool true) rfl rfl ?_
 refine Wk.rP 7 6 (.bool true) rfl rfl ?_
 refine Wk.rEnd 8 rfl (Wk.nxt (wp_ret ?_))
 have kk25 := Wk.Chg.step kk24 ch17 trivial
 refine Wk.ret (.bool true) rfl (by kernel_rfl) ?_
 exact ⟨rfl, Wk.Chg.below0 kk25⟩
end Go.Proofs.YtfhneademopciaaDoor
