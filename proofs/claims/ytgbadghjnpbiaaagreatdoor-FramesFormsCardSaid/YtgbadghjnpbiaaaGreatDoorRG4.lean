/- What the row rests on, part 4. -/
import Derived.Laws.Tables
import Derived.Test.YtgbadghjnpbiaaaGreatDoorProg
import Derived.Test.YtgbadghjnpbiaaaGreatDoorRG3
import Derived.Test.YtgbadghjnpbiaaaGreatDoorRG2
namespace Go.Proofs.YtgbadghjnpbiaaaGreatDoor
open Go.RowKit
def L5 (w : World) (a b : List Nat) (wr : World) : Prop :=
 Below w.heap.size w wr ∧ w.heap.size + 2 ≤ wr.heap.size ∧ wr.heap[w.heap.size]? = some (.cells (n64s a) 143 (0, 0)) ∧ wr.heap[w.heap.size + 1]? = some (.cells (n64s b) 143 (0, 0))
theorem L5.drewN {w wr : World} {a b : List Nat} (h : L5 w a b wr) (n : Nat) : L5 w a b (wr.drewN n) := ⟨Mur.below_drewN h.1 n, h.2.1, h.2.2.1, h.2.2.2⟩
set_option maxRecDepth 100000
theorem above_any (a b : List Nat) (w : World) (ha : a.length = 10) (hb : b.length = 10) (ha' : ∀ x ∈ a, x < 65536) (hb' : ∀ x ∈ b, x < 65536) :
  Calls Tryz.prog 105 #[.agg (n64s a), .agg (n64s b)] w fun e w' => e = .returned (.bool (decide (Mur.val b < Mur.val a))) ∧ Below w.heap.size w w' := by
 have HA := Go.Lib.hid ha; clear ha
 have HB := Go.Lib.hid hb; clear hb
 have HA' := Go.Lib.hid ha'; clear ha'
 have HB' := Go.Lib.hid hb'; clear hb'
 go_enter Tryz.func105, Tryz.ntmps105
 go_wp2
 go_loopw [5] (fun v wr => ∃ (k : Nat) (iv : Int), k ≤ 10 ∧ v = .int .i64 iv ∧ Hid (iv = (k : Int) - 1) ∧ Hid (a.drop k = b.drop k) ∧ L5 w a b wr) (fun v _ => (intOf v + 1).toNat)
 case atStart =>
  refine ⟨10, 9, by omega, rfl, Go.Lib.hid (by omega), Go.Lib.hid ?_, ((Below.refl _ _).alloc (Nat.le_refl _) _).alloc (by simp) _, by simp, ?_, ?_⟩
  ·rw [List.drop_of_length_le (by rw [HA.out]; exact Nat.le_refl _), List.drop_of_length_le (by rw [HB.out]; exact Nat.le_refl _)]
  ·exact Mur.hp_old (Mur.hp_a1 _ _) _
  ·exact Mur.hp_a2 _ _ _
 case round =>
  obtain ⟨k, iv, hk, rfl, hiv, hd, HL⟩ := hrel
  rcases Nat.eq_zero_or_pos k with h0 | h0
  ·have hn : iv < 0 := by have := hiv.out; omega
   have hf : Hid (decide (Mur.val b < Mur.val a) = false) := Go.Lib.hid (by
    have := hd.out
    rw [h0, List.drop_zero, List.drop_zero] at this
    simp [this])
   clear h0
   go_wp2
   go_ret
   exact ⟨ret_bool hf.out.symm, HL.1⟩
  ·obtain ⟨m, rfl⟩ : ∃ m, k = m + 1 := ⟨k - 1, by omega⟩
   obtain rfl : iv = (m : Int) := by have := hiv.out; omega
   have ca := cell_n64s (i := m) HL.2.2.1 (by rw [HA.out]; omega)
   have cb := cell_n64s (i := m) HL.2.2.2 (by rw [HB.out]; omega)
   obtain ⟨x, hx⟩ : ∃ x, a.getD m 0 = x := ⟨_, rfl⟩
   obtain ⟨y, hy⟩ : ∃ y, b.getD m 0 = y := ⟨_, rfl⟩
   rw [hx] at ca
   rw [hy] at cb
   have HX := Go.Lib.hid hx; clear hx
   have HY := Go.Lib.hid hy; clear hy
   by_cases e : x = y
   ·have e' : ((x : Int) != (y : Int)) = false := by rw [bne_eq_false_iff_eq]; omega
    have E := Go.Lib.hid e; clear e
    go_wp2
    go_quiet (fail)
    go_wp2
    refine ⟨⟨m, (m : Int) - 1, by omega, by go_num, Go.Lib.hid rfl, Go.Lib.hid ?_, HL.drewN _⟩, by simp [intOf]⟩
    exact Mur.drop_step a b m (by rw [HA.out]; omega) (by rw [HA.out, HB.out]) hd.out (by rw [HX.out, HY.out]; exact E.out)
   ·have e' : ((x : Int) != (y : Int)) = true := by rw [bne_iff_ne]; omega
    have hres : Hid (decide (Mur.val b < Mur.val a) = decide (y < x)) := Go.Lib.hid (by
     rw [decide_eq_decide]
     have hla : a.length = b.length := by rw [HA.out, HB.out]
     constructor
     ·intro h
      rcases Nat.lt_or_ge y x with h' | h'
      ·omega
      ·have := Mur.val_gt b a m hla.symm (by rw [HB.out]; omega) HA'.out hd.out.symm (by rw [HX.out, HY.out]; omega)
       omega
     ·intro h
      exact Mur.val_gt a b m hla (by rw [HA.out]; omega) HB'.out hd.out (by rw [HX.out, HY.out]; omega))
    clear e
    go_wp2
    go_quiet (fail)
    go_wp2
    go_quiet (fail)
    go_wp2
    go_ret
    exact ⟨ret_bool (by rw [hres.out]), ((HL.drewN _).drewN _).1⟩
/-! times -/
def Dig (l : List Nat) : Prop := l.length = 10 ∧ ∀ x ∈ l, x < 65536
theorem Dig.set {l : List Nat} (h : Dig l) (k x : Nat) (hx : x < 65536) : Dig (l.set k x) :=
 ⟨by rw [List.length_set]; exact h.1, fun y hy => by
  rcases List.mem_or_eq_of_mem_set hy with h1 | h1
  ·exact h.2 y h1
  ·rw [h1]; exact hx⟩
def L6 (w : World) (a b o : List Nat) (wr : World) : Prop :=
 Below w.heap.size w wr ∧ w.heap.size + 4 ≤ wr.heap.size ∧ wr.heap[w.heap.size]? = some (.cells (n64s a) 143 (0, 0)) ∧ wr.heap[w.heap.size + 1]? = some (.cells (n64s b) 143 (0, 0)) ∧
 wr.heap[w.heap.size + 1 + 1]? = some (.cells (n64s (List.replicate 10 0)) 143 (0, 0)) ∧ wr.heap[w.heap.size + 1 + 1 + 1]? = some (.cells (n64s o) 143 (0, 0))
theorem L6.drewN {w wr : World} {a b o : List Nat} (h : L6 w a b o wr) (n : Nat) : L6 w a b o (wr.drewN n) := ⟨Mur.below_drewN h.1 n, h.2.1, h.2.2.1, h.2.2.2.1, h.2.2.2.2.1, h.2.2.2.2.2⟩
theorem L6.set {w wr : World} {a b o : List Nat} (h : L6 w a b o wr) (k x : Nat) : L6 w a b (o.set k x) (wr.setCell ⟨w.heap.size + 1 + 1 + 1, k, none⟩ (.int .u64 (x : Int))) :=
 ⟨h.1.setCell (by simp; omega) _, by simpa using h.2.1, Mur.hp_set_ne h.2.2.1 _ _ _ (by omega), Mur.hp_set_ne h.2.2.2.1 _ _ _ (by omega), Mur.hp_set_ne h.2.2.2.2.1 _ _ _ (by omega), set_n64s h.2.2.2.2.2 x⟩
theorem hp_a4 (w : World) (A B C D : Obj) : ((((w.alloc A).alloc B).alloc C).alloc D).heap[w.heap.size + 1 + 1 + 1]? = some D := by
 have h := Mur.hp_a3 (w.alloc A) B C D
 rwa [World.size_alloc] at h
theorem inner_step {a b o : List Nat} {i k V0 carry x : Nat} (ho : o.length = 10) (hb : b.length = 10) (hik : i + k < 10) (hx : x = o.getD (i + k) 0 + a.getD i 0 * b.getD k 0 + carry)
  (h : Mur.val o + carry * 65536 ^ (i + k) = V0 + a.getD i 0 * Mur.val (b.take k) * 65536 ^ i) :
  Mur.val (o.set (i + k) (x % 65536)) + x / 65536 * 65536 ^ (i + (k + 1)) = V0 + a.getD i 0 * Mur.val (b.take (k + 1)) * 65536 ^ i := by
 have h1 := Mur.times_step o (i + k) x carry (a.getD i 0 * b.getD k 0) (by omega) hx
 rw [show i + (k + 1) = i + k + 1 by omega, h1, h, Mur.val_take_succ b k (by omega), Nat.mul_add, Nat.add_mul, Nat.pow_add]
 have e : a.getD i 0 * b.getD k 0 * (65536 ^ i * 65536 ^ k) = a.getD i 0 * (b.getD k 0 * 65536 ^ k) * 65536 ^ i := by
  simp only [Nat.mul_assoc, Nat.mul_comm (65536 ^ i)]
 omega
theorem outer_step {a b : List Nat} {i V0 v : Nat} (ha : a.length = 10) (hi : i < 10) (h0 : V0 % 65536 ^ 10 = (Mur.val (a.take i) * Mur.val b) % 65536 ^ 10)
  (h : v % 65536 ^ 10 = (V0 + a.getD i 0 * Mur.val b * 65536 ^ i) % 65536 ^ 10) : v % 65536 ^ 10 = (Mur.val (a.take (i + 1)) * Mur.val b) % 65536 ^ 10 := by
 rw [h, Mur.val_take_succ a i (by omega), Nat.add_mul, Nat.add_mod, h0, ← Nat.add_mod]
 congr 2
 simp only [Nat.mul_assoc, Nat.mul_comm (65536 ^ i)]
set_option maxHeartbeats 1000000
theorem times_any (a b : List Nat) (w : World) (ha : Dig a) (hb : Dig b) :
  Calls Tryz.prog 104 #[.agg (n64s a), .agg (n64s b)] w
   fun e w' => ∃ l, Hid (Mur.val l % 65536 ^ 10 = Mur.val a * Mur.val b % 65536 ^ 10) ∧ Dig l ∧ e = .returned (.agg (n64s l)) ∧ Below w.heap.size w w' := by
 have HA := Go.Lib.hid ha; clear ha
 have HB := Go.Lib.hid hb; clear hb
 go_enter Tryz.func104, Tryz.ntmps104
 go_wp2
 go_loopw [6] (fun v wr => ∃ (i : Nat) (o : List Nat), i ≤ 10 ∧ v = .int .i64 i ∧ Hid (Dig o) ∧ Hid (Mur.val o % 65536 ^ 10 = Mur.val (a.take i) * Mur.val b % 65536 ^ 10) ∧ L6 w a b o wr) (fun v _ => 10 - (intOf v).toNat)
 case atStart =>
  refine ⟨0, List.replicate 10 0, by omega, rfl, Go.Lib.hid ⟨rfl, by decide⟩, Go.Lib.hid ?_, (((Below.refl _ _).alloc (Nat.le_refl _) _).alloc (by simp) _).alloc (by simp; omega) _ |>.alloc (by simp; omega) _, by simp, ?_, ?_, ?_, ?_⟩
  ·rw [List.take_zero]; simp [Mur.val]
  ·exact Mur.hp_old (Mur.hp_old (Mur.hp_old (Mur.hp_a1 _ _) _) _) _
  ·exact Mur.hp_old (Mur.hp_old (Mur.hp_a2 _ _ _) _) _
  ·exact Mur.hp_old ((Mur.hp_a3 _ _ _ _).trans rfl) _
  ·exact (hp_a4 _ _ _ _ _).trans rfl
 case round =>
  obtain ⟨i, o, hi, rfl, hdo, hval, HL⟩ := hrel
  by_cases hlt : i < 10
  ·go_wp2
   go_loopw [7, 8] (fun cv kv wq => ∃ (k c : Nat) (q : List Nat), i + k ≤ 10 ∧ kv = .int .i64 k ∧ cv = .int .u64 (c : Int) ∧ c < 65536 ∧ Hid (Dig q) ∧ Hid (Mur.val q + c * 65536 ^ (i + k) = Mur.val o + a.getD i 0 * Mur.val (b.take k) * 65536 ^ i) ∧ L6 w a b q wq) (fun _ kv _ => 10 - i - (intOf kv).toNat)
   case atStart => exact ⟨0, 0, o, by omega, rfl, rfl, by omega, hdo, Go.Lib.hid (by simp [Mur.val]), HL⟩
   case round =>
    clear HL
    obtain ⟨k, c, q, hik, rfl, rfl, hc, hdq, hinv, HL⟩ := hrel
    by_cases hlt2 : i + k < 10
    ·have co := cell_n64s (i := i + k) HL.2.2.2.2.2 (by rw [hdq.out.1]; omega)
     have fo := Mur.free_row (i := i + k) HL.2.2.2.2.2
     have ca := cell_n64s (i := i) HL.2.2.1 (by rw [HA.out.1]; omega)
     have cb := cell_n64s (i := k) HL.2.2.2.1 (by rw [HB.out.1]; omega)
     have lo := getD_lt (by omega) hdq.out.2 (i + k)
     have la := getD_lt (by omega) HA.out.2 i
     have lb := getD_lt (by omega) HB.out.2 k
     obtain ⟨xo, ho⟩ : ∃ x, q.getD (i + k) 0 = x := ⟨_, rfl⟩
     obtain ⟨xa, hxa⟩ : ∃ x, a.getD i 0 = x := ⟨_, rfl⟩
     obtain ⟨xb, hxb⟩ : ∃ x, b.getD k 0 = x := ⟨_, rfl⟩
     rw [ho] at co lo
     rw [hxa] at ca la
     rw [hxb] at cb lb
     have HXO := Go.Lib.hid ho; clear ho
     have HXA := Go.Lib.hid hxa; clear hxa
     have HXB := Go.Lib.hid hxb; clear hxb
     have b0 : 0 ≤ (xa : Int) * (xb : Int) := Int.mul_nonneg (by omega) (by omega)
     have b1 : (xa : Int) * (xb : Int) ≤ 4294836225 := by
      have : xa * xb ≤ 65535 * 65535 := Nat.mul_le_mul (by omega) (by omega)
      have h : ((xa * xb : Nat) : Int) ≤ 4294836225 := by omega
      rwa [Int.natCast_mul] at h
     obtain ⟨X, HX⟩ : ∃ X : Nat, Hid ((X : Int) = (xo : Int) + (xa : Int) * (xb : Int) + (c : Int)) := ⟨xo + xa * xb + c, Go.Lib.hid (by rw [Int.natCast_add, Int.natCast_add, Int.natCast_mul])⟩
     have HXn : Hid (X = q.getD (i + k) 0 + a.getD i 0 * b.getD k 0 + c) := Go.Lib.hid (by
      have := HX.out
      rw [HXO.out, HXA.out, HXB.out]
      have h2 : ((xa * xb : Nat) : Int) = (xa : Int) * (xb : Int) := Int.natCast_mul _ _
      omega)
     have hXl : Hid (X < 4295032833) := Go.Lib.hid (by have := HX.out; omega)
     have hXr : (xo : Int) + (xa : Int) * (xb : Int) + (c : Int) = (X : Int) := HX.out.symm
     go_wp2
     go_quiet (fail)
     go_wp2
     refine ⟨⟨k + 1, X / 65536, q.set (i + k) (X % 65536), by omega, by go_num, by go_num, by have := hXl.out; omega, Go.Lib.hid (hdq.out.set _ _ (Nat.mod_lt _ (by omega))), Go.Lib.hid (inner_step hdq.out.1 HB.out.1 hlt2 HXn.out hinv.out), (HL.drewN _).set _ _⟩, by simp [intOf]; omega⟩
    ·obtain rfl : k = 10 - i := by omega
     have hrow : Hid (Mur.val q % 65536 ^ 10 = Mur.val (a.take (i + 1)) * Mur.val b % 65536 ^ 10) := Go.Lib.hid (by
      have h := hinv.out
      rw [show i + (10 - i) = 10 by omega] at h
      exact outer_step HA.out.1 hlt hval.out (Mur.times_row q a b i _ c (by omega) h))
     clear hinv hval
     go_wp2
     refine ⟨⟨i + 1, q, by omega, by go_num, hdq, hrow, HL⟩, by simp [intOf]; omega⟩
  ·obtain rfl : i = 10 := by omega
   have hres : Hid (Mur.val o % 65536 ^ 10 = Mur.val a * Mur.val b % 65536 ^ 10) := Go.Lib.hid (by
    have := hval.out
    rwa [List.take_of_length_le (by rw [HA.out.1]; exact Nat.le_refl _)] at this)
   clear hval
   have hz : Hid ((n64s o).size = 10) := Go.Lib.hid (by rw [n64s_size, hdo.out.1])
   go_wp2_with (first
    | (refine wpList_load_row rfl 143 (.tmp 5) rfl (w.heap.size + 1 + 1 + 1) rfl 143 (n64s o) (0, 0) _ HL.2.2.2.2.2 Tryz.underlying143 rfl (by rw [hz.out]; kernel_rfl) ?_)
    | (refine wpList_store_row rfl 143 (.tmp 4) (.tmp 43) rfl (w.heap.size + 1 + 1) (n64s o) rfl rfl 143 (n64s (List.replicate 10 0)) HL.2.2.2.2.1 (by rw [hz.out]; kernel_rfl) (by rw [hz.out]; rfl) (n64s_all _) ?_))
   refine bodyPost_ret (v := .agg (n64s o)) (results_cell_row rfl _ _ (w.heap.size + 1 + 1) 143 (n64s o) (0, 0) _ rfl (setRow_heap _ _ _ _ _ _ HL.2.2.2.2.1) Tryz.underlying143 rfl (by rw [hz.out]; kernel_rfl)) rfl ⟨o, hres, hdo.out, rfl, below_setRow HL.1 (by omega) _⟩
end Go.Proofs.YtgbadghjnpbiaaaGreatDoor
namespace Go.Proofs.YtgbadghjnpbiaaaGreatDoor
open Go.RowKit
theorem pow_lt3 {n power : Nat} (hn : n < 274877906944) (hp : power = 2 ∨ power = 3) : n ^ power < 65536 ^ 10 := by
 have h2 : n * n ≤ 274877906943 * 274877906943 := Nat.mul_le_mul (by omega) (by omega)
 rcases hp with rfl | rfl
 ·rw [Nat.pow_two]; omega
 ·rw [Nat.pow_succ, Nat.pow_two]
  have h3 : n * n * n ≤ 274877906943 * 274877906943 * 274877906943 := Nat.mul_le_mul h2 (by omega)
  omega
theorem val_zeros (c : Nat) : Mur.val (List.replicate c 0) = 0 := by
 induction c with
 | zero => rfl
 | succ c ih => rw [List.replicate_succ, Mur.val, ih]
def mostL (p power : Nat) : List Nat := (List.replicate 10 0).set (2 * power) p
theorem mostL_dig {p power : Nat} (hp : p < 65536) : Dig (mostL p power) := Dig.set ⟨rfl, by decide⟩ _ _ hp
theorem mostL_val {p power : Nat} (hp : power = 2 ∨ power = 3) : Mur.val (mostL p power) = p * 65536 ^ (2 * power) := by
 have h := Mur.val_set (List.replicate 10 0) (2 * power) p (by rw [List.length_replicate]; omega)
 have h0 : (List.replicate 10 0).getD (2 * power) 0 = 0 := by rcases hp with rfl | rfl <;> rfl
 rw [h0, val_zeros] at h
 unfold mostL
 omega
def R7 (w : World) (ml dl : List Nat) (D : Nat) (yl : List Nat) (Y : Nat) (wq : World) : Prop :=
 Below w.heap.size w wq ∧ wq.heap[w.heap.size]? = some (.cells (n64s ml) 143 (0, 0)) ∧ wq.heap[D]? = some (.cells (n64s dl) 143 (0, 0)) ∧ wq.heap[Y]? = some (.cells (n64s yl) 143 (0, 0)) ∧ w.heap.size < wq.heap.size
set_option maxRecDepth 100000
set_option maxHeartbeats 1000000
theorem root_2 (p : Nat) (w : World) (hp : p ≤ 400) :
  Calls Tryz.prog 90 #[.int .i64 (p : Int), .int .i64 2] w
   fun e w' => e = .returned (.int .u32 ((Mur.rootN p 2 : Nat) : Int)) ∧ Below w.heap.size w w' := by
 have hmd : Hid (Dig (mostL p 2)) := mostL_dig (by omega)
 have hmv : Hid (Mur.val (mostL p 2) = p * 65536 ^ (2 * 2)) := mostL_val (by decide)
 go_enter Tryz.func90, Tryz.ntmps90
 go_wp2
 obtain ⟨ml, hml⟩ : ∃ ml, Hid (ml = mostL p 2) := ⟨_, rfl⟩
 rw [← hml.out] at hmd hmv
 go_loopw [6, 7] (fun xv bv wr => ∃ m X bt : Nat, m ≤ 38 ∧ xv = .int .u64 (X : Int) ∧ bv = .int .u64 (bt : Int) ∧ Hid (bt = 2 ^ m / 2) ∧ bt ≤ 137438953472 ∧ X < 274877906944 ∧ Hid (X + 2 ^ m ≤ 274877906944) ∧ Hid (Mur.rootFrom p 2 m X = Mur.rootFrom p 2 38 0) ∧
   Below w.heap.size w wr ∧ w.heap.size < wr.heap.size ∧ wr.heap[w.heap.size]? = some (.cells (n64s ml) 143 (0, 0))) (fun _ bv _ => (intOf bv).toNat)
 case atStart =>
  refine ⟨38, 0, 137438953472, by omega, rfl, rfl, Go.Lib.hid (by decide), by omega, by omega, Go.Lib.hid (by decide), rfl, (Below.refl _ _).alloc (Nat.le_refl _) _, by simp, ?_⟩
  rw [hml.out]
  exact (Mur.hp_a1 _ _).trans rfl
 case round =>
  obtain ⟨m, X, bt, hm, rfl, rfl, hbt, hbl, hX, hXm, hroot, hB, hsz, hml0⟩ := hrel
  by_cases h0 : bt = 0
  ·have hm0 : Hid (m = 0) := Go.Lib.hid (by
    rcases Nat.eq_zero_or_pos m with h | h
    ·exact h
    ·have h1 := hbt.out
     have h2 : 2 ^ m = 2 ^ (m - 1) * 2 := by rw [← Nat.pow_succ]; congr 1; omega
     have h3 : 0 < 2 ^ (m - 1) := Nat.pow_pos (by omega)
     omega)
   have hres : Hid (X % 4294967296 = Mur.rootN p 2) := Go.Lib.hid (by
    have h := hroot.out
    rw [hm0.out] at h
    rw [Mur.rootN, ← h]
    rfl)
   subst h0
   go_wp2
   go_ret
   exact ⟨by rw [← hres.out]; rfl, hB⟩
  ·obtain ⟨q, rfl⟩ : ∃ q, m = q + 1 := ⟨m - 1, by
    have h1 := hbt.out
    rcases Nat.eq_zero_or_pos m with h | h
    ·subst h; simp at h1; omega
    ·omega⟩
   have hb2 : Hid (bt = 2 ^ q) := Go.Lib.hid (by rw [hbt.out, Nat.pow_succ]; omega)
   obtain ⟨N, hN⟩ : ∃ N, N = X + bt := ⟨_, rfl⟩
   have hNb : N < 274877906945 ∧ N ≤ 274877906944 - bt := by have := hXm.out; rw [Nat.pow_succ, ← hb2.out] at this; omega
   obtain ⟨hN1, hN2⟩ := hNb
   have hNe : (X : Int) + (bt : Int) = (N : Int) := by omega
   have HN := Go.Lib.hid hN; clear hN
   go_wp2_with (first
    | (go_at_call 103; refine (digits_any N wr (by omega)).mono ?_; rintro e w2 ⟨dl, hdl, hdl10, hdl6, rfl, hB2⟩; have hDl := Go.Lib.hid (And.intro hdl10 hdl6); clear hdl10 hdl6; have hDz := Go.Lib.hid ((n64s_size dl).trans hDl.out.1))
    | (refine Mur.wpList_put rfl 143 (.tmp 8) (.tmp 23) rfl w2.heap.size (n64s dl) rfl rfl 143 (n64s (List.replicate 10 0)) (Mur.hp_a1 _ _) (by rw [hDz.out]; kernel_rfl) (by rw [hDz.out]; rfl) (n64s_all _) ?_; intro w3 hp3 hw3; have hp3' := Go.Lib.hid hp3; clear hp3; have hz3 := hw3.size; rw [World.size_alloc] at hz3; have hZ3 := Go.Lib.hid hz3; clear hz3)
    | (refine wpList_load_row rfl 143 (.tmp 8) rfl w2.heap.size rfl 143 (n64s dl) (0, 0) _ hp3'.out Tryz.underlying143 rfl (by rw [hDz.out]; kernel_rfl) ?_)
    | (refine Mur.wpList_put rfl 143 (.tmp 9) (.tmp 24) rfl w3.heap.size (n64s dl) rfl rfl 143 (n64s (List.replicate 10 0)) (Mur.hp_a1 _ _) (by rw [hDz.out]; kernel_rfl) (by rw [hDz.out]; rfl) (n64s_all _) ?_; intro w4 hp4 hw4; have hp4' := Go.Lib.hid hp4; clear hp4; have hz4 := hw4.size; rw [World.size_alloc] at hz4; have hZ4 := Go.Lib.hid hz4; clear hz4))
   have hR : R7 w ml dl w2.heap.size dl w3.heap.size w4 := by
    have e3 := hZ3.out
    have e4 := hZ4.out
    have s2 := hB2.size
    refine ⟨?_, ?_, ?_, hp4'.out, by omega⟩
    ·refine (((hB.trans (hB2.mono (by omega))).alloc (by omega) _).trans (hw3.below (by omega))).alloc (by omega) _ |>.trans (hw4.below (by omega))
    ·exact hw4.hp (by omega) (Mur.hp_old (hw3.hp (by omega) (Mur.hp_old (Mur.hp_below hB2 hml0) _)) _)
    ·exact hw4.hp (by omega) (Mur.hp_old hp3'.out _)
   have hord : w.heap.size < w2.heap.size ∧ w2.heap.size < w3.heap.size := by have := hZ3.out; have := hB2.size; omega
   obtain ⟨hord1, hord2⟩ := hord
   obtain ⟨D, hD⟩ : ∃ D, D = w2.heap.size := ⟨_, rfl⟩
   obtain ⟨Y, hY⟩ : ∃ Y, Y = w3.heap.size := ⟨_, rfl⟩
   rw [← hD, ← hY] at hR
   rw [← hD] at hord1
   rw [← hD, ← hY] at hord2
   rw [← hD, ← hY]
   clear hD hY hp3' hp4' hZ3 hZ4 hw3 hw4 hB2 hml0 hsz hB
   go_loopw [10] (fun t wq => ∃ (k : Nat) (yl : List Nat), 1 ≤ k ∧ k ≤ 2 ∧ t = .int .i64 k ∧ Hid (Dig yl) ∧ Hid (Mur.val yl % 65536 ^ 10 = N ^ k % 65536 ^ 10) ∧ R7 w ml dl D yl Y wq) (fun t _ => 2 - (intOf t).toNat)
   case atStart =>
    refine ⟨1, dl, by omega, by omega, rfl, hDl, Go.Lib.hid ?_, hR⟩
    rw [hdl.out, Mur.val_dgs, Nat.pow_one, Nat.mod_mod]
   case round =>
    clear hR
    obtain ⟨k, yl, hk1, hk, rfl, hyd, hyv, hR⟩ := hrel
    have hyz : Hid ((n64s yl).size = 10) := Go.Lib.hid (by rw [n64s_size, hyd.out.1])
    by_cases hlt : k < 2
    ·go_wp2_with (first
      | (refine wpList_load_row rfl 143 (.tmp 9) rfl Y rfl 143 (n64s yl) (0, 0) _ hR.2.2.2.1 Tryz.underlying143 rfl (by rw [hyz.out]; kernel_rfl) ?_)
      | (refine wpList_load_row rfl 143 (.tmp 8) rfl D rfl 143 (n64s dl) (0, 0) _ hR.2.2.1 Tryz.underlying143 rfl (by rw [hDz.out]; kernel_rfl) ?_)
      | (go_at_call 104; refine (times_any yl dl wr hyd.out hDl.out).mono ?_; rintro e w5 ⟨l, hlv, hld, rfl, hB5⟩; have hLd := Go.Lib.hid hld; clear hld; have hLz := Go.Lib.hid ((n64s_size l).trans hLd.out.1))
      | (refine Mur.wpList_put rfl 143 (.tmp 9) (.tmp 32) rfl Y (n64s l) rfl rfl 143 (n64s yl) (Mur.hp_below hB5 hR.2.2.2.1) (by rw [hLz.out]; kernel_rfl) (by rw [hLz.out, hyz.out]) (n64s_all _) ?_; intro w6 hp6 hw6; have hp6' := Go.Lib.hid hp6; clear hp6))
     refine ⟨⟨k + 1, l, by omega, by omega, by go_num, hLd, Go.Lib.hid ?_, ?_⟩, by simp [intOf]; omega⟩
     ·have hdv : Mur.val dl = N % 65536 ^ 10 := by rw [hdl.out, Mur.val_dgs]
      rw [hlv.out, hdv, Nat.mul_mod, hyv.out, Nat.mod_mod, Nat.pow_succ]
      exact (Nat.mul_mod _ _ _).symm
     ·have hs := hR.2.2.2.2
      have s5 := hB5.size
      exact ⟨(hR.1.trans (hB5.mono (by omega))).trans (hw6.below (by omega)), hw6.hp (by omega) (Mur.hp_below hB5 hR.2.1), hw6.hp (by omega) (Mur.hp_below hB5 hR.2.2.1), hp6'.out, by rw [hw6.size]; omega⟩
    ·obtain rfl : k = 2 := by omega
     have hval : Hid (Mur.val yl = N ^ 2) := Go.Lib.hid (by
      have h1 := hyv.out
      have h2 := Mur.val_lt yl hyd.out.2
      rw [hyd.out.1] at h2
      rwa [Nat.mod_eq_of_lt h2, Nat.mod_eq_of_lt (pow_lt3 (by omega) (by decide))] at h1)
     by_cases hc : Mur.val ml < Mur.val yl
     ·have hT : decide (Mur.val ml < Mur.val yl) = true := by simpa using hc
      have hroot2 : Hid (Mur.rootFrom p 2 q X = Mur.rootFrom p 2 38 0) := Go.Lib.hid (by
       have h := hroot.out
       rw [hval.out, hmv.out, HN.out, hb2.out] at hc
       rw [← h, Mur.rootFrom, Mur.force_eq, if_neg (by omega)])
      clear hc
      go_wp2_with (first
       | (refine wpList_load_row rfl 143 (.tmp 9) rfl Y rfl 143 (n64s yl) (0, 0) _ hR.2.2.2.1 Tryz.underlying143 rfl (by rw [hyz.out]; kernel_rfl) ?_)
       | (refine wpList_load_row rfl 143 (.tmp 5) rfl w.heap.size rfl 143 (n64s ml) (0, 0) _ hR.2.1 Tryz.underlying143 rfl (by rw [n64s_size, hmd.out.1]; kernel_rfl) ?_)
       | (go_at_call 105; refine (above_any yl ml wr hyd.out.1 hmd.out.1 hyd.out.2 hmd.out.2).mono ?_; rintro e w7 ⟨rfl, hB7⟩))
      refine ⟨⟨q, X, bt / 2, by omega, rfl, by go_num, Go.Lib.hid (by rw [hb2.out]), by omega, by omega, Go.Lib.hid ?_, hroot2, ?_, ?_, ?_⟩, by simp [intOf]; omega⟩
      ·have := hXm.out; rw [Nat.pow_succ] at this; omega
      ·exact hR.1.trans (hB7.mono (by have := hR.2.2.2.2; omega))
      ·have := hR.2.2.2.2; have := hB7.size; omega
      ·exact Mur.hp_below hB7 hR.2.1
     ·have hT : decide (Mur.val ml < Mur.val yl) = false := by simpa using hc
      have hroot2 : Hid (Mur.rootFrom p 2 q N = Mur.rootFrom p 2 38 0) := Go.Lib.hid (by
       have h := hroot.out
       rw [hval.out, hmv.out, HN.out, hb2.out] at hc
       rw [← h, Mur.rootFrom, Mur.force_eq, if_pos (by omega), HN.out, hb2.out])
      clear hc
      go_wp2_with (first
       | (refine wpList_load_row rfl 143 (.tmp 9) rfl Y rfl 143 (n64s yl) (0, 0) _ hR.2.2.2.1 Tryz.underlying143 rfl (by rw [hyz.out]; kernel_rfl) ?_)
       | (refine wpList_load_row rfl 143 (.tmp 5) rfl w.heap.size rfl 143 (n64s ml) (0, 0) _ hR.2.1 Tryz.underlying143 rfl (by rw [n64s_size, hmd.out.1]; kernel_rfl) ?_)
       | (go_at_call 105; refine (above_any yl ml wr hyd.out.1 hmd.out.1 hyd.out.2 hmd.out.2).mono ?_; rintro e w7 ⟨rfl, hB7⟩))
      refine ⟨⟨q, N, bt / 2, by omega, by go_num, by go_num, Go.Lib.hid (by rw [hb2.out]), by omega, by omega, Go.Lib.hid ?_, hroot2, ?_, ?_, ?_⟩, by simp [intOf]; omega⟩
      ·have := hXm.out; rw [Nat.pow_succ] at this; have := HN.out; have := hb2.out; omega
      ·exact hR.1.trans (hB7.mono (by have := hR.2.2.2.2; omega))
      ·have := hR.2.2.2.2; have := hB7.size; omega
      ·exact Mur.hp_below hB7 hR.2.1
theorem root_3 (p : Nat) (w : World) (hp : p ≤ 400) :
  Calls Tryz.prog 90 #[.int .i64 (p : Int), .int .i64 3] w
   fun e w' => e = .returned (.int .u32 ((Mur.rootN p 3 : Nat) : Int)) ∧ Below w.heap.size w w' := by
 have hmd : Hid (Dig (mostL p 3)) := mostL_dig (by omega)
 have hmv : Hid (Mur.val (mostL p 3) = p * 65536 ^ (2 * 3)) := mostL_val (by decide)
 go_enter Tryz.func90, Tryz.ntmps90
 go_wp2
 obtain ⟨ml, hml⟩ : ∃ ml, Hid (ml = mostL p 3) := ⟨_, rfl⟩
 rw [← hml.out] at hmd hmv
 go_loopw [6, 7] (fun xv bv wr => ∃ m X bt : Nat, m ≤ 38 ∧ xv = .int .u64 (X : Int) ∧ bv = .int .u64 (bt : Int) ∧ Hid (bt = 2 ^ m / 2) ∧ bt ≤ 137438953472 ∧ X < 274877906944 ∧ Hid (X + 2 ^ m ≤ 274877906944) ∧ Hid (Mur.rootFrom p 3 m X = Mur.rootFrom p 3 38 0) ∧
   Below w.heap.size w wr ∧ w.heap.size < wr.heap.size ∧ wr.heap[w.heap.size]? = some (.cells (n64s ml) 143 (0, 0))) (fun _ bv _ => (intOf bv).toNat)
 case atStart =>
  refine ⟨38, 0, 137438953472, by omega, rfl, rfl, Go.Lib.hid (by decide), by omega, by omega, Go.Lib.hid (by decide), rfl, (Below.refl _ _).alloc (Nat.le_refl _) _, by simp, ?_⟩
  rw [hml.out]
  exact (Mur.hp_a1 _ _).trans rfl
 case round =>
  obtain ⟨m, X, bt, hm, rfl, rfl, hbt, hbl, hX, hXm, hroot, hB, hsz, hml0⟩ := hrel
  by_cases h0 : bt = 0
  ·have hm0 : Hid (m = 0) := Go.Lib.hid (by
    rcases Nat.eq_zero_or_pos m with h | h
    ·exact h
    ·have h1 := hbt.out
     have h2 : 2 ^ m = 2 ^ (m - 1) * 2 := by rw [← Nat.pow_succ]; congr 1; omega
     have h3 : 0 < 2 ^ (m - 1) := Nat.pow_pos (by omega)
     omega)
   have hres : Hid (X % 4294967296 = Mur.rootN p 3) := Go.Lib.hid (by
    have h := hroot.out
    rw [hm0.out] at h
    rw [Mur.rootN, ← h]
    rfl)
   subst h0
   go_wp2
   go_ret
   exact ⟨by rw [← hres.out]; rfl, hB⟩
  ·obtain ⟨q, rfl⟩ : ∃ q, m = q + 1 := ⟨m - 1, by
    have h1 := hbt.out
    rcases Nat.eq_zero_or_pos m with h | h
    ·subst h; simp at h1; omega
    ·omega⟩
   have hb2 : Hid (bt = 2 ^ q) := Go.Lib.hid (by rw [hbt.out, Nat.pow_succ]; omega)
   obtain ⟨N, hN⟩ : ∃ N, N = X + bt := ⟨_, rfl⟩
   have hNb : N < 274877906945 ∧ N ≤ 274877906944 - bt := by have := hXm.out; rw [Nat.pow_succ, ← hb2.out] at this; omega
   obtain ⟨hN1, hN2⟩ := hNb
   have hNe : (X : Int) + (bt : Int) = (N : Int) := by omega
   have HN := Go.Lib.hid hN; clear hN
   go_wp2_with (first
    | (go_at_call 103; refine (digits_any N wr (by omega)).mono ?_; rintro e w2 ⟨dl, hdl, hdl10, hdl6, rfl, hB2⟩; have hDl := Go.Lib.hid (And.intro hdl10 hdl6); clear hdl10 hdl6; have hDz := Go.Lib.hid ((n64s_size dl).trans hDl.out.1))
    | (refine Mur.wpList_put rfl 143 (.tmp 8) (.tmp 23) rfl w2.heap.size (n64s dl) rfl rfl 143 (n64s (List.replicate 10 0)) (Mur.hp_a1 _ _) (by rw [hDz.out]; kernel_rfl) (by rw [hDz.out]; rfl) (n64s_all _) ?_; intro w3 hp3 hw3; have hp3' := Go.Lib.hid hp3; clear hp3; have hz3 := hw3.size; rw [World.size_alloc] at hz3; have hZ3 := Go.Lib.hid hz3; clear hz3)
    | (refine wpList_load_row rfl 143 (.tmp 8) rfl w2.heap.size rfl 143 (n64s dl) (0, 0) _ hp3'.out Tryz.underlying143 rfl (by rw [hDz.out]; kernel_rfl) ?_)
    | (refine Mur.wpList_put rfl 143 (.tmp 9) (.tmp 24) rfl w3.heap.size (n64s dl) rfl rfl 143 (n64s (List.replicate 10 0)) (Mur.hp_a1 _ _) (by rw [hDz.out]; kernel_rfl) (by rw [hDz.out]; rfl) (n64s_all _) ?_; intro w4 hp4 hw4; have hp4' := Go.Lib.hid hp4; clear hp4; have hz4 := hw4.size; rw [World.size_alloc] at hz4; have hZ4 := Go.Lib.hid hz4; clear hz4))
   have hR : R7 w ml dl w2.heap.size dl w3.heap.size w4 := by
    have e3 := hZ3.out
    have e4 := hZ4.out
    have s2 := hB2.size
    refine ⟨?_, ?_, ?_, hp4'.out, by omega⟩
    ·refine (((hB.trans (hB2.mono (by omega))).alloc (by omega) _).trans (hw3.below (by omega))).alloc (by omega) _ |>.trans (hw4.below (by omega))
    ·exact hw4.hp (by omega) (Mur.hp_old (hw3.hp (by omega) (Mur.hp_old (Mur.hp_below hB2 hml0) _)) _)
    ·exact hw4.hp (by omega) (Mur.hp_old hp3'.out _)
   have hord : w.heap.size < w2.heap.size ∧ w2.heap.size < w3.heap.size := by have := hZ3.out; have := hB2.size; omega
   obtain ⟨hord1, hord2⟩ := hord
   obtain ⟨D, hD⟩ : ∃ D, D = w2.heap.size := ⟨_, rfl⟩
   obtain ⟨Y, hY⟩ : ∃ Y, Y = w3.heap.size := ⟨_, rfl⟩
   rw [← hD, ← hY] at hR
   rw [← hD] at hord1
   rw [← hD, ← hY] at hord2
   rw [← hD, ← hY]
   clear hD hY hp3' hp4' hZ3 hZ4 hw3 hw4 hB2 hml0 hsz hB
   go_loopw [10] (fun t wq => ∃ (k : Nat) (yl : List Nat), 1 ≤ k ∧ k ≤ 3 ∧ t = .int .i64 k ∧ Hid (Dig yl) ∧ Hid (Mur.val yl % 65536 ^ 10 = N ^ k % 65536 ^ 10) ∧ R7 w ml dl D yl Y wq) (fun t _ => 3 - (intOf t).toNat)
   case atStart =>
    refine ⟨1, dl, by omega, by omega, rfl, hDl, Go.Lib.hid ?_, hR⟩
    rw [hdl.out, Mur.val_dgs, Nat.pow_one, Nat.mod_mod]
   case round =>
    clear hR
    obtain ⟨k, yl, hk1, hk, rfl, hyd, hyv, hR⟩ := hrel
    have hyz : Hid ((n64s yl).size = 10) := Go.Lib.hid (by rw [n64s_size, hyd.out.1])
    by_cases hlt : k < 3
    ·go_wp2_with (first
      | (refine wpList_load_row rfl 143 (.tmp 9) rfl Y rfl 143 (n64s yl) (0, 0) _ hR.2.2.2.1 Tryz.underlying143 rfl (by rw [hyz.out]; kernel_rfl) ?_)
      | (refine wpList_load_row rfl 143 (.tmp 8) rfl D rfl 143 (n64s dl) (0, 0) _ hR.2.2.1 Tryz.underlying143 rfl (by rw [hDz.out]; kernel_rfl) ?_)
      | (go_at_call 104; refine (times_any yl dl wr hyd.out hDl.out).mono ?_; rintro e w5 ⟨l, hlv, hld, rfl, hB5⟩; have hLd := Go.Lib.hid hld; clear hld; have hLz := Go.Lib.hid ((n64s_size l).trans hLd.out.1))
      | (refine Mur.wpList_put rfl 143 (.tmp 9) (.tmp 32) rfl Y (n64s l) rfl rfl 143 (n64s yl) (Mur.hp_below hB5 hR.2.2.2.1) (by rw [hLz.out]; kernel_rfl) (by rw [hLz.out, hyz.out]) (n64s_all _) ?_; intro w6 hp6 hw6; have hp6' := Go.Lib.hid hp6; clear hp6))
     refine ⟨⟨k + 1, l, by omega, by omega, by go_num, hLd, Go.Lib.hid ?_, ?_⟩, by simp [intOf]; omega⟩
     ·have hdv : Mur.val dl = N % 65536 ^ 10 := by rw [hdl.out, Mur.val_dgs]
      rw [hlv.out, hdv, Nat.mul_mod, hyv.out, Nat.mod_mod, Nat.pow_succ]
      exact (Nat.mul_mod _ _ _).symm
     ·have hs := hR.2.2.2.2
      have s5 := hB5.size
      exact ⟨(hR.1.trans (hB5.mono (by omega))).trans (hw6.below (by omega)), hw6.hp (by omega) (Mur.hp_below hB5 hR.2.1), hw6.hp (by omega) (Mur.hp_below hB5 hR.2.2.1), hp6'.out, by rw [hw6.size]; omega⟩
    ·obtain rfl : k = 3 := by omega
     have hval : Hid (Mur.val yl = N ^ 3) := Go.Lib.hid (by
      have h1 := hyv.out
      have h2 := Mur.val_lt yl hyd.out.2
      rw [hyd.out.1] at h2
      rwa [Nat.mod_eq_of_lt h2, Nat.mod_eq_of_lt (pow_lt3 (by omega) (by decide))] at h1)
     by_cases hc : Mur.val ml < Mur.val yl
     ·have hT : decide (Mur.val ml < Mur.val yl) = true := by simpa using hc
      have hroot2 : Hid (Mur.rootFrom p 3 q X = Mur.rootFrom p 3 38 0) := Go.Lib.hid (by
       have h := hroot.out
       rw [hval.out, hmv.out, HN.out, hb2.out] at hc
       rw [← h, Mur.rootFrom, Mur.force_eq, if_neg (by omega)])
      clear hc
      go_wp2_with (first
       | (refine wpList_load_row rfl 143 (.tmp 9) rfl Y rfl 143 (n64s yl) (0, 0) _ hR.2.2.2.1 Tryz.underlying143 rfl (by rw [hyz.out]; kernel_rfl) ?_)
       | (refine wpList_load_row rfl 143 (.tmp 5) rfl w.heap.size rfl 143 (n64s ml) (0, 0) _ hR.2.1 Tryz.underlying143 rfl (by rw [n64s_size, hmd.out.1]; kernel_rfl) ?_)
       | (go_at_call 105; refine (above_any yl ml wr hyd.out.1 hmd.out.1 hyd.out.2 hmd.out.2).mono ?_; rintro e w7 ⟨rfl, hB7⟩))
      refine ⟨⟨q, X, bt / 2, by omega, rfl, by go_num, Go.Lib.hid (by rw [hb2.out]), by omega, by omega, Go.Lib.hid ?_, hroot2, ?_, ?_, ?_⟩, by simp [intOf]; omega⟩
      ·have := hXm.out; rw [Nat.pow_succ] at this; omega
      ·exact hR.1.trans (hB7.mono (by have := hR.2.2.2.2; omega))
      ·have := hR.2.2.2.2; have := hB7.size; omega
      ·exact Mur.hp_below hB7 hR.2.1
     ·have hT : decide (Mur.val ml < Mur.val yl) = false := by simpa using hc
      have hroot2 : Hid (Mur.rootFrom p 3 q N = Mur.rootFrom p 3 38 0) := Go.Lib.hid (by
       have h := hroot.out
       rw [hval.out, hmv.out, HN.out, hb2.out] at hc
       rw [← h, Mur.rootFrom, Mur.force_eq, if_pos (by omega), HN.out, hb2.out])
      clear hc
      go_wp2_with (first
       | (refine wpList_load_row rfl 143 (.tmp 9) rfl Y rfl 143 (n64s yl) (0, 0) _ hR.2.2.2.1 Tryz.underlying143 rfl (by rw [hyz.out]; kernel_rfl) ?_)
       | (refine wpList_load_row rfl 143 (.tmp 5) rfl w.heap.size rfl 143 (n64s ml) (0, 0) _ hR.2.1 Tryz.underlying143 rfl (by rw [n64s_size, hmd.out.1]; kernel_rfl) ?_)
       | (go_at_call 105; refine (above_any yl ml wr hyd.out.1 hmd.out.1 hyd.out.2 hmd.out.2).mono ?_; rintro e w7 ⟨rfl, hB7⟩))
      refine ⟨⟨q, N, bt / 2, by omega, by go_num, by go_num, Go.Lib.hid (by rw [hb2.out]), by omega, by omega, Go.Lib.hid ?_, hroot2, ?_, ?_, ?_⟩, by simp [intOf]; omega⟩
      ·have := hXm.out; rw [Nat.pow_succ] at this; have := HN.out; have := hb2.out; omega
      ·exact hR.1.trans (hB7.mono (by have := hR.2.2.2.2; omega))
      ·have := hR.2.2.2.2; have := hB7.size; omega
      ·exact Mur.hp_below hB7 hR.2.1
end Go.Proofs.YtgbadghjnpbiaaaGreatDoor
namespace Go.Proofs.YtgbadghjnpbiaaaGreatDoor
open Go.RowKit
open Mur (w32 u32s)
def ints (l : List Nat) : List Value := l.map fun x : Nat => Value.int .i64 (x : Int)
theorem ints_get (l : List Nat) (j : Nat) (h : j < l.length) : (ints l)[j]? = some (.int .i64 ((l.getD j 0 : Nat) : Int)) := by
 simp [ints, h, List.getD_eq_getElem?_getD]
theorem primesTo_succ (n : Nat) : Mur.primesTo (n + 1) = Mur.primesTo n ++ (if Mur.primeB n = true then [n] else []) := by
 unfold Mur.primesTo
 rw [List.range_succ, List.filter_append]
 congr 1
 by_cases h : Mur.primeB n = true
 ·simp [h]
 ·simp [h]
theorem primesTo_le {n m : Nat} (h : n ≤ m) : ∃ l, Mur.primesTo m = Mur.primesTo n ++ l := by
 obtain ⟨d, rfl⟩ : ∃ d, m = n + d := ⟨m - n, by omega⟩
 induction d with
 | zero => exact ⟨[], by simp⟩
 | succ d ih =>
  obtain ⟨l, hl⟩ := ih (by omega)
  exact ⟨l ++ (if Mur.primeB (n + d) = true then [n + d] else []), by rw [← Nat.add_assoc, primesTo_succ, hl, List.append_assoc]⟩
theorem primes_full {n : Nat} (h : n ≤ 312) (hl : (Mur.primesTo n).length = 64) : Mur.primesTo n = Mur.primesTo 312 := by
 obtain ⟨l, e⟩ := primesTo_le h
 have h1 := Mur.primes_64
 rw [e, List.length_append, hl] at h1
 have : l = [] := List.eq_nil_of_length_eq_zero (by omega)
 rw [e, this, List.append_nil]
set_option maxRecDepth 100000
theorem primes_any (w : World) : Calls Tryz.prog 89 #[.int .i64 64] w
  fun e w' => ∃ g cap, e = .returned (.slice (some ⟨g, 0, none⟩) 64 cap) ∧ w.heap.size ≤ g ∧ (∀ j, j < 64 → w'.cell? ⟨g, j, none⟩ = some (.int .i64 (((Mur.primesTo 312).getD j 0 : Nat) : Int))) ∧ Below w.heap.size w w' := by
 go_enter Tryz.func89, Tryz.ntmps89
 go_wp2
 go_loopw [3, 4] (fun v t wr => ∃ (n N : Nat) (L : List Nat) (A : Option Addr) (c : Nat), 2 ≤ n ∧ n ≤ 312 ∧ t = .int .i64 n ∧ Hid (L = Mur.primesTo n) ∧ v = .slice A N c ∧ N ≤ 64 ∧ Hid (L.length = N) ∧ wr.ownsRow w.heap.size 3 1 (.slice A N c) N (ints L) ∧ Below w.heap.size w wr)
  (fun _ t _ => 312 - (intOf t).toNat)
 case atStart =>
  refine ⟨2, 0, [], none, 0, by omega, by omega, rfl, Go.Lib.hid (by decide), rfl, by omega, rfl, World.ownsRow_nil _ _ _ _, Below.refl _ _⟩
 case round =>
  obtain ⟨n, N, L, A, c, hn2, hn, rfl, hL, rfl, hN, hLN, HO, HB⟩ := hrel
  have hsz := HB.size
  by_cases hlt : N < 64
  ·have hn3 : n < 312 := by
    rcases Nat.lt_or_ge n 312 with h | h
    ·exact h
    ·have h1 := Mur.primes_64
     have : n = 312 := by omega
     rw [← this, ← hL.out, hLN.out] at h1
     omega
   by_cases hp : Mur.primeB n = true
   ·have HP := Go.Lib.hid hp; clear hp
    go_wp2_with (first
     | (go_at_call 102; refine (prime_any n wr (by omega)).mono ?_; rintro e w2 ⟨rfl, rfl⟩; rw [HP.out])
     | (at_builtin; refine Mur.wpList_append_box (w0 := wr) w.heap.size rfl (.tmp 13) (.tmp 15) 115 3 (.int .i64 0) 8 rfl Tryz.underlying115 (by kernel_rfl) rfl (by omega) (.slice A N c) N (ints L) (.int .i64 (n : Int)) rfl rfl rfl HO (Below.refl _ _) hsz (by omega) ?_; intro v1 w1 HO1 HB1 hg1 hat1))
    obtain ⟨A5, c5, rfl⟩ : ∃ A c, v1 = .slice A (N + 1) c := by
     rcases HO1.2 with ⟨_, h⟩ | ⟨g, cap, cur, rfl, _⟩
     ·omega
     ·exact ⟨_, _, rfl⟩
    refine ⟨⟨n + 1, N + 1, L ++ [n], A5, c5, by omega, by omega, by go_num, Go.Lib.hid ?_, rfl, by omega, Go.Lib.hid (by rw [List.length_append, hLN.out]; rfl), ?_, HB.trans HB1⟩, by simp [intOf]; omega⟩
    ·rw [primesTo_succ, HP.out, hL.out, if_pos rfl]
    ·simpa [ints] using HO1
   ·have hp' : Mur.primeB n = false := by simpa using hp
    have HP := Go.Lib.hid hp'; clear hp hp'
    go_wp2_with (go_at_call 102; refine (prime_any n wr (by omega)).mono ?_; rintro e w2 ⟨rfl, rfl⟩; rw [HP.out])
    refine ⟨⟨n + 1, N, L, A, c, by omega, by omega, by go_num, Go.Lib.hid ?_, rfl, by omega, hLN, HO, HB⟩, by simp [intOf]; omega⟩
    rw [primesTo_succ, HP.out, hL.out]
    simp
  ·obtain rfl : N = 64 := by omega
   have hfull : Hid (L = Mur.primesTo 312) := Go.Lib.hid (by
    rw [hL.out]
    exact primes_full hn (by rw [← hL.out]; exact hLN.out))
   go_wp2
   go_ret
   rcases HO.2 with ⟨_, h⟩ | ⟨g, cap, cur, hv, hg, _⟩
   ·omega
   ·have hc := HO.cells (g := g) (by rw [hv]; rfl)
    refine ⟨g, cap, ?_, hg, fun j hj => ?_, HB⟩
    ·rw [← hv]; rfl
    ·have := hc j _ (ints_get L j (by rw [hLN.out]; exact hj))
     rwa [Addr.add_mid, Nat.zero_add, hfull.out] at this
/-! Words -/
def rowTo (l : List UInt32) (n i : Nat) : List UInt32 := l.take i ++ List.replicate (n - i) 0
theorem rowTo_succ {l : List UInt32} {n i : Nat} (hl : l.length = n) (h : i < n) : rowTo l n (i + 1) = (rowTo l n i).set i (l.getD i 0) := by
 have hq : i < l.length := by omega
 have hlt : (l.take i).length = i := by rw [List.length_take]; omega
 have hg : l.getD i 0 = l[i] := by rw [List.getD_eq_getElem?_getD, List.getElem?_eq_getElem hq]; rfl
 rw [rowTo, rowTo, List.take_succ_eq_append_getElem hq, hg, show n - i = (n - (i + 1)) + 1 by omega, List.replicate_succ, List.set_append_right _ _ (by omega), hlt, Nat.sub_self, List.set_cons_zero, List.append_assoc]
 rfl
theorem rowTo_all {l : List UInt32} {n i : Nat} (hl : l.length = n) (h : n ≤ i) : rowTo l n i = l := by
 rw [rowTo, List.take_of_length_le (by omega), show n - i = 0 by omega, List.replicate_zero, List.append_nil]
theorem rowTo_length {l : List UInt32} {n i : Nat} (hl : l.length = n) : (rowTo l n i).length = n := by simp [rowTo, hl]; omega
theorem P_le (i : Nat) (_ : i < 64) : (Mur.primesTo 312).getD i 0 ≤ 400 := by
 have hm : ∀ x ∈ Mur.primesTo 312, x < 401 := by
  intro x hx
  have := List.mem_range.1 (List.mem_filter.1 hx).1
  omega
 have := getD_lt (by omega) hm i
 omega
theorem root_k (i : Nat) (h : i < 64) : ((Mur.rootN ((Mur.primesTo 312).getD i 0) 3 : Nat) : Int) = w32 (Mur.K.getD i 0) := by
 have h1 := Mur.roots_3
 rw [Mur.KN_eq] at h1
 have h2 := congrArg (fun l => l[i]?) h1
 simp only [List.getElem?_map] at h2
 have h3 : i < (Mur.primesTo 312).length := by rw [Mur.primes_64]; exact h
 have h4 : i < Mur.K.length := by rw [Mur.K_length]; exact h
 rw [List.getElem?_eq_getElem h3, List.getElem?_eq_getElem h4, Option.map_some, Option.map_some, Option.some.injEq] at h2
 rw [List.getD_eq_getElem?_getD, List.getD_eq_getElem?_getD, List.getElem?_eq_getElem h3, List.getElem?_eq_getElem h4, Option.getD_some, Option.getD_some, h2]
 rfl
theorem root_h (i : Nat) (h : i < 8) : ((Mur.rootN ((Mur.primesTo 312).getD i 0) 2 : Nat) : Int) = w32 (Mur.H0.toList.getD i 0) := by
 have h1 := Mur.roots_2
 have h0 : Mur.H0N = Mur.H0.toList.map UInt32.toNat := by decide
 rw [h0] at h1
 have h2 := congrArg (fun l => l[i]?) h1
 simp only [List.getElem?_map, List.getElem?_take, h, if_true] at h2
 have h3 : i < (Mur.primesTo 312).length := by rw [Mur.primes_64]; omega
 have h4 : i < Mur.H0.toList.length := by show i < 8; exact h
 rw [List.getElem?_eq_getElem h3, List.getElem?_eq_getElem h4, Option.map_some, Option.map_some, Option.some.injEq] at h2
 rw [List.getD_eq_getElem?_getD, List.getD_eq_getElem?_getD, List.getElem?_eq_getElem h3, List.getElem?_eq_getElem h4, Option.getD_some, Option.getD_some, h2]
 rfl
theorem rootk_any (i p : Nat) (w : World) (h : i < 64) (hp : (Mur.primesTo 312).getD i 0 = p) : Calls Tryz.prog 90 #[.int .i64 (p : Int), .int .i64 3] w
  fun e w' => e = .returned (.int .u32 (w32 (Mur.K.getD i 0))) ∧ Below w.heap.size w w' := by
 subst hp
 refine (root_3 _ w (P_le i h)).mono ?_
 rintro e w' ⟨rfl, hb⟩
 exact ⟨by rw [root_k i h], hb⟩
theorem rooth_any (i p : Nat) (w : World) (h : i < 8) (hp : (Mur.primesTo 312).getD i 0 = p) : Calls Tryz.prog 90 #[.int .i64 (p : Int), .int .i64 2] w
  fun e w' => e = .returned (.int .u32 (w32 (Mur.H0.toList.getD i 0))) ∧ Below w.heap.size w w' := by
 subst hp
 refine (root_2 _ w (P_le i (by omega))).mono ?_
 rintro e w' ⟨rfl, hb⟩
 exact ⟨by rw [root_h i h], hb⟩
def pick (i : Nat) (m : Int) : UInt32 := if m = 3 then Mur.K.getD i 0 else Mur.H0.toList.getD i 0
theorem rootp_any (i p : Nat) (m : Int) (w : World) (h : (m = 3 ∧ i < 64) ∨ (m = 2 ∧ i < 8)) (hp : (Mur.primesTo 312).getD i 0 = p) : Calls Tryz.prog 90 #[.int .i64 (p : Int), .int .i64 m] w
  fun e w' => e = .returned (.int .u32 (w32 (pick i m))) ∧ Below w.heap.size w w' := by
 rcases h with ⟨rfl, h⟩ | ⟨rfl, h⟩
 ·exact rootk_any i p w h hp
 ·exact rooth_any i p w h hp
def L8 (w : World) (g : Nat) (hl kl : List UInt32) (wr : World) : Prop :=
 Below w.heap.size w wr ∧ w.heap.size + 4 ≤ wr.heap.size ∧ wr.heap[w.heap.size]? = some (.cells (u32s (List.replicate 8 0)) 101 (0, 0)) ∧ wr.heap[w.heap.size + 1]? = some (.cells (u32s (List.replicate 64 0)) 102 (0, 0)) ∧
 wr.heap[w.heap.size + 1 + 1]? = some (.cells (u32s hl) 101 (0, 0)) ∧ wr.heap[w.heap.size + 1 + 1 + 1]? = some (.cells (u32s kl) 102 (0, 0)) ∧
 (∀ j, j < 64 → wr.cell? ⟨g, j, none⟩ = some (.int .i64 (((Mur.primesTo 312).getD j 0 : Nat) : Int)))
theorem L8.below {w wr w1 : World} {g : Nat} {hl kl : List UInt32} (h : L8 w g hl kl wr) (hb : Below wr.heap.size wr w1) : L8 w g hl kl w1 := by
 obtain ⟨h0, h1, h2, h3, h4, h5, h6⟩ := h
 exact ⟨h0.trans (hb.mono (by omega)), Nat.le_trans h1 hb.size, Mur.hp_below hb h2, Mur.hp_below hb h3, Mur.hp_below hb h4, Mur.hp_below hb h5, fun j hj => Mur.cell_below hb (h6 j hj)⟩
theorem L8.drewN {w wr : World} {g : Nat} {hl kl : List UInt32} (h : L8 w g hl kl wr) (n : Nat) : L8 w g hl kl (wr.drewN n) := ⟨Mur.below_drewN h.1 n, h.2.1, h.2.2.1, h.2.2.2.1, h.2.2.2.2.1, h.2.2.2.2.2.1, h.2.2.2.2.2.2⟩
theorem cell_set_ne {w : World} {a : Addr} {v u : Value} (b i : Nat) (h : w.cell? a = some v) (hne : a.block ≠ b) : (w.setCell ⟨b, i, none⟩ u).cell? a = some v := by
 rw [World.cell?_setCell_other w ⟨b, i, none⟩ a u (fun e => hne (by rw [← e]))]
 exact h
theorem L8.setK {w wr : World} {g : Nat} {hl kl : List UInt32} (h : L8 w g hl kl wr) (hg : w.heap.size + 4 ≤ g) (k : Nat) (x : UInt32) : L8 w g hl (kl.set k x) (wr.setCell ⟨w.heap.size + 1 + 1 + 1, k, none⟩ (.int .u32 (w32 x))) := by
 obtain ⟨h0, h1, h2, h3, h4, h5, h6⟩ := h
 exact ⟨h0.setCell (by simp; omega) _, by simpa using h1, Mur.hp_set_ne h2 _ _ _ (by omega), Mur.hp_set_ne h3 _ _ _ (by omega), Mur.hp_set_ne h4 _ _ _ (by omega), Mur.set_u32s h5 x, fun j hj => cell_set_ne _ _ (h6 j hj) (by show g ≠ _; omega)⟩
theorem L8.setH {w wr : World} {g : Nat} {hl kl : List UInt32} (h : L8 w g hl kl wr) (hg : w.heap.size + 4 ≤ g) (k : Nat) (x : UInt32) : L8 w g (hl.set k x) kl (wr.setCell ⟨w.heap.size + 1 + 1, k, none⟩ (.int .u32 (w32 x))) := by
 obtain ⟨h0, h1, h2, h3, h4, h5, h6⟩ := h
 exact ⟨h0.setCell (by simp; omega) _, by simpa using h1, Mur.hp_set_ne h2 _ _ _ (by omega), Mur.hp_set_ne h3 _ _ _ (by omega), Mur.set_u32s h4 x, Mur.hp_set_ne h5 _ _ _ (by omega), fun j hj => cell_set_ne _ _ (h6 j hj) (by show g ≠ _; omega)⟩
set_option maxHeartbeats 1000000
theorem words_any (w : World) : Calls Tryz.prog 66 #[] w
  fun e w' => e = .returned (.tuple #[.agg (u32s Mur.H0.toList), .agg (u32s Mur.K)]) ∧ Below w.heap.size w w' := by
 have hH : Mur.H0.toList.length = 8 := rfl
 have HH := Go.Lib.hid hH; clear hH
 have HK := Go.Lib.hid Mur.K_length
 go_enter Tryz.func66, Tryz.ntmps66
 go_wp2_with (go_at_call 89; refine (primes_any _).mono ?_; rintro e w2 ⟨g, cap, rfl, hg, hpc, hB2⟩; have HPC := Go.Lib.hid hpc; clear hpc)
 have HL0 : Hid (L8 w g (rowTo Mur.H0.toList 8 0) (rowTo Mur.K 64 0) w2) := Go.Lib.hid (by
  refine ⟨((((Below.refl _ _).alloc (Nat.le_refl _) _).alloc (by simp) _).alloc (by simp; omega) _ |>.alloc (by simp; omega) _).trans (hB2.mono (by simp; omega)), by have := hB2.size; simp at this; omega, ?_, ?_, ?_, ?_, HPC.out⟩
  ·exact Mur.hp_below hB2 (Mur.hp_old (Mur.hp_old (Mur.hp_old (Mur.hp_a1 _ _) _) _) _)
  ·exact Mur.hp_below hB2 ((Mur.hp_old (Mur.hp_old (Mur.hp_a2 _ _ _) _) _).trans rfl)
  ·exact Mur.hp_below hB2 (Mur.hp_old ((Mur.hp_a3 _ _ _ _).trans rfl) _)
  ·exact Mur.hp_below hB2 ((hp_a4 _ _ _ _ _).trans rfl))
 have hg4 : w.heap.size + 4 ≤ g := by simp at hg; omega
 clear hg hB2 HPC
 go_loopw [5] (fun t wr => ∃ i : Nat, i ≤ 64 ∧ t = .int .i64 i ∧ L8 w g (rowTo Mur.H0.toList 8 i) (rowTo Mur.K 64 i) wr) (fun t _ => 64 - (intOf t).toNat)
 case atStart => exact ⟨0, by omega, rfl, HL0.out⟩
 case round =>
  clear HL0
  obtain ⟨i, hi, rfl, HL⟩ := hrel
  by_cases hlt : i < 64
  ·have cp := HL.2.2.2.2.2.2 i hlt
   obtain ⟨p, hp⟩ : ∃ p, (Mur.primesTo 312).getD i 0 = p := ⟨_, rfl⟩
   rw [hp] at cp
   have HP := Go.Lib.hid hp; clear hp
   by_cases h8 : i < 8
   ·go_wp2_with fail
    refine (rootp_any i p _ wr (by omega) HP.out).mono ?_
    rintro e w3 ⟨rfl, hB3⟩
    have HL3 := HL.below hB3
    have ck := Mur.cell_u32s (i := i) HL3.2.2.2.2.2.1 (by rw [rowTo_length HK.out]; exact hlt)
    have fk := Mur.free_row (i := i) HL3.2.2.2.2.2.1
    have cp3 := Mur.cell_below hB3 cp
    have cp4 := cell_set_ne (u := .int .u32 (w32 (pick i 3))) (w.heap.size + 1 + 1 + 1) i cp3 (by show g ≠ _; omega)
    have HL4 := HL3.setK hg4 i (pick i 3)
    go_wp2_with fail
    refine (rootp_any i p _ _ (by omega) HP.out).mono ?_
    rintro e w5 ⟨rfl, hB5⟩
    have HL5 := HL4.below hB5
    have ch := Mur.cell_u32s (i := i) HL5.2.2.2.2.1 (by rw [rowTo_length HH.out]; exact h8)
    have fh := Mur.free_row (i := i) HL5.2.2.2.2.1
    clear ck fk cp3 cp4
    go_wp2
    refine ⟨⟨i + 1, by omega, by go_num, ?_⟩, by simp [intOf]; omega⟩
    rw [rowTo_succ HH.out h8, rowTo_succ HK.out hlt]
    exact HL5.setH hg4 i (pick i 2)
   ·go_wp2_with fail
    refine (rootp_any i p _ wr (by omega) HP.out).mono ?_
    rintro e w3 ⟨rfl, hB3⟩
    have HL3 := HL.below hB3
    have ck := Mur.cell_u32s (i := i) HL3.2.2.2.2.2.1 (by rw [rowTo_length HK.out]; exact hlt)
    have fk := Mur.free_row (i := i) HL3.2.2.2.2.2.1
    go_wp2
    refine ⟨⟨i + 1, by omega, by go_num, ?_⟩, by simp [intOf]; omega⟩
    have e : rowTo Mur.H0.toList 8 (i + 1) = rowTo Mur.H0.toList 8 i := by rw [rowTo_all HH.out (by omega), rowTo_all HH.out (by omega)]
    rw [e, rowTo_succ HK.out hlt]
    exact HL3.setK hg4 i (pick i 3)
  ·obtain rfl : i = 64 := by omega
   rw [rowTo_all HH.out (by omega), rowTo_all HK.out (by omega)] at HL
   have hzH : Hid ((u32s Mur.H0.toList).size = 8) := Go.Lib.hid rfl
   have hzK : Hid ((u32s Mur.K).size = 64) := Go.Lib.hid (by simp [u32s, HK.out])
   have HK2 : Hid ((u32s (List.replicate 64 0)).size = 64) := Go.Lib.hid (by simp [u32s])
   go_wp2
   have HLd : L8 w g Mur.H0.toList Mur.K wr.drew := HL.drewN 1
   refine wp_region_held (S := fun w' => w'.heap[w.heap.size + 1 + 1]? = some (.cells (u32s Mur.H0.toList) 101 (0, 0)) ∧ w'.heap[w.heap.size + 1 + 1 + 1]? = some (.cells (u32s Mur.K) 102 (0, 0))) (by kernel_rfl) ?_
   refine wpAnyH_take (i := 0) (v := .agg (u32s Mur.H0.toList)) rfl (by kernel_rfl) (by kernel_rfl) (by kernel_rfl) (fun _ _ _ h => h)
    (Mur.yieldsIf_load_row rfl 101 (.tmp 2) rfl (w.heap.size + 1 + 1) rfl 101 (u32s Mur.H0.toList) (0, 0) _ (fun _ h => h.1) Tryz.underlying101 rfl (by rw [hzH.out]; kernel_rfl)) ⟨HLd.2.2.2.2.1, HLd.2.2.2.2.2.1⟩ ?_
   refine wpAnyH_take (i := 1) (v := .agg (u32s Mur.K)) rfl (by kernel_rfl) (by kernel_rfl) (by kernel_rfl) (fun _ _ _ h => h)
    (Mur.yieldsIf_load_row rfl 102 (.tmp 3) rfl (w.heap.size + 1 + 1 + 1) rfl 102 (u32s Mur.K) (0, 0) _ (fun _ h => h.2) Tryz.underlying102 rfl (by rw [hzK.out]; kernel_rfl)) ⟨HLd.2.2.2.2.1, HLd.2.2.2.2.2.1⟩ ?_
   refine Mur.wpAnyH_one (k := 2) (by kernel_rfl) ?_
   refine Mur.wpOp_put rfl rfl 101 (.tmp 0) (.tmp 27) rfl w.heap.size (u32s Mur.H0.toList) rfl rfl 101 (u32s (List.replicate 8 0)) HLd.2.2.1 (by rw [hzH.out]; kernel_rfl) (by rw [hzH.out]; rfl) (Mur.oneCells _) ?_
   intro w7 hp7 hw7
   refine ⟨⟨hw7.hp (by omega) HLd.2.2.2.2.1, hw7.hp (by omega) HLd.2.2.2.2.2.1⟩, ?_⟩
   refine Mur.wpAnyH_one (k := 3) (by kernel_rfl) ?_
   refine Mur.wpOp_put rfl rfl 102 (.tmp 1) (.tmp 28) rfl (w.heap.size + 1) (u32s Mur.K) rfl rfl 102 (u32s (List.replicate 64 0)) (hw7.hp (by omega) HLd.2.2.2.1) (by rw [hzK.out]; kernel_rfl) (by rw [hzK.out, HK2.out]) (Mur.oneCells _) ?_
   intro w8 hp8 hw8
   refine ⟨⟨hw8.hp (by omega) (hw7.hp (by omega) HLd.2.2.2.2.1), hw8.hp (by omega) (hw7.hp (by omega) HLd.2.2.2.2.2.1)⟩, ?_⟩
   refine wpAnyH_done (by kernel_rfl) ?_ _
   have hp7' := Go.Lib.hid hp7; clear hp7
   have hp8' := Go.Lib.hid hp8; clear hp8
   go_wp2
   refine bodyPost_ret (Mur.results_cell_row2 rfl _ _ w.heap.size 101 (u32s Mur.H0.toList) (0, 0) _ (w.heap.size + 1) 102 (u32s Mur.K) (0, 0) _ rfl (hw8.hp (by omega) hp7'.out) rfl hp8'.out Tryz.underlying101 rfl (by rw [hzH.out]; kernel_rfl) Tryz.underlying102 rfl (by rw [hzK.out]; kernel_rfl)) rfl ⟨rfl, ?_⟩
   exact (HLd.1.trans (hw7.below (by omega))).trans (hw8.below (by omega))
end Go.Proofs.YtgbadghjnpbiaaaGreatDoor
namespace Go.Proofs.YtgbadghjnpbiaaaGreatDoor
open Go.RowKit
open Mur (St w32 u32s cell_u32s free_row set_u32s)
def L9 (w : World) (h : St) (ws : List UInt32) (wr : World) : Prop :=
 Below w.heap.size w wr ∧ wr.heap.size = w.heap.size + 4 ∧ wr.heap[w.heap.size]? = some (.cells (stCells h) 101 (0, 0)) ∧ wr.heap[w.heap.size + 1]? = some (.cells (u32s Mur.K) 102 (0, 0)) ∧
 wr.heap[w.heap.size + 1 + 1]? = some (.cells (u32s (List.replicate 8 0)) 101 (0, 0)) ∧ wr.heap[w.heap.size + 1 + 1 + 1]? = some (.cells (u32s ws) 102 (0, 0))
theorem L9.set {w wr : World} {h : St} {ws : List UInt32} (H : L9 w h ws wr) (n k : Nat) (x : UInt32) : L9 w h (ws.set k x) ((wr.drewN n).setCell ⟨w.heap.size + 1 + 1 + 1, k, none⟩ (.int .u32 (w32 x))) := by
 obtain ⟨h0, h1, h2, h3, h4, h5⟩ := H
 exact ⟨(Mur.below_drewN h0 n).setCell (by simp; omega) _, by simpa using h1, Mur.hp_set_ne (Mur.hp_drewN h2 n) _ _ _ (by omega), Mur.hp_set_ne (Mur.hp_drewN h3 n) _ _ _ (by omega), Mur.hp_set_ne (Mur.hp_drewN h4 n) _ _ _ (by omega), set_u32s (Mur.hp_drewN h5 n) x⟩
def acc4 (b : List UInt8) (t : Nat) : Nat → UInt32
 | 0 => 0
 | i + 1 => acc4 b t i * 256 + (b.getD (4 * t + i) 0).toUInt32
theorem be32_acc (a b c d : UInt8) : (((((0 : UInt32) * 256 + a.toUInt32) * 256 + b.toUInt32) * 256 + c.toUInt32) * 256 + d.toUInt32) = Mur.be32 a b c d := by
 have ha := a.toNat_lt
 have hb := b.toNat_lt
 have hc := c.toNat_lt
 have hd := d.toNat_lt
 apply UInt32.toNat_inj.1
 unfold Mur.be32
 rw [UInt32.toNat_or, UInt32.toNat_or, UInt32.toNat_or, UInt32.toNat_shiftLeft, UInt32.toNat_shiftLeft, UInt32.toNat_shiftLeft]
 simp only [UInt32.toNat_add, UInt32.toNat_mul, UInt8.toNat_toUInt32]
 have e24 : a.toNat <<< ((24 : UInt32).toNat % 32) % 2 ^ 32 = a.toNat <<< 24 := by
  show a.toNat <<< 24 % 4294967296 = a.toNat <<< 24
  rw [Nat.shiftLeft_eq]; omega
 have e16 : b.toNat <<< ((16 : UInt32).toNat % 32) % 2 ^ 32 = b.toNat <<< 16 := by
  show b.toNat <<< 16 % 4294967296 = b.toNat <<< 16
  rw [Nat.shiftLeft_eq]; omega
 have e8 : c.toNat <<< ((8 : UInt32).toNat % 32) % 2 ^ 32 = c.toNat <<< 8 := by
  show c.toNat <<< 8 % 4294967296 = c.toNat <<< 8
  rw [Nat.shiftLeft_eq]; omega
 rw [e24, e16, e8]
 have o1 : a.toNat <<< 24 ||| b.toNat <<< 16 = (a.toNat <<< 8 + b.toNat) <<< 16 := by
  rw [Nat.shiftLeft_add_eq_or_of_lt (show b.toNat < 2 ^ 8 by omega), Nat.shiftLeft_or_distrib, ← Nat.shiftLeft_add]
 have o2 : (a.toNat <<< 8 + b.toNat) <<< 16 ||| c.toNat <<< 8 = ((a.toNat <<< 8 + b.toNat) <<< 8 + c.toNat) <<< 8 := by
  rw [Nat.shiftLeft_add_eq_or_of_lt (show c.toNat < 2 ^ 8 by omega) (a.toNat <<< 8 + b.toNat), Nat.shiftLeft_or_distrib, ← Nat.shiftLeft_add]
 rw [o1, o2, ← Nat.shiftLeft_add_eq_or_of_lt (show d.toNat < 2 ^ 8 by omega)]
 simp only [Nat.shiftLeft_eq]
 have z : (0 : UInt32).toNat = 0 := rfl
 have t : (256 : UInt32).toNat = 256 := rfl
 rw [z, t]
 omega
theorem acc4_four (b : List UInt8) (t : Nat) : acc4 b t 4 = Mur.wordAt b t := by
 rw [Mur.wordAt, ← be32_acc]
 rfl
theorem hp_a4' (w : World) (A B C D : Obj) : ((((w.alloc A).alloc B).alloc C).alloc D).heap[w.heap.size + 1 + 1 + 1]? = some D := by
 have h := Mur.hp_a3 (w.alloc A) B C D
 rwa [World.size_alloc] at h
theorem wTo_zero (b : List UInt8) (n t : Nat) (h : n ≤ t) : (Mur.wTo b n).getD t 0 = 0 := by
 induction n with
 | zero =>
  simp only [Mur.wTo, List.getD_eq_getElem?_getD, List.getElem?_replicate]
  split <;> rfl
 | succ n ih =>
  rw [Mur.wTo]
  simp only [List.getD_eq_getElem?_getD]
  rw [List.getElem?_set_ne (by omega), ← List.getD_eq_getElem?_getD, ih (by omega)]
theorem set_zero (b : List UInt8) (t : Nat) (h : t < 64) : (Mur.wTo b t).set t 0 = Mur.wTo b t := by
 have hl := Mur.wTo_length b t
 have hz := wTo_zero b t t (Nat.le_refl _)
 rw [List.getD_eq_getElem?_getD, List.getElem?_eq_getElem (by omega)] at hz
 have hz' : (Mur.wTo b t)[t]'(by omega) = 0 := hz
 conv => lhs; rw [← hz', List.set_getElem_self]
theorem wrap_mul256 (a : UInt32) : IntKind.u32.wrap (w32 a * (256 : Int)) = w32 (a * 256) := by
 rw [IntKind.wrap_u32, w32, w32, UInt32.toNat_mul]
 have t : (256 : UInt32).toNat = 256 := rfl
 rw [t]
 omega
theorem bits_not_u32' (a : UInt32) : bits .xor .u32 4294967295 (w32 a) = w32 (~~~a) := Mur.bits_not_u32 a
attribute [local go_sem] Mur.wrap_u32_u8 wrap_mul256 Mur.shr3 Mur.shr10 Mur.bits_or_u32 Mur.bits_and_u32 Mur.bits_xor_u32 Mur.bits_not_u32 bits_not_u32' Mur.wrap_add_u32 Mur.wrap_not_u32
def L10 (w : World) (h : St) (ws : List UInt32) (s : St) (wr : World) : Prop :=
 Below w.heap.size w wr ∧ wr.heap[w.heap.size]? = some (.cells (stCells h) 101 (0, 0)) ∧ wr.heap[w.heap.size + 1]? = some (.cells (u32s Mur.K) 102 (0, 0)) ∧
 wr.heap[w.heap.size + 1 + 1]? = some (.cells (u32s (List.replicate 8 0)) 101 (0, 0)) ∧ wr.heap[w.heap.size + 1 + 1 + 1]? = some (.cells (u32s ws) 102 (0, 0)) ∧
 wr.heap[w.heap.size + 1 + 1 + 1 + 1]? = some (.cells (stCells s) 101 (0, 0))
theorem L10.drewN {w wr : World} {h s : St} {ws : List UInt32} (H : L10 w h ws s wr) (n : Nat) : L10 w h ws s (wr.drewN n) := ⟨Mur.below_drewN H.1 n, H.2.1, H.2.2.1, H.2.2.2.1, H.2.2.2.2.1, H.2.2.2.2.2⟩
theorem L10.wrote {w wr w1 : World} {h s t : St} {ws : List UInt32} (H : L10 w h ws s wr) (hw : Mur.Wrote (w.heap.size + 1 + 1 + 1 + 1) wr w1) (hp : w1.heap[w.heap.size + 1 + 1 + 1 + 1]? = some (.cells (stCells t) 101 (0, 0))) : L10 w h ws t w1 :=
 ⟨H.1.trans (hw.below (by omega)), hw.hp (by omega) H.2.1, hw.hp (by omega) H.2.2.1, hw.hp (by omega) H.2.2.2.1, hw.hp (by omega) H.2.2.2.2.1, hp⟩
def L11 (w : World) (h : St) (s : List UInt32) (wr : World) : Prop :=
 wr.heap[w.heap.size]? = some (.cells (stCells h) 101 (0, 0)) ∧ Below w.heap.size w wr ∧
 wr.heap[w.heap.size + 1 + 1]? = some (.cells (u32s (List.replicate 8 0)) 101 (0, 0)) ∧ wr.heap[w.heap.size + 1 + 1 + 1 + 1]? = some (.cells (u32s s) 101 (0, 0))
theorem L11.put {w wr : World} {h : St} {s : List UInt32} (H : L11 w h s wr) (n k : Nat) (x : UInt32) : L11 w h (s.set k x) ((wr.drewN n).setCell ⟨w.heap.size + 1 + 1 + 1 + 1, k, none⟩ (.int .u32 (w32 x))) := by
 obtain ⟨h0, h1, h2, h3⟩ := H
 exact ⟨Mur.hp_set_ne (Mur.hp_drewN h0 n) _ _ _ (by omega), (Mur.below_drewN h1 n).setCell (by simp; omega) _, Mur.hp_set_ne (Mur.hp_drewN h2 n) _ _ _ (by omega), set_u32s (Mur.hp_drewN h3 n) x⟩
set_option maxRecDepth 100000
set_option maxHeartbeats 4000000
theorem rblock_any (h : St) (b : List UInt8) (g off n c : Nat) (w : World) (hb : ∀ j, j < 64 → w.cell? ⟨g, off + j, none⟩ = some (.int .u8 ((b.getD j 0).toNat : Int))) (hn : 64 ≤ n) (hnc : n ≤ 140737488351232) (hg : g < w.heap.size) :
  Calls Tryz.prog 107 #[.agg (stCells h), .agg (u32s Mur.K), .slice (some ⟨g, off, none⟩) n c] w
   fun e w' => ∃ t, Hid (t = Mur.block h b) ∧ e = .returned (.agg (stCells t)) ∧ Below w.heap.size w w' := by
 have HB := Go.Lib.hid hb; clear hb
 go_enter Tryz.func107, Tryz.ntmps107
 go_wp2
 go_loopw [8] (fun t wr => ∃ k : Nat, k ≤ 16 ∧ t = .int .i64 k ∧ L9 w h (Mur.wTo b k) wr) (fun t _ => 16 - (intOf t).toNat)
 case atStart =>
  refine ⟨0, by omega, rfl, (((Below.refl _ _).alloc (Nat.le_refl _) _).alloc (by simp) _).alloc (by simp; omega) _ |>.alloc (by simp; omega) _, by simp, ?_, ?_, ?_, ?_⟩
  ·exact Mur.hp_old (Mur.hp_old (Mur.hp_old (Mur.hp_a1 _ _) _) _) _
  ·exact Mur.hp_old (Mur.hp_old (Mur.hp_a2 _ _ _) _) _
  ·exact Mur.hp_old ((Mur.hp_a3 _ _ _ _).trans rfl) _
  ·exact (hp_a4' _ _ _ _ _).trans rfl
 case round =>
  obtain ⟨k, hk, rfl, HL⟩ := hrel
  by_cases hlt : k < 16
  ·go_wp2
   go_loopw [9] (fun iv wq => ∃ i : Nat, i ≤ 4 ∧ iv = .int .i64 i ∧ L9 w h ((Mur.wTo b k).set k (acc4 b k i)) wq) (fun iv _ => 4 - (intOf iv).toNat)
   case atStart => exact ⟨0, by omega, rfl, by rw [acc4, set_zero b k (by omega)]; exact HL⟩
   case round =>
    clear HL
    obtain ⟨i, hi, rfl, HL⟩ := hrel
    by_cases hlt2 : i < 4
    ·have hl := Mur.wTo_length b k
     have hcell : wr.cell? ⟨g, off + (4 * k + i), none⟩ = some (.int .u8 ((b.getD (4 * k + i) 0).toNat : Int)) := (HL.1.cell (p := ⟨g, off + (4 * k + i), none⟩) hg).trans (HB.out _ (by omega))
     have cw := cell_u32s (i := k) HL.2.2.2.2.2 (by rw [List.length_set]; omega)
     have e1 : ((Mur.wTo b k).set k (acc4 b k i)).getD k 0 = acc4 b k i := by
      rw [List.getD_eq_getElem?_getD, List.getElem?_set_self (by omega)]
      rfl
     rw [e1] at cw
     obtain ⟨x, hx⟩ : ∃ x, acc4 b k i = x := ⟨_, rfl⟩
     obtain ⟨y, hy⟩ : ∃ y, b.getD (4 * k + i) 0 = y := ⟨_, rfl⟩
     rw [hx] at cw
     rw [hy] at hcell
     have HX := Go.Lib.hid hx; clear hx
     have HY := Go.Lib.hid hy; clear hy
     have fw := free_row (i := k) HL.2.2.2.2.2
     clear hl e1
     go_wp2
     refine Mur.wp_quiet_tail 14 (by kernel_rfl) (by kernel_rfl) ?_
     simp only [List.take_succ_cons, List.take_zero, List.drop_succ_cons, List.drop_zero]
     repeat (go_big_quiet_step (fail))
     refine wpQuiet_nil ?_
     rintro _ ⟨nq, rfl⟩
     go_wp2
     refine ⟨⟨i + 1, by omega, by go_num, ?_⟩, by simp [intOf]; omega⟩
     have e2 : (Mur.wTo b k).set k (acc4 b k (i + 1)) = ((Mur.wTo b k).set k (acc4 b k i)).set k (x * 256 + y.toUInt32) := by
      rw [List.set_set, acc4, HX.out, HY.out]
     rw [e2]
     exact HL.set _ _ _
    ·obtain rfl : i = 4 := by omega
     go_wp2
     refine ⟨⟨k + 1, by omega, by go_num, ?_⟩, by simp [intOf]; omega⟩
     have e3 : Mur.wTo b (k + 1) = (Mur.wTo b k).set k (acc4 b k 4) := by
      rw [acc4_four]
      conv => lhs; unfold Mur.wTo
      rw [Mur.wNext, if_pos hlt]
     rw [e3]
     exact HL
  ·obtain rfl : k = 16 := by omega
   go_wp2
   go_loopw [10] (fun t wr => ∃ k : Nat, 16 ≤ k ∧ k ≤ 64 ∧ t = .int .i64 k ∧ L9 w h (Mur.wTo b k) wr) (fun t _ => 64 - (intOf t).toNat)
   case atStart => exact ⟨16, by omega, by omega, rfl, HL⟩
   case round =>
    clear HL
    obtain ⟨k, hk16, hk, rfl, HL⟩ := hrel
    by_cases hlt : k < 64
    ·have hl := Mur.wTo_length b k
     have cx := cell_u32s (i := k - 15) HL.2.2.2.2.2 (by omega)
     have cy := cell_u32s (i := k - 2) HL.2.2.2.2.2 (by omega)
     have c16 := cell_u32s (i := k - 16) HL.2.2.2.2.2 (by omega)
     have c7 := cell_u32s (i := k - 7) HL.2.2.2.2.2 (by omega)
     have cw := cell_u32s (i := k) HL.2.2.2.2.2 (by omega)
     have fw := free_row (i := k) HL.2.2.2.2.2
     clear hl
     go_wp2
     go_quiet (fail)
     go_wp2
     refine Mur.wp_quiet_tail 28 (by kernel_rfl) (by kernel_rfl) ?_
     simp only [List.take_succ_cons, List.take_zero, List.drop_succ_cons, List.drop_zero]
     repeat (go_big_quiet_step (exact Mur.q_of2 (turn_any _ _ (by decide))))
     refine wpQuiet_nil ?_
     rintro _ ⟨nq, rfl⟩
     go_wp2
     refine ⟨⟨k + 1, by omega, by omega, by go_num, ?_⟩, by simp [intOf]; omega⟩
     have e : Mur.wTo b (k + 1) = (Mur.wTo b k).set k ((Mur.wTo b k)[k - 16]?.getD 0 + Mur.ssig0 ((Mur.wTo b k)[k - 15]?.getD 0) + (Mur.wTo b k)[k - 7]?.getD 0 + Mur.ssig1 ((Mur.wTo b k)[k - 2]?.getD 0)) := by
      conv => lhs; unfold Mur.wTo
      rw [Mur.wNext, if_neg (by omega)]
      simp only [List.getD_eq_getElem?_getD]
     rw [e]
     exact HL.set _ _ _
    ·obtain rfl : k = 64 := by omega
     obtain ⟨W, hW⟩ : ∃ W, W = Mur.wTo b 64 := ⟨_, rfl⟩
     rw [← hW] at HL
     have HW := Go.Lib.hid hW; clear hW
     have hsz := HL.2.1
     have HS := Go.Lib.hid hsz; clear hsz
     go_wp2_with (first
      | (refine wpList_load_row rfl 101 (.tmp 3) rfl w.heap.size rfl 101 (stCells h) (0, 0) _ HL.2.2.1 Tryz.underlying101 rfl (by kernel_rfl) ?_)
      | (refine Mur.wpList_put rfl 101 (.tmp 13) (.tmp 84) rfl wr.heap.size (stCells h) rfl rfl 101 (u32s (List.replicate 8 0)) (Mur.hp_a1 _ _) (by kernel_rfl) (by kernel_rfl) (stCells_all _) ?_; intro w3 hp3 hw3; have hp3' := Go.Lib.hid hp3; clear hp3))
     have HL3 : L10 w h W h w3 := by
      rw [HS.out] at hp3' hw3
      exact ⟨((HL.1.alloc (by rw [HS.out]; omega) _).trans (hw3.below (by omega))), hw3.hp (by omega) (Mur.hp_old HL.2.2.1 _), hw3.hp (by omega) (Mur.hp_old HL.2.2.2.1 _), hw3.hp (by omega) (Mur.hp_old HL.2.2.2.2.1 _), hw3.hp (by omega) (Mur.hp_old HL.2.2.2.2.2 _), hp3'.out⟩
     clear HL hp3' hw3
     rw [HS.out]
     go_loopw [14] (fun t wr => ∃ (k : Nat) (s : St), k ≤ 64 ∧ t = .int .i64 k ∧ Hid (s = Mur.roundsTo W h k) ∧ L10 w h W s wr) (fun t _ => 64 - (intOf t).toNat)
     case atStart => exact ⟨0, h, by omega, rfl, Go.Lib.hid rfl, HL3⟩
     case round =>
      clear HL3
      obtain ⟨k, s, hk, rfl, hs, HL⟩ := hrel
      by_cases hlt : k < 64
      ·have hl : s.toList.length = 8 := rfl
       have HP : wr.heap[w.heap.size + 1 + 1 + 1 + 1]? = some (.cells (u32s s.toList) 101 (0, 0)) := HL.2.2.2.2.2
       have d0 := cell_u32s (i := 0) HP (by omega)
       have d1 := cell_u32s (i := 1) HP (by omega)
       have d2 := cell_u32s (i := 2) HP (by omega)
       have d3 := cell_u32s (i := 3) HP (by omega)
       have d4 := cell_u32s (i := 4) HP (by omega)
       have d5 := cell_u32s (i := 5) HP (by omega)
       have d6 := cell_u32s (i := 6) HP (by omega)
       have d7 := cell_u32s (i := 7) HP (by omega)
       simp only [St.toList, List.getD_cons_zero, List.getD_cons_succ] at d0 d1 d2 d3 d4 d5 d6 d7
       have cw := cell_u32s (i := k) HL.2.2.2.2.1 (by rw [HW.out, Mur.wTo_length]; omega)
       have ck := cell_u32s (i := k) HL.2.2.1 (by rw [Mur.K_length]; omega)
       obtain ⟨kk, hkk⟩ : ∃ y, Mur.K.getD k 0 = y := ⟨_, rfl⟩
       obtain ⟨ww, hww⟩ : ∃ y, W.getD k 0 = y := ⟨_, rfl⟩
       rw [hkk] at ck
       rw [hww] at cw
       have HKK := Go.Lib.hid hkk; clear hkk
       have HWW := Go.Lib.hid hww; clear hww
       clear hl HP
       go_wp2
       go_quiet (fail)
       go_wp2
       go_quiet (exact Mur.q_of2 (turn_any _ _ (by decide)))
       go_wp2
       go_quiet (exact Mur.q_of2 (turn_any _ _ (by decide)))
       have fr := HL.2.2.2.2.2
       clear d7
       go_wp2_with (first
        | (refine Mur.wpList_put rfl 101 (.tmp 13) (.tmp 166) rfl (w.heap.size + 1 + 1 + 1 + 1) (stCells (Mur.stepSt s kk ww)) rfl rfl 101 (stCells s) fr (by kernel_rfl) (by kernel_rfl) (stCells_all _) ?_; intro w5 hp5 hw5; have hp5' := Go.Lib.hid hp5; clear hp5))
       refine ⟨⟨k + 1, Mur.stepSt s kk ww, by omega, by go_num, ?_, ?_⟩, by simp [intOf]; omega⟩
       ·exact Go.Lib.hid (by rw [hs.out, ← HKK.out, ← HWW.out]; rfl)
       ·exact (HL.drewN _).wrote hw5 hp5'.out
      ·obtain rfl : k = 64 := by omega
       go_wp2
       go_loopw [19] (fun t wr => ∃ k : Nat, k ≤ 8 ∧ t = .int .i64 k ∧ L11 w h (sAdd s.toList h.toList k) wr) (fun t _ => 8 - (intOf t).toNat)
       case atStart => exact ⟨0, by omega, rfl, HL.2.1, HL.1, HL.2.2.2.1, HL.2.2.2.2.2⟩
       case round =>
        clear HL
        obtain ⟨k, hk, rfl, HL⟩ := hrel
        by_cases hlt : k < 8
        ·have hl : h.toList.length = 8 := rfl
         have hl2 : (sAdd s.toList h.toList k).length = 8 := sAdd_length _ _ _
         have HP : wr.heap[w.heap.size]? = some (.cells (u32s h.toList) 101 (0, 0)) := HL.1
         have c1 := cell_u32s (i := k) HP (by omega)
         have c2 := cell_u32s (i := k) HL.2.2.2 (by omega)
         have fk := free_row (i := k) HL.2.2.2
         obtain ⟨x, hx⟩ : ∃ y, h.toList.getD k 0 = y := ⟨_, rfl⟩
         obtain ⟨z, hz⟩ : ∃ y, (sAdd s.toList h.toList k).getD k 0 = y := ⟨_, rfl⟩
         rw [hx] at c1
         rw [hz] at c2
         have HX := Go.Lib.hid hx; clear hx
         have HZ := Go.Lib.hid hz; clear hz
         clear HP hl hl2
         go_wp2
         refine Mur.wp_quiet_tail 9 (by kernel_rfl) (by kernel_rfl) ?_
         simp only [List.take_succ_cons, List.take_zero, List.drop_succ_cons, List.drop_zero]
         repeat (go_big_quiet_step (fail))
         refine wpQuiet_nil ?_
         rintro _ ⟨nq, rfl⟩
         go_wp2
         refine ⟨⟨k + 1, by omega, by go_num, ?_⟩, by simp [intOf]; omega⟩
         have e : sAdd s.toList h.toList (k + 1) = (sAdd s.toList h.toList k).set k (z + x) := by rw [← HX.out, ← HZ.out]; rfl
         rw [e]
         exact HL.put _ _ _
        ·obtain rfl : k = 8 := by omega
         obtain ⟨T, hT⟩ : ∃ T : St, T = Mur.addSt h s := ⟨_, rfl⟩
         have eT : u32s (sAdd s.toList h.toList 8) = stCells T := by
          rw [hT]
          show u32s (sAdd s.toList h.toList 8) = u32s (Mur.addSt h s).toList
          congr 1
          simp [Mur.addSt, St.toList, sAdd, UInt32.add_comm]
         have HT := Go.Lib.hid hT; clear hT
         have HR := HL.2.2.2
         rw [eT] at HR
         clear eT
         go_wp2_with (first
          | (refine wpList_load_row rfl 101 (.tmp 13) rfl (w.heap.size + 1 + 1 + 1 + 1) rfl 101 (stCells T) (0, 0) _ HR Tryz.underlying101 rfl (by kernel_rfl) ?_)
          | (refine Mur.wpList_put rfl 101 (.tmp 6) (.tmp 180) rfl (w.heap.size + 1 + 1) (stCells T) rfl rfl 101 (u32s (List.replicate 8 0)) HL.2.2.1 (by kernel_rfl) (by kernel_rfl) (stCells_all T) ?_; intro w5 hp5 hw5; have hp5' := Go.Lib.hid hp5; clear hp5))
         refine bodyPost_ret (v := .agg (stCells T)) (results_cell_row rfl _ _ (w.heap.size + 1 + 1) 101 (stCells T) (0, 0) _ rfl hp5'.out Tryz.underlying101 rfl (by kernel_rfl)) rfl ⟨T, ?_, rfl, HL.2.1.trans (hw5.below (by omega))⟩
         exact Go.Lib.hid (by rw [HT.out, hs.out, HW.out]; rfl)
end Go.Proofs.YtgbadghjnpbiaaaGreatDoor
namespace Go.Proofs.YtgbadghjnpbiaaaGreatDoor
open Go.RowKit
open Mur (St w32 u32s cell_u32s free_row set_u32s b8s dgV Byt cutA)
theorem padded_eq (b : List UInt8) : Mur.padded b = b ++ [128] ++ List.replicate (Mur.padZeros b.length) 0 ++ lenBytes b.length := rfl
set_option maxRecDepth 100000
set_option maxHeartbeats 4000000
theorem padded_any (b : List UInt8) (A : Option Addr) (n c : Nat) (w : World) (hb : Byt w A n b) (_hnc : n ≤ c) (hA : A = none → c = 0) (hn : n ≤ 140737488351232) :
  Calls Tryz.prog 106 #[.slice A n c] w fun e w' => ∃ v M T, Hid (T = Mur.padded b) ∧ e = .returned v ∧ w'.ownsRow w.heap.size 5 1 v M (b8s T) ∧ Below w.heap.size w w' := by
 have HB := Go.Lib.hid hb; clear hb
 have HA := Go.Lib.hid hA; clear hA
 go_enter Tryz.func106, Tryz.ntmps106
 go_wp2_with (first
  | (at_builtin; refine Mur.wpList_append_byt (w0 := w) w.heap.size rfl (.tmp 6) (.tmp 7) 22 5 rfl Tryz.underlying22 (by kernel_rfl) (.slice (some ⟨w.heap.size, 0, none⟩) 0 0) 0 [] b A n c rfl rfl (World.ownsRow_made w #[] 0 (Nat.le_refl _) (by unfold maxLen; omega) rfl) (HB.out.below ((Below.refl _ _).alloc (Nat.le_refl _) _)) HA.out ((Below.refl _ _).alloc (Nat.le_refl _) _) (by simp) (by omega) ?_; intro v1 w1 HO1 HB1 hg1 hat1)
  | (at_builtin; refine Mur.wpList_append_byt (w0 := w) w.heap.size rfl (.tmp 9) (.tmp 10) 22 5 rfl Tryz.underlying22 (by kernel_rfl) v1 (0 + n) ([] ++ b) [128] (some ⟨w1.heap.size, 0, none⟩) 1 1 rfl rfl (HO1.alloc _) (Mur.Byt_box _ _ _) (fun h => by cases h) (HB1.alloc HB1.size _) (by have := HB1.size; simp; omega) (by omega) ?_; intro v2 w2 HO2 HB2 hg2 hat2))
 rw [List.nil_append, Nat.zero_add] at HO2
 go_loopw [3] (fun v wr => ∃ (z N : Nat) (T : List UInt8), z ≤ Mur.padZeros n ∧ lenOf v = N ∧ Hid (N = n + 1 + z) ∧ N ≤ n + 65 ∧ Hid (T = b ++ [128] ++ List.replicate z 0) ∧ wr.ownsRow w.heap.size 5 1 v N (b8s T) ∧ Below w.heap.size w wr)
  (fun v _ => n + 100 - lenOf v)
 case atStart =>
  refine ⟨0, n + 1, _, by omega, ?_, rfl, by omega, Go.Lib.hid (by simp), HO2, HB2⟩
  obtain ⟨_, _, rfl, _⟩ := Mur.own_byt HO2
  rfl
 case round =>
  clear HO1 HO2 HB1 HB2
  obtain ⟨z, N, T, hz, hv, HN2, hN2, HT, HO, HL⟩ := hrel
  obtain ⟨A3, c3, rfl, hc3, hm3, HB3⟩ := Mur.own_byt HO
  clear hv
  have hz64 := (Mur.padZeros_spec n).2
  have hsz := HL.size
  by_cases hlt : z < Mur.padZeros n
  ·have t1 : ((((N : Nat) : Int) % 64) != 56) = true := by
    have := (Mur.padZeros_spec n).1; have := HN2.out; rw [bne_iff_ne]; omega
   have hN3 : N ≤ n + 64 := by have := HN2.out; omega
   go_wp2_with (at_builtin; refine Mur.wpList_append_byt (w0 := wr) w.heap.size rfl (.tmp 16) (.tmp 17) 22 5 rfl Tryz.underlying22 (by kernel_rfl) (.slice A3 N c3) N T [0] (some ⟨wr.heap.size, 0, none⟩) 1 1 rfl rfl (HO.alloc _) (Mur.Byt_box _ _ _) (fun h => by cases h) ((Below.refl _ _).alloc hsz _) (by simp; omega) (by omega) ?_; intro v4 w4 HO4 HB4 hg4 hat4)
   obtain ⟨A5, c5, rfl, _⟩ := Mur.own_byt HO4
   refine ⟨⟨z + 1, N + 1, T ++ [0], by omega, rfl, Go.Lib.hid (by have := HN2.out; omega), by omega, Go.Lib.hid ?_, HO4, HL.trans HB4⟩, by simp [lenOf]; omega⟩
   rw [HT.out, List.replicate_succ']
   simp
  ·have hz' : Hid (z = Mur.padZeros n) := Go.Lib.hid (by omega)
   have t1 : ((((N : Nat) : Int) % 64) != 56) = false := by
    have := (Mur.padZeros_spec n).1; have := HN2.out; have := hz'.out; rw [bne_eq_false_iff_eq]; omega
   have T0 : Hid (T = b ++ [128] ++ List.replicate (Mur.padZeros n) 0) := Go.Lib.hid (by rw [HT.out, hz'.out])
   clear HT HN2 hz'
   go_wp2
   go_loopw [3, 5] (fun v i wr => ∃ (k M : Nat) (T' : List UInt8) (iv : Int), k ≤ 8 ∧ i = .int .i64 iv ∧ Hid (iv = 7 - (k : Int)) ∧ lenOf v = M ∧ Hid (M = N + k) ∧ M ≤ n + 73 ∧ Hid (T' = T ++ (lenBytes n).take k) ∧ wr.ownsRow w.heap.size 5 1 v M (b8s T') ∧ Below w.heap.size w wr)
    (fun _ i _ => (intOf i + 8).toNat)
   case atStart => exact ⟨0, N, T, 7, by omega, rfl, Go.Lib.hid (by omega), rfl, rfl, by omega, Go.Lib.hid (by simp), HO, HL⟩
   case round =>
    clear HO HL HB3
    obtain ⟨k, M, T', iv, hk, rfl, hiv, hv, HM2, hM2, HT, HO, HL⟩ := hrel
    obtain ⟨A3, c3, rfl, hc3, hm3, HB3⟩ := Mur.own_byt HO
    clear hv
    have hsz := HL.size
    by_cases hlt : k < 8
    ·obtain rfl : iv = 7 - (k : Int) := hiv.out
     have hM3 : M ≤ n + 72 := by have := HM2.out; omega
     obtain ⟨x, hx, hX⟩ : ∃ x : UInt8, Hid (x = Mur.byteBE (8 * n) (56 - 8 * k)) ∧ (n : Int) * 8 / 2 ^ (8 * (7 - k)) % 256 = (x.toNat : Int) := ⟨_, rfl, by rw [show 8 * (7 - k) = 56 - 8 * k by omega]; exact byte_shape n _⟩
     go_wp2_with (at_builtin; refine Mur.wpList_append_byt (w0 := wr) w.heap.size rfl (.tmp 27) (.tmp 34) 22 5 rfl Tryz.underlying22 (by kernel_rfl) (.slice A3 M c3) M T' [x] (some ⟨wr.heap.size, 0, none⟩) 1 1 rfl rfl (HO.alloc _) (Mur.Byt_box _ _ _) (fun h => by cases h) ((Below.refl _ _).alloc hsz _) (by simp; omega) (by omega) ?_; intro v4 w4 HO4 HB4 hg4 hat4)
     obtain ⟨A5, c5, rfl, _⟩ := Mur.own_byt HO4
     refine ⟨⟨k + 1, M + 1, T' ++ [x], _, by omega, rfl, Go.Lib.hid (by omega), rfl, Go.Lib.hid (by have := HM2.out; omega), by omega, Go.Lib.hid ?_, HO4, HL.trans HB4⟩, by simp [intOf]; omega⟩
     rw [HT.out, hx.out, lenBytes_take n k hlt]
     simp
    ·obtain rfl : k = 8 := by omega
     have hivn : iv < 0 := by have := hiv.out; omega
     go_wp2
     refine bodyPost_ret (v := .slice A3 M c3) (by kernel_rfl) rfl ⟨_, M, T', Go.Lib.hid ?_, rfl, HO, HL⟩
     rw [HT.out, T0.out, padded_eq, HB.out.1]
     rfl
end Go.Proofs.YtgbadghjnpbiaaaGreatDoor
namespace Mur
open Go Go.RowKit
section
variable {P : Program} {ops : Array Oper} {rest : List Oper} {o : Oper} {a : Act} {C : World → Prop} {Q : Act → Prop}
theorem wpQuiet_call (hgd : o.guard = none) (f : FuncId) (xs : Array Operand) (ts : Array TypeId) (ho : o.op = .call { callee := .value (.func f), args := xs, argTypes := ts })
  (v : Value) (vals : Array Value) (hv : xs.map a.eval = vals) (hrun : ∀ w, (callFunc f vals).run P w = .ok (.enter f vals) w) (hc : ∀ w, C w → Calls P f vals w fun e w' => e = .returned v ∧ C w')
  (h : wpQuiet P ops C Q rest (a.put o.dst v)) : wpQuiet P ops C Q (o :: rest) a := by
 obtain ⟨dst, op, ty, pos, after, guard⟩ := o
 simp only at ho hgd
 subst ho hgd
 refine BigFrame.wpQuiet_want (by simp [Region.wanted]) fun K hK => ⟨v, fun w hw => ?_, hK _ h⟩
 unfold Oper.quietAt
 rw [execOp_call_go, hv, show #[] ++ vals ++ #[] = vals by simp, hrun]
 exact ⟨rfl, hc w hw⟩
theorem wpQuiet_cut (hgd : o.guard = none) (t : TypeId) (x y z : Operand) (ho : o.op = .slice t x (some y) (some z) none) (e : TypeId) (ht : P.underlying t = some (.slice e)) (hsz : (P.info? e).map (·.size) = some 1)
  (A : Option Addr) (n c l m : Nat) (hx : a.eval x = .slice A n c) (hy : a.eval y = .int .i64 (l : Int)) (hz : a.eval z = .int .i64 (m : Int)) (hl : l ≤ m) (hm : m ≤ n) (hnc : n ≤ c)
  (h : wpQuiet P ops C Q rest (a.put o.dst (.slice (cutA A c l) (m - l) (c - l)))) : wpQuiet P ops C Q (o :: rest) a := by
 refine BigFrame.wpQuiet_want (by simp [Region.wanted, hgd]) fun K hK => ⟨_, fun w hw => ?_, hK _ h⟩
 unfold Oper.quietAt execOp
 simp only [ho, hx, hy, hz, Option.map_some, Option.map_none, Sem.run_bind, run_cut t e ht hsz A n c l m hl hm hnc, Result.andThen_ok, Sem.run_pure]
 exact ⟨rfl, rfl⟩
end
end Mur
namespace Go.Proofs.YtgbadghjnpbiaaaGreatDoor
open Go.RowKit
open Mur (St w32 u32s cell_u32s free_row set_u32s b8s dgV Byt cutA)
def L12 (w : World) (s : St) (wr : World) : Prop :=
 Below w.heap.size w wr ∧ w.heap.size + 3 ≤ wr.heap.size ∧ wr.heap[w.heap.size]? = some (.cells (stCells s) 101 (0, 0)) ∧ wr.heap[w.heap.size + 1]? = some (.cells (u32s Mur.K) 102 (0, 0)) ∧
 wr.heap[w.heap.size + 1 + 1]? = some (.cells (b8s (List.replicate 32 0)).toArray 28 (0, 0))
def L13 (w : World) (s : St) (D : Nat) (d : List UInt8) (wr : World) : Prop :=
 Below w.heap.size w wr ∧ wr.heap[w.heap.size]? = some (.cells (stCells s) 101 (0, 0)) ∧ wr.heap[w.heap.size + 1 + 1]? = some (.cells (b8s (List.replicate 32 0)).toArray 28 (0, 0)) ∧
 wr.heap[D]? = some (.cells (b8s d).toArray 28 (0, 0))
theorem L13.setD {w wr : World} {s : St} {D : Nat} {d : List UInt8} (h : L13 w s D d wr) (hD : w.heap.size + 3 ≤ D) (k : Nat) (x : UInt8) : L13 w s D (d.set k x) (wr.setCell ⟨D, k, none⟩ (.int .u8 (x.toNat : Int))) :=
 ⟨h.1.setCell (by simp; omega) _, Mur.hp_set_ne h.2.1 _ _ _ (by omega), Mur.hp_set_ne h.2.2.1 _ _ _ (by omega), Mur.set_b8s h.2.2.2 x⟩
set_option maxRecDepth 100000
set_option maxHeartbeats 4000000
theorem Rsum_any (b : List UInt8) (A : Option Addr) (n c : Nat) (w : World) (hb : Byt w A n b) (hnc : n ≤ c) (hA : A = none → c = 0) (hn : n ≤ 140737488351232) :
  Calls Tryz.prog 92 #[.agg (stCells Mur.H0), .agg (u32s Mur.K), .slice A n c] w fun e w' => ∃ d, Hid (d = Mur.sha b) ∧ d.length = 32 ∧ e = .returned (.agg (b8s d).toArray) ∧ Below w.heap.size w w' := by
 have HB := Go.Lib.hid hb; clear hb
 have HA := Go.Lib.hid hA; clear hA
 obtain ⟨s0, hs0⟩ : ∃ s, s = Mur.H0 := ⟨_, rfl⟩
 rw [← hs0]
 have HS0 := Go.Lib.hid hs0; clear hs0
 go_enter Tryz.func92, Tryz.ntmps92
 have hb3 : ∀ x y z, Below w.heap.size w (((w.alloc x).alloc y).alloc z) := fun x y z => (((Below.refl _ _).alloc (Nat.le_refl _) _).alloc (by simp) _).alloc (by simp; omega) _
 have HB3 := Go.Lib.hid hb3; clear hb3
 go_wp2_with (first
  | (go_at_call 106; refine (padded_any b A n c _ (HB.out.below (HB3.out _ _ _)) hnc HA.out hn).mono ?_; rintro e w2 ⟨v, M, T, HT, rfl, HO, hB2⟩))
 have hbase : ∀ x y z, (((w.alloc x).alloc y).alloc z).heap.size = w.heap.size + 3 := fun x y z => by simp
 have HSZ := Go.Lib.hid hbase; clear hbase
 rw [HSZ.out] at HO
 have hL : L12 w s0 w2 := ⟨(HB3.out _ _ _).trans (hB2.mono (by rw [HSZ.out]; omega)), by have := hB2.size; rw [HSZ.out] at this; exact this, Mur.hp_below hB2 (Mur.hp_old (Mur.hp_old (Mur.hp_a1 _ _) _) _), Mur.hp_below hB2 (Mur.hp_old (Mur.hp_a2 _ _ _) _), Mur.hp_below hB2 ((Mur.hp_a3 _ _ _ _).trans rfl)⟩
 obtain ⟨A3, c3, rfl, hc3, hm3, HB4⟩ := Mur.own_byt HO
 have HlA : Hid (∀ a, A3 = some a → w.heap.size + 3 ≤ a.block ∧ a.block < w2.heap.size) := Go.Lib.hid (fun a ha => by subst ha; exact HO.lt _ rfl)
 clear HO
 have HTl : Hid (T.length = M) := HB4.1
 have HTm : Hid (T.length % 64 = 0) := Go.Lib.hid (by rw [HT.out]; exact Mur.padded_mod b)
 have hM : M ≤ 140737488355328 := by
  have h1 := HTl.out
  have h2 := Mur.padded_length b
  have h3 := (Mur.padZeros_spec b.length).2
  have h4 : b.length = n := HB.out.1
  rw [HT.out] at h1
  omega
 have hzK : (u32s Mur.K).size = 64 := by simp [u32s, Mur.K_length]
 have HZK := Go.Lib.hid hzK; clear hzK
 go_loopw [8] (fun t wr => ∃ (j : Nat) (s : St), t = .int .i64 ((64 * j : Nat) : Int) ∧ 64 * j ≤ M ∧ Hid (s = Mur.blocks s0 T j) ∧ L12 w s wr ∧ Hid (∀ k, w.heap.size + 3 ≤ k → k < w2.heap.size → wr.heap[k]? = w2.heap[k]?) ∧ w2.heap.size ≤ wr.heap.size)
  (fun t _ => M - (intOf t).toNat)
 case atStart => exact ⟨0, s0, rfl, by omega, rfl, hL, fun _ _ _ => rfl, Nat.le_refl _⟩
 case round =>
  clear hL hB2
  obtain ⟨j, s, rfl, hjM, hs, HL, HK, hsz⟩ := hrel
  by_cases hlt : 64 * j < M
  ·have h64 : 64 * j + 64 ≤ M := by have := HTl.out; have := HTm.out; omega
   obtain ⟨g, off, hA3, hcell⟩ := (HB4.cut (c := c3) (64 * j) (64 * j + 64) (by omega) h64 hc3).2 (by omega)
   have hcell' : ∀ i, i < 64 → w2.cell? ⟨g, off + i, none⟩ = some (.int .u8 ((((T.take (64 * j + 64)).drop (64 * j)).getD i 0).toNat : Int)) := fun i hi => hcell i (by omega)
   clear hcell
   obtain ⟨L, hLL⟩ : ∃ L, L = (T.take (64 * j + 64)).drop (64 * j) := ⟨_, rfl⟩
   rw [← hLL] at hcell'
   have HLL := Go.Lib.hid hLL; clear hLL
   have HC := Go.Lib.hid hcell'; clear hcell'
   obtain ⟨a3, rfl⟩ : ∃ a, A3 = some a := by
    rcases A3 with _ | a
    ·simp [cutA] at hA3
    ·exact ⟨a, rfl⟩
   have hgb : g = a3.block := (Mur.cutA_block hA3)
   obtain ⟨hg1, hg2⟩ := HlA.out _ rfl
   have hg3 : g < wr.heap.size := by rw [hgb]; exact Nat.lt_of_lt_of_le hg2 hsz
   have HCr : Hid (∀ i, i < 64 → wr.cell? ⟨g, off + i, none⟩ = some (.int .u8 ((L.getD i 0).toNat : Int))) := fun i hi => (World.cell?_of_block (w := w2) (a := ⟨g, off + i, none⟩) (HK.out g (by rw [hgb]; exact hg1) (by rw [hgb]; exact hg2))).trans (HC.out i hi)
   have HA3 := Go.Lib.hid hA3; clear hA3
   obtain ⟨t, ht⟩ : ∃ t, Hid (t = Mur.block s L) := ⟨_, rfl⟩
   go_wp2
   refine Mur.wp_quiet_tail_class (C := fun w' => Below wr.heap.size wr w') 8 (by kernel_rfl) (by kernel_rfl) ⟨rfl, rfl, rfl, Nat.le_refl _, fun _ _ => rfl⟩ ?_
   simp only [List.take_succ_cons, List.take_zero, List.drop_succ_cons, List.drop_zero]
   refine Mur.wpQuiet_load_row rfl 101 (.tmp 3) rfl w.heap.size rfl 101 (stCells s) (0, 0) _ (fun w' h => (h.block _ (by have := HL.2.1; omega)).trans HL.2.2.1) Tryz.underlying101 rfl (by kernel_rfl) ?_
   refine Mur.wpQuiet_load_row rfl 102 (.tmp 4) rfl (w.heap.size + 1) rfl 102 (u32s Mur.K) (0, 0) _ (fun w' h => (h.block _ (by have := HL.2.1; omega)).trans HL.2.2.2.1) Tryz.underlying102 rfl (by rw [HZK.out]; kernel_rfl) ?_
   simp only [Act.put, List.setIfInBounds_toArray, List.set_cons_succ, List.set_cons_zero]
   go_big_quiet_step (fail)
   go_big_quiet_step (fail)
   go_big_quiet_step (fail)
   go_big_quiet_step (exact fun _ => rfl)
   refine Mur.wpQuiet_cut rfl 22 (.tmp 21) (.tmp 22) (.tmp 24) rfl 5 Tryz.underlying22 (by kernel_rfl) (some a3) M c3 (64 * j) (64 * j + 64) rfl (by go_num) (by go_num) (by omega) h64 hc3 ?_
   rw [HA3.out, show 64 * j + 64 - 64 * j = 64 by omega]
   simp only [Act.put, List.setIfInBounds_toArray, List.set_cons_succ, List.set_cons_zero]
   refine Mur.wpQuiet_call rfl 107 _ _ rfl (.agg (stCells t)) #[.agg (stCells s), .agg (u32s Mur.K), .slice (some ⟨g, off, none⟩) 64 (c3 - 64 * j)] (by simp [Act.eval]) (fun w => by kernel_rfl) ?_ ?_
   ·intro w' hw'
    refine (rblock_any s L g off 64 (c3 - 64 * j) w' (fun i hi => (hw'.cell (p := ⟨g, off + i, none⟩) hg3).trans (HCr.out i hi)) (by omega) (by omega) (by have := hw'.size; omega)).mono ?_
    rintro e w3 ⟨t', ht', rfl, hB3⟩
    refine ⟨?_, Mur.below_then hw' hw'.size hB3⟩
    rw [ht'.out, ht.out]
   ·refine wpQuiet_nil ?_
    intro w3 hw3
    have HL3 : L12 w s w3 := ⟨HL.1.trans (hw3.mono (by have := HL.2.1; omega)), Nat.le_trans HL.2.1 hw3.size, (hw3.block _ (by have := HL.2.1; omega)).trans HL.2.2.1, (hw3.block _ (by have := HL.2.1; omega)).trans HL.2.2.2.1, (hw3.block _ (by have := HL.2.1; omega)).trans HL.2.2.2.2⟩
    go_wp2_with (refine Mur.wpList_put rfl 101 (.tmp 3) (.tmp 26) rfl w.heap.size (stCells t) rfl rfl 101 (stCells s) HL3.2.2.1 (by kernel_rfl) (by kernel_rfl) (stCells_all t) ?_; intro w5 hp5 hw5; have hp5' := Go.Lib.hid hp5; clear hp5)
    refine ⟨⟨j + 1, t, by go_num, by omega, Go.Lib.hid ?_, ⟨HL3.1.trans (hw5.below (Nat.le_refl _)), by rw [hw5.size]; exact HL3.2.1, hp5'.out, hw5.hp (by omega) HL3.2.2.2.1, hw5.hp (by omega) HL3.2.2.2.2⟩, Go.Lib.hid (fun k h1 h2 => ?_), ?_⟩, by simp [intOf]; omega⟩
    ·rw [ht.out, hs.out, HLL.out, Mur.blocks_last, List.drop_take, show 64 * j + 64 - 64 * j = 64 by omega]
    ·rw [hw5.block k (by omega), hw3.block k (by omega)]
     exact HK.out k h1 h2
    ·rw [hw5.size]
     exact Nat.le_trans hsz hw3.size
  ·have HD : Hid (Mur.dig s = Mur.sha b) := Go.Lib.hid (by
    rw [hs.out, HS0.out, Mur.sha, ← HT.out]
    have h1 := HTl.out
    rw [show T.length / 64 = j by omega])
   have hsz3 := HL.2.1
   clear HTl HTm HK hs HB4 HlA
   go_wp2
   obtain ⟨wt, rfl⟩ : ∃ wt : World, wt = wr := ⟨_, rfl⟩
   go_loopw [10] (fun t wq => ∃ i : Nat, i ≤ 32 ∧ t = .int .i64 i ∧ L13 w s wt.heap.size (digTo s i) wq) (fun t _ => 32 - (intOf t).toNat)
   case atStart => exact ⟨0, by omega, rfl, ⟨HL.1.alloc (by omega) _, Mur.hp_old HL.2.2.1 _, Mur.hp_old HL.2.2.2.2 _, (Mur.hp_a1 _ _).trans rfl⟩⟩
   case round =>
    obtain ⟨q, hq, rfl, HL⟩ := hrel
    by_cases hlt : q < 32
    ·have cs := cell_u32s (l := s.toList) (i := q / 4) HL.2.1 (by show q / 4 < 8; omega)
     have cd := Mur.cell_b8s (i := q) HL.2.2.2 (by rw [digTo_length]; exact hlt)
     have fd := free_row (i := q) HL.2.2.2
     go_wp2
     refine ⟨⟨q + 1, by omega, by go_num, ?_⟩, by simp [intOf]; omega⟩
     rw [dig_shape, digTo_succ s q hlt]
     exact HL.setD hsz3 _ _
    ·obtain rfl : q = 32 := by omega
     have hz : (b8s (digTo s 32)).toArray.size = 32 := by rw [List.size_toArray, Mur.b8s_length, digTo_length]
     have hz0 : (b8s (List.replicate 32 0)).toArray.size = 32 := by rw [List.size_toArray, Mur.b8s_length, List.length_replicate]
     have hd : digTo s 32 = Mur.dig s := digTo_all s
     have HZ := Go.Lib.hid hz; clear hz
     have HZ0 := Go.Lib.hid hz0; clear hz0
     have HDD := Go.Lib.hid hd; clear hd
     go_wp2_with (first
      | (refine wpList_load_row rfl 28 (.tmp 9) rfl wt.heap.size rfl 28 (b8s (digTo s 32)).toArray (0, 0) _ HL.2.2.2 Tryz.underlying28 rfl (by rw [HZ.out]; kernel_rfl) ?_)
      | (refine Mur.wpList_put rfl 28 (.tmp 6) (.tmp 44) rfl (w.heap.size + 1 + 1) (b8s (digTo s 32)).toArray rfl rfl 28 (b8s (List.replicate 32 0)).toArray HL.2.2.1 (by rw [HZ.out]; kernel_rfl) (by rw [HZ.out, HZ0.out]) (Mur.b8s_all _) ?_; intro w5 hp5 hw5; have hp5' := Go.Lib.hid hp5; clear hp5))
     refine bodyPost_ret (v := .agg (b8s (digTo s 32)).toArray) (results_cell_row rfl _ _ (w.heap.size + 1 + 1) 28 (b8s (digTo s 32)).toArray (0, 0) _ rfl hp5'.out Tryz.underlying28 rfl (by rw [HZ.out]; kernel_rfl)) rfl ⟨digTo s 32, Go.Lib.hid (HDD.out.trans HD.out), digTo_length s 32, rfl, HL.1.trans (hw5.below (by omega))⟩
end Go.Proofs.YtgbadghjnpbiaaaGreatDoor
namespace Mur
open Go Go.RowKit Wk
section
variable {P : Program} {w : World} {a : Act} {o : Oper}
theorem storeArr (ty : TypeId) (x y : Operand) (ho : o.op = .store ty x y) (g : Nat) (hx : a.eval x = .pointer (some ⟨g, 0, none⟩)) (vs : Array Value) (n : Nat) (hv : vs.size = n) (h1 : vs.all (·.oneCell') = true) (hy : a.eval y = .agg vs) (hi : (P.info? ty).map (·.size) = some n)
  (t : TypeId) (cs : Array Value) (hg : w.heap[g]? = some (.cells cs t (0, 0))) (hn : cs.size = n) :
  ∃ w', (execOp a.eval o).run P w = .ok .skip w' ∧ w'.heap[g]? = some (.cells vs t (0, 0)) ∧ Chg [g] w w' := by
 obtain ⟨vl⟩ := vs
 have hvl : vl.length = n := hv
 have h1' : ∀ v ∈ vl, v.oneCell' = true := fun v hm => Array.all_eq_true_iff_forall_mem.1 h1 v (by simpa using hm)
 obtain ⟨w', q1, q2, q3⟩ := storeR (P := P) ty x y ho g 0 hx vl hy (by rw [hi, hvl]) h1' t cs.toList (by simpa using hg) (by rw [hvl, Array.length_toList, hn]; omega)
 refine ⟨w', q1, ?_, q3⟩
 rw [q2]
 congr 2
 have hdrop : cs.toList.drop (0 + vl.length) = [] := List.drop_of_length_le (by rw [hvl, Array.length_toList, hn]; omega)
 unfold splice
 rw [hdrop]
 simp
theorem loadArr (ty : TypeId) (x : Operand) (ho : o.op = .load ty x) (d : TypeDesc) (hu : P.underlying ty = some d) (hd : d.isRow = true) (g : Nat) (hx : a.eval x = .pointer (some ⟨g, 0, none⟩)) (cs : Array Value) (n : Nat) (hn : cs.size = n)
  (hi : (P.info? ty).map (·.size) = some n) (t : TypeId) (fr : Nat × Nat) (hg : w.heap[g]? = some (.cells cs t fr)) : (execOp a.eval o).run P w = .ok (.value (.agg cs)) w := by
 obtain ⟨l⟩ := cs
 exact loadR ty x ho d hu hd g 0 hx l (by rw [hi]; exact congrArg some hn.symm) (range_row hg)
end
theorem rkey_small {s : List UInt8} {n z : Nat} (h : s.length = n) (hn : n ≤ 64) (hz : n + z = 64) : s ++ List.replicate z 0 = hkey s := by
 have h1 : hkey0 s = s := if_neg (by omega)
 unfold hkey
 rw [h1, h, show 64 - n = z by omega]
theorem rkey_big {s d : List UInt8} {z : Nat} (h : 64 < s.length) (hd : d = sha s) (hz : 32 + z = 64) : d ++ List.replicate z 0 = hkey s := by
 have h1 : hkey0 s = sha s := if_pos h
 unfold hkey
 rw [h1, hd, sha_len, show 64 - 32 = z by omega]
theorem Own8.some {w : World} {base e n c : Nat} {A : Option Addr} {l : List UInt8} (h : Own8 w base e A n c l) (hn : 0 < n) : ∃ g, A = some ⟨g, 0, none⟩ ∧ base ≤ g ∧ g < w.heap.size := by
 obtain ⟨g, rfl, _⟩ := own_some h.own hn
 exact ⟨g, rfl, h.at_ g 0 rfl⟩
theorem rep_snoc {l : List UInt8} {z : Nat} : (l ++ List.replicate z 0) ++ [0] = l ++ List.replicate (z + 1) 0 := by rw [List.append_assoc, ← List.replicate_succ']
end Mur
namespace Go.Proofs.YtgbadghjnpbiaaaGreatDoor
open Go.RowKit
open Mur (St w32 u32s cell_u32s free_row set_u32s b8s dgV Byt cutA)
theorem words_var (w : World) : Calls Tryz.prog 66 #[] w
  fun e w' => ∃ hc kc, Hid (hc = stCells Mur.H0) ∧ Hid (kc = u32s Mur.K) ∧ e = .returned (.tuple #[.agg hc, .agg kc]) ∧ Below w.heap.size w w' :=
 (words_any w).mono fun _ _ ⟨h1, h2⟩ => ⟨_, _, rfl, rfl, h1, h2⟩
theorem Rsum_var (hc kc : Array Value) (Hh : Hid (hc = stCells Mur.H0)) (Hk : Hid (kc = u32s Mur.K)) (b : List UInt8) (A : Option Addr) (n c : Nat) (w : World) (hb : Byt w A n b) (hnc : n ≤ c) (hA : A = none → c = 0) (hn : n ≤ 140737488351232) :
  Calls Tryz.prog 92 #[.agg hc, .agg kc, .slice A n c] w fun e w' => ∃ d, Hid (d = Mur.sha b) ∧ d.length = 32 ∧ e = .returned (.agg (b8s d).toArray) ∧ Below w.heap.size w w' := by
 rw [Hh.out, Hk.out]
 exact Rsum_any b A n c w hb hnc hA hn
theorem hc_size {hc : Array Value} (h : hc = stCells Mur.H0) : hc.size = 8 ∧ hc.all (·.oneCell') = true := by subst h; exact ⟨rfl, stCells_all _⟩
theorem kc_size {kc : Array Value} (h : kc = u32s Mur.K) : kc.size = 64 ∧ kc.all (·.oneCell') = true := by subst h; exact ⟨by simp [u32s, Mur.K_length], Mur.oneCells _⟩
end Go.Proofs.YtgbadghjnpbiaaaGreatDoor
namespace Go
open Wk Mur
section
variable {P : Program} {a : Act} {o : Oper} {w : World}
theorem sB {n : Nat} (vs : Array Value) (hv : vs.size = n) (h1 : vs.all (·.oneCell') = true) {g : Nat} {t : TypeId} {cs : Array Value} (hg : w.heap[g]? = some (.cells cs t (0, 0))) (hn : cs.size = n) {ty : TypeId} {x y : Operand} (ho : o.op = .store ty x y := by exact rfl) (hx : a.eval x = .pointer (some ⟨g, 0, none⟩) := by kernel_rfl) (hy : a.eval y = .agg vs := by kernel_rfl) (hi : (P.info? ty).map (·.size) = some n := by kernel_rfl) :
  ∃ w', (execOp a.eval o).run P w = .ok .skip w' ∧ w'.heap[g]? = some (.cells vs t (0, 0)) ∧ Chg [g] w w' := storeArr ty x y ho g hx vs n hv h1 hy hi t cs hg hn
theorem lA {n g : Nat} {t : TypeId} {fr : Nat × Nat} {cs : Array Value} (hg : w.heap[g]? = some (.cells cs t fr)) (hn : cs.size = n) {ty : TypeId} {x : Operand} (ho : o.op = .load ty x := by exact rfl) (hu : (match P.underlying ty with | some d => d.isRow | none => false) = true := by kernel_rfl) (hx : a.eval x = .pointer (some ⟨g, 0, none⟩) := by kernel_rfl) (hi : (P.info? ty).map (·.size) = some n := by kernel_rfl) : (execOp a.eval o).run P w = .ok (.value (.agg cs)) w := by
 split at hu
 ·rename_i d hd
  exact loadArr ty x ho d hd hu g hx cs n hn hi t fr hg
 ·cases hu
end
end Go
namespace Mur
open Go Go.RowKit Wk
def attC (k r : List UInt8) (n : Int) (t : List UInt8) : List Value := b8s k ++ (b8s r ++ (.int .i64 n :: b8s t))
theorem own8_someq {w : World} {base e n c : Nat} {A : Option Addr} {l : List UInt8} (h : Own8 w base e A n c l) (hn : 0 < n) : ∃ g, A = some ⟨g, 0, none⟩ ∧ base ≤ g ∧ g < w.heap.size := by
 obtain ⟨g, rfl, _⟩ := own_some h.own hn
 exact ⟨g, rfl, h.at_ g 0 rfl⟩
def z32 : List UInt8 := List.replicate 32 0
section
variable {k r t : List UInt8} {n : Int}
theorem attC_length (hk : k.length = 32) (hr : r.length = 32) (ht : t.length = 32) : (attC k r n t).length = 97 := by simp [attC, b8s_length, hk, hr, ht]
theorem attC_size (hk : k.length = 32) (hr : r.length = 32) (ht : t.length = 32) : (attC k r n t).toArray.size = 97 := attC_length hk hr ht
theorem attC_one : ∀ v ∈ attC k r n t, v.oneCell' = true := by
 intro v hv
 simp only [attC, List.mem_append, List.mem_cons] at hv
 rcases hv with h | h | h | h
 ·exact b8s_one k v h
 ·exact b8s_one r v h
 ·subst h; rfl
 ·exact b8s_one t v h
theorem attC_all : (attC k r n t).toArray.all (·.oneCell') = true := Array.all_eq_true_iff_forall_mem.2 fun v hv => attC_one v (by simpa using hv)
theorem attC_zero : (attC z32 z32 0 z32).toArray = #[.int .u8 0, .int .u8 0, .int .u8 0, .int .u8 0, .int .u8 0, .int .u8 0, .int .u8 0, .int .u8 0, .int .u8 0, .int .u8 0, .int .u8 0, .int .u8 0, .int .u8 0, .int .u8 0, .int .u8 0, .int .u8 0,
 .int .u8 0, .int .u8 0, .int .u8 0, .int .u8 0, .int .u8 0, .int .u8 0, .int .u8 0, .int .u8 0, .int .u8 0, .int .u8 0, .int .u8 0, .int .u8 0, .int .u8 0, .int .u8 0, .int .u8 0, .int .u8 0,
 .int .u8 0, .int .u8 0, .int .u8 0, .int .u8 0, .int .u8 0, .int .u8 0, .int .u8 0, .int .u8 0, .int .u8 0, .int .u8 0, .int .u8 0, .int .u8 0, .int .u8 0, .int .u8 0, .int .u8 0, .int .u8 0,
 .int .u8 0, .int .u8 0, .int .u8 0, .int .u8 0, .int .u8 0, .int .u8 0, .int .u8 0, .int .u8 0, .int .u8 0, .int .u8 0, .int .u8 0, .int .u8 0, .int .u8 0, .int .u8 0, .int .u8 0, .int .u8 0, .int .i64 0,
 .int .u8 0, .int .u8 0, .int .u8 0, .int .u8 0, .int .u8 0, .int .u8 0, .int .u8 0, .int .u8 0, .int .u8 0, .int .u8 0, .int .u8 0, .int .u8 0, .int .u8 0, .int .u8 0, .int .u8 0, .int .u8 0,
 .int .u8 0, .int .u8 0, .int .u8 0, .int .u8 0, .int .u8 0, .int .u8 0, .int .u8 0, .int .u8 0, .int .u8 0, .int .u8 0, .int .u8 0, .int .u8 0, .int .u8 0, .int .u8 0, .int .u8 0, .int .u8 0] := rfl
variable {w : World} {g : Nat} {T : TypeId} {fr : Nat × Nat}
theorem att_key (h : w.heap[g]? = some (.cells (attC k r n t).toArray T fr)) : w.rangeAt g 0 (b8s k) := range_sub 0 (b8s k) h (by simp [attC])
theorem att_root (hk : k.length = 32) (h : w.heap[g]? = some (.cells (attC k r n t).toArray T fr)) : w.rangeAt g 32 (b8s r) := range_sub 32 (b8s r) h (by
 show ((b8s k ++ _).drop 32).take _ = _
 rw [List.drop_left' (by rw [b8s_length, hk])]
 simp)
theorem drop64 (hk : k.length = 32) (hr : r.length = 32) : (attC k r n t).drop 64 = .int .i64 n :: b8s t := by
 unfold attC
 rw [← List.append_assoc, List.drop_left' (by rw [List.length_append, b8s_length, b8s_length, hk, hr])]
theorem att_tag (hk : k.length = 32) (hr : r.length = 32) (h : w.heap[g]? = some (.cells (attC k r n t).toArray T fr)) : w.rangeAt g 65 (b8s t) := range_sub 65 (b8s t) h (by
 show ((attC k r n t).drop (64 + 1)).take _ = _
 rw [← List.drop_drop, drop64 hk hr]
 simp)
theorem att_len (hk : k.length = 32) (hr : r.length = 32) (h : w.heap[g]? = some (.cells (attC k r n t).toArray T fr)) : w.cell? ⟨g, 64, none⟩ = some (.int .i64 n) := by
 rw [cell_of_row _ _ _ _ _ _ h, List.getElem?_toArray]
 have := congrArg (fun l => l[0]?) (drop64 (n := n) (t := t) hk hr)
 simpa [List.getElem?_drop] using this
theorem byt_rng {off m : Nat} {l : List UInt8} (h : w.rangeAt g off (b8s l)) (hl : l.length = m) : Byt w (some ⟨g, off, none⟩) m l := ⟨hl, fun _ => ⟨g, off, rfl, fun j hj => h j _ (b8s_get l j (by omega))⟩⟩
end
theorem splice_mid {α : Type} {A B C vs : List α} {off : Nat} (hA : A.length = off) (hB : B.length = vs.length) : splice (A ++ (B ++ C)) off vs = A ++ (vs ++ C) := by
 unfold splice
 rw [List.take_left' hA, ← List.append_assoc A B C, List.drop_left' (by rw [List.length_append]; omega)]
theorem fold_splice : ∀ (vs L : List Value) (off s : Nat), off + s + vs.length ≤ L.length → (vs.zipIdx s).foldl (fun cs (c : Value × Nat) => cs.setIfInBounds (off + c.2) c.1) L.toArray = (splice L (off + s) vs).toArray
 | [], L, off, s, _ => by simp [splice]
 | v :: vs, L, off, s, h => by
  simp only [List.length_cons] at h
  rw [List.zipIdx_cons, List.foldl_cons, List.setIfInBounds_toArray, fold_splice vs (L.set (off + s) v) off (s + 1) (by simp; omega)]
  rw [← Nat.add_assoc, splice_set L (off + s) v vs (by omega)]
section
variable {P : Program} {w : World} {a : Act} {o : Oper}
theorem fill_part {place : Nat → Option (Nat × Nat)} {L vs : List Value} {v : Value} {i off size : Nat} {rest : List (Nat × Value)} {R : Option (Array Value)} (hp : place i = some (off, size)) (hv : v.cells = vs.toArray) (hs : vs.length = size) (hf : off + size ≤ L.length)
  (h : Instr.fill place (splice L off vs).toArray rest = R) : Instr.fill place L.toArray ((i, v) :: rest) = R := by
 subst hs
 unfold Instr.fill
 rw [hp]
 simp only [hv, List.size_toArray, ne_eq, not_true_eq_false, decide_false, Bool.false_or]
 rw [if_neg (by simpa using hf)]
 have := fold_splice vs L off 0 (by omega)
 rw [Nat.add_zero] at this
 rw [← h, ← this]
 congr 1
 rw [← Array.foldl_toList, Array.toList_zipIdx]
theorem run_built (t : TypeId) (parts : Array (Nat × Operand)) (ho : o.op = .build t parts) (vals : List (Nat × Value)) (hv : (parts.map fun p => (p.1, a.eval p.2)) = vals.toArray) (cells : Array Value) (hb : P.built t vals = some cells) : (execOp a.eval o).run P w = .ok (.value (.agg cells)) w := by
 have := run_build (P := P) w t vals.toArray cells (by simpa using hb)
 unfold execOp
 simp only [ho, hv, Sem.run_bind, this, Result.andThen_ok, Sem.run_pure]
theorem arr_slice_at (t e : TypeId) (x : Operand) (n : Nat) (ho : o.op = .slice t x none none none) (ht : P.underlying t = some (.array n e)) (hsz : (P.info? e).map (·.size) = some 1) (g off : Nat) (hx : a.eval x = .pointer (some ⟨g, off, none⟩)) :
  (execOp a.eval o).run P w = .ok (.value (.slice (some ⟨g, off, none⟩) n n)) w := by
 obtain ⟨i, hi, hs⟩ := Option.map_eq_some_iff.1 hsz
 have e0 : (⟨g, off, none⟩ : Addr).add 0 = ⟨g, off, none⟩ := by rw [Addr.add_mid]; rfl
 unfold execOp
 simp only [ho, hx, Option.map_none]
 simp [Instr.sliceAt, Instr.slice, Instr.sureAddr, run_underlying ht, Instr.sliceBounds, Go.sizeOf, typeInfo, hi, e0]
theorem shr64 (t ty : TypeId) (x y : Operand) (ho : o.op = .binOp .shr t x y ty) (u k : Nat) (yk : IntKind) (hx : a.eval x = .int .u64 ((u : Nat) : Int)) (hy : a.eval y = .int yk ((k : Nat) : Int)) (hk : k ≤ 64) (p : Nat) (hp : 2 ^ k = p) : (execOp a.eval o).run P w = .ok (.value (.int .u64 (((u / p : Nat)) : Int))) w := by
 subst hp
 have hb : IntKind.u64.bits = 64 := rfl
 have key : (Op.shift .shr .u64 ((u : Nat) : Int) yk ((k : Nat) : Int)).run P w = .ok (.int .u64 ((u / 2 ^ k : Nat) : Int)) w := by
  unfold Op.shift
  rw [if_neg (by omega)]
  have h1 : min ((k : Nat) : Int).toNat IntKind.u64.bits = k := by rw [hb]; simp; omega
  have h2 : Int.fdiv ((u : Nat) : Int) (2 ^ k) = ((u / 2 ^ k : Nat) : Int) := by
   rw [Int.fdiv_eq_ediv_of_nonneg _ (by exact_mod_cast Nat.zero_le _)]
   exact_mod_cast rfl
  simp only [h1, h2, Sem.run_pure]
 have hg : (eqGuard .shr t x y (.int .u64 ((u : Nat) : Int)) (.int yk ((k : Nat) : Int))).run P w = .ok () w := rfl
 have key2 : (binOp .shr t (.int .u64 ((u : Nat) : Int)) (.int yk ((k : Nat) : Int))).run P w = .ok (.int .u64 ((u / 2 ^ k : Nat) : Int)) w := key
 unfold execOp
 simp only [ho, hx, hy]
 simp only [Sem.run_bind, Sem.run_pure, hg, Result.andThen_ok, key2]
end
theorem u8_mod (u : Nat) : IntKind.u8.wrap ((u : Nat) : Int) = ((u % 256 : Nat) : Int) := by
 show ((u : Nat) : Int) % 256 = _
 omega
def u64n (n : Int) : Nat := (IntKind.u64.wrap n).toNat
def e8 (u : Nat) : List UInt8 := [UInt8.ofNat (u / 72057594037927936), UInt8.ofNat (u / 281474976710656), UInt8.ofNat (u / 1099511627776), UInt8.ofNat (u / 4294967296), UInt8.ofNat (u / 16777216), UInt8.ofNat (u / 65536), UInt8.ofNat (u / 256), UInt8.ofNat (u / 1)]
theorem e8_cells (u : Nat) : (b8s (e8 u)).toArray = #[.int .u8 ((u / 72057594037927936 % 256 : Nat) : Int), .int .u8 ((u / 281474976710656 % 256 : Nat) : Int), .int .u8 ((u / 1099511627776 % 256 : Nat) : Int), .int .u8 ((u / 4294967296 % 256 : Nat) : Int),
  .int .u8 ((u / 16777216 % 256 : Nat) : Int), .int .u8 ((u / 65536 % 256 : Nat) : Int), .int .u8 ((u / 256 % 256 : Nat) : Int), .int .u8 ((u / 1 % 256 : Nat) : Int)] := by
 have h : ∀ x : Nat, (UInt8.ofNat x).toNat = x % 256 := fun x => by simp
 simp only [e8, b8s, List.map_cons, List.map_nil, h]
theorem e8_length (u : Nat) : (e8 u).length = 8 := rfl
def body (k r : List UInt8) (n : Int) : List UInt8 := [17] ++ (k ++ (r ++ e8 (u64n n)))
def may (n : Int) : Prop := 1 ≤ n ∧ n ≤ 5000
instance (n : Int) : Decidable (may n) := by unfold may; infer_instance
end Mur
namespace Mur
open Go Go.RowKit Wk
section
variable {P : Program} {w : World} {a : Act} {o : Oper}
theorem conv_u64n (s t : TypeId) (x : Operand) (ho : o.op = .convert s t x) (hs : (P.underlying s).isSome = true) (ht : P.underlying t = some (.int .u64)) (k : IntKind) (z : Int) (hx : a.eval x = .int k z) : (execOp a.eval o).run P w = .ok (.value (.int .u64 ((u64n z : Nat) : Int))) w := by
 obtain ⟨v, w1, h, u, rfl, rfl, hu⟩ := to_u64 (P := P) (w := w) s t x ho hs ht k z hx
 rw [h]
 have : u = u64n z := by unfold u64n; omega
 rw [this]
theorem conv_u8 (s t : TypeId) (x : Operand) (ho : o.op = .convert s t x) (hs : (P.underlying s).isSome = true) (ht : P.underlying t = some (.int .u8)) (k : IntKind) (u : Nat) (hx : a.eval x = .int k ((u : Nat) : Int)) : (execOp a.eval o).run P w = .ok (.value (.int .u8 ((u % 256 : Nat) : Int))) w := by
 have hk : P.intKind t = .u8 := by simp [Program.intKind, ht]
 have key : (convert s t (.int k ((u : Nat) : Int))).run P w = .ok (.int .u8 ((u % 256 : Nat) : Int)) w := by
  have := run_convert_int (P := P) (w := w) s t k ((u : Nat) : Int) hs (by rw [ht, hk])
  rw [this, hk, u8_mod]
 unfold execOp
 simp only [ho, hx, Sem.run_bind, key, Result.andThen_ok, Sem.run_pure]
theorem quo_u64 (t ty : TypeId) (x y : Operand) (ho : o.op = .binOp .quo t x y ty) (i n : Nat) (hx : a.eval x = .int .u64 ((i : Nat) : Int)) (hy : a.eval y = .int .u64 ((n : Nat) : Int)) (hn : 0 < n) (hi : i < 18446744073709551616) :
  (execOp a.eval o).run P w = .ok (.value (.int .u64 ((i / n : Nat) : Int))) w := by
 have hne : ¬ n = 0 := by omega
 have h1 : Int.tdiv (i : Int) (n : Int) = ((i / n : Nat) : Int) := by
  rw [Int.tdiv_eq_ediv_of_nonneg (by omega)]
  exact_mod_cast rfl
 have hlt : i / n ≤ i := Nat.div_le_self i n
 have h2 : IntKind.u64.wrap ((i / n : Nat) : Int) = ((i / n : Nat) : Int) := u64_nat (by omega)
 unfold execOp
 simp only [ho, hx, hy]
 simp only [eqGuard, binOp]
 simp [Op.intDiv, hne, h1]
 first | done | exact_mod_cast h2
end
theorem u64n_lt (n : Int) : u64n n < 18446744073709551616 := by
 have h1 : IntKind.u64.wrap n = n % 18446744073709551616 := rfl
 unfold u64n
 rw [h1]
 omega
theorem own8_lit {w : World} {base e g n : Nat} {l : List UInt8} (h : w.heap[g]? = some (.cells (b8s l).toArray e (0, 0))) (hb : base ≤ g) (hn : l.length = n) (hm : n ≤ 1000) : Own8 w base e (some ⟨g, 0, none⟩) n n l :=
 own8 ⟨by rw [b8s_length, hn, Nat.mul_one], .inr ⟨g, n, _, rfl, hb, h, Nat.le_refl _, by unfold maxLen; omega, by simp [b8s_length, hn], by
  show (b8s l).take (n * 1) = _
  rw [List.take_of_length_le (by rw [b8s_length, hn]; omega)]⟩⟩
theorem e8_quo (u : Nat) : #[Value.int .u8 ((u / 256 / 256 / 256 / 256 / 256 / 256 / 256 % 256 : Nat) : Int), .int .u8 ((u / 256 / 256 / 256 / 256 / 256 / 256 % 256 : Nat) : Int), .int .u8 ((u / 256 / 256 / 256 / 256 / 256 % 256 : Nat) : Int), .int .u8 ((u / 256 / 256 / 256 / 256 % 256 : Nat) : Int),
  .int .u8 ((u / 256 / 256 / 256 % 256 : Nat) : Int), .int .u8 ((u / 256 / 256 % 256 : Nat) : Int), .int .u8 ((u / 256 % 256 : Nat) : Int), .int .u8 ((u % 256 : Nat) : Int)] = (b8s (e8 u)).toArray := by
 rw [e8_cells]
 simp only [Nat.div_div_eq_div_mul, Nat.div_one, Nat.reduceMul]
end Mur
namespace Go.Proofs.YtgbadghjnpbiaaaGreatDoor
open Mur (b8s)
theorem digT : Mur.DigT Tryz.prog 28 5 := ⟨Tryz.underlying28, Tryz.underlying5, by kernel_rfl, by kernel_rfl, by kernel_rfl, by kernel_rfl⟩
end Go.Proofs.YtgbadghjnpbiaaaGreatDoor
namespace Go.Proofs.YtgbadghjnpbiaaaGreatDoor
open Go.RowKit Wk
open Mur (b8s attC z32 DigT litOf)
set_option maxRecDepth 100000
def litsD (d : List UInt8) : List Lit := ((List.range 32).map (litOf d)).flatten
theorem litsD_length (d : List UInt8) : (litsD d).length = 32 := by
 have h : ∀ l : List Nat, ((l.map (litOf d)).flatten).length = l.length := by
  intro l
  induction l with
  | nil => rfl
  | cons x l ih => simp [litOf, ih]
 rw [litsD, h, List.length_range]
theorem keyLits_att {k r t : List UInt8} {n : Int} (hk : k.length = 32) (hr : r.length = 32) (ht : t.length = 32) (hn : (Lit.int .i64 n).wf = true) : Tryz.prog.keyLits 3 35 (attC k r n t) = some (litsD k ++ (litsD r ++ (Lit.int .i64 n :: litsD t))) := by
 have hc : Tryz.prog.cellsOf 35 = 97 := by kernel_rfl
 have c1 : Tryz.prog.cellsOf 28 = 32 := by kernel_rfl
 have c2 : Tryz.prog.cellsOf 3 = 1 := by kernel_rfl
 have e1 : ((attC k r n t).drop 0).take 32 = b8s k := by
  show (b8s k ++ _).take 32 = _
  rw [List.take_left' (by rw [Mur.b8s_length, hk])]
 have e2 : ((attC k r n t).drop 32).take 32 = b8s r := by
  show ((b8s k ++ _).drop 32).take 32 = _
  rw [List.drop_left' (by rw [Mur.b8s_length, hk]), List.take_left' (by rw [Mur.b8s_length, hr])]
 have e3 : ((attC k r n t).drop 64).take 1 = [.int .i64 n] := by rw [Mur.drop64 hk hr]; rfl
 have e4 : ((attC k r n t).drop 65).take 32 = b8s t := by
  show ((attC k r n t).drop (64 + 1)).take 32 = _
  rw [← List.drop_drop, Mur.drop64 hk hr]
  show (b8s t).take 32 = _
  rw [List.take_of_length_le (by rw [Mur.b8s_length, ht]; exact Nat.le_refl _)]
 have l1 := fun (d : List UInt8) (hd : d.length = 32) => Mur.keyLits_dig digT d hd
 have l3 : Tryz.prog.keyLits 2 3 [.int .i64 n] = some [.int .i64 n] := by
  unfold Program.keyLits
  simp only [Tryz.underlying3]
  exact if_pos ⟨trivial, hn⟩
 unfold Program.keyLits
 simp only [Tryz.underlying35]
 rw [if_pos ⟨by rw [Mur.attC_length hk hr ht, hc], by decide +kernel⟩]
 simp only [List.mapM_cons, List.mapM_nil, c1, c2, e1, e2, e3, e4, l1 _ hk, l1 _ hr, l1 _ ht, l3]
 simp [litsD]
theorem litsD_inj {d d' : List UInt8} (hd : d.length = 32) (hd' : d'.length = 32) : litsD d = litsD d' ↔ d = d' := Mur.lits_inj hd hd'
theorem att_lits {k r t k' r' t' : List UInt8} {n n' : Int} (hk : k.length = 32) (hr : r.length = 32) (ht : t.length = 32) (hk' : k'.length = 32) (hr' : r'.length = 32) (ht' : t'.length = 32) :
  litsD k ++ (litsD r ++ (Lit.int .i64 n :: litsD t)) = litsD k' ++ (litsD r' ++ (Lit.int .i64 n' :: litsD t')) ↔ k = k' ∧ r = r' ∧ n = n' ∧ t = t' := by
 constructor
 ·intro h
  have h1 := List.append_inj h (by rw [litsD_length, litsD_length])
  have h2 := List.append_inj h1.2 (by rw [litsD_length, litsD_length])
  have h3 := List.cons.inj h2.2
  exact ⟨(litsD_inj hk hk').1 h1.1, (litsD_inj hr hr').1 h2.1, by injection h3.1, (litsD_inj ht ht').1 h3.2⟩
 ·rintro ⟨rfl, rfl, rfl, rfl⟩
  rfl
theorem eql_att {k r t k' r' t' : List UInt8} {n n' : Int} (hk : k.length = 32) (hr : r.length = 32) (ht : t.length = 32) (hk' : k'.length = 32) (hr' : r'.length = 32) (ht' : t'.length = 32) (hn : (Lit.int .i64 n).wf = true) (hn' : (Lit.int .i64 n').wf = true) (w : World) :
  (Op.equalIn 10000 35 (.agg (attC k r n t).toArray) (.agg (attC k' r' n' t').toArray)).run Tryz.prog w = .ok (decide (k = k' ∧ r = r' ∧ n = n' ∧ t = t')) w := by
 have hf : ∀ {a b c : List UInt8} {m : Int}, a.length = 32 → b.length = 32 → c.length = 32 → (Value.agg (attC a b m c).toArray).formed Tryz.prog 35 = true := by
  intro a b c m h1 h2 h3
  have hc : Tryz.prog.cellsOf 35 = 97 := by kernel_rfl
  simp [Value.formed, Tryz.underlying35, hc, Mur.attC_length h1 h2 h3]
 obtain ⟨b, hb, hiff⟩ := run_equalIn_deep (P := Tryz.prog) 9997 3 35 (by kernel_rfl) w 3 3 (.agg (attC k r n t).toArray) (.agg (attC k' r' n' t').toArray) _ _ (hf hk hr ht) (hf hk' hr' ht') (keyLits_att hk hr ht hn) (keyLits_att hk' hr' ht' hn')
 rw [att_lits hk hr ht hk' hr' ht'] at hiff
 rw [show (10000 : Nat) = 9997 + 3 from rfl, hb]
 congr 1
 by_cases e : k = k' ∧ r = r' ∧ n = n' ∧ t = t'
 ·rw [decide_eq_true e]; exact hiff.2 e
 ·rw [decide_eq_false e]
  cases b
  ·rfl
  ·exact absurd (hiff.1 rfl) e
section
variable {w : World} {a : Act} {o : Oper} {k r t k' r' t' : List UInt8} {n n' : Int}
theorem quiet_att : Tryz.prog.eqGuardType Tryz.prog.depth 35 = false := by kernel_rfl
theorem run_eql_att (x y : Operand) (ty : TypeId) (ho : o.op = .binOp .eql 35 x y ty) (hk : k.length = 32) (hr : r.length = 32) (ht : t.length = 32) (hk' : k'.length = 32) (hr' : r'.length = 32) (ht' : t'.length = 32) (hn : (Lit.int .i64 n).wf = true) (hn' : (Lit.int .i64 n').wf = true)
  (hx : a.eval x = .agg (attC k r n t).toArray) (hy : a.eval y = .agg (attC k' r' n' t').toArray) : (execOp a.eval o).run Tryz.prog w = .ok (.value (.bool (decide (k = k' ∧ r = r' ∧ n = n' ∧ t = t')))) w := by
 unfold execOp
 simp only [ho, hx, hy, Sem.run_bind, run_eqGuard_agg w _ _ _ _ _ _ quiet_att, Result.andThen_ok, run_eql_struct, Sem.run_pure, eql_att hk hr ht hk' hr' ht' hn hn']
theorem run_neq_att (x y : Operand) (ty : TypeId) (ho : o.op = .binOp .neq 35 x y ty) (hk : k.length = 32) (hr : r.length = 32) (ht : t.length = 32) (hk' : k'.length = 32) (hr' : r'.length = 32) (ht' : t'.length = 32) (hn : (Lit.int .i64 n).wf = true) (hn' : (Lit.int .i64 n').wf = true)
  (hx : a.eval x = .agg (attC k r n t).toArray) (hy : a.eval y = .agg (attC k' r' n' t').toArray) : (execOp a.eval o).run Tryz.prog w = .ok (.value (.bool (!decide (k = k' ∧ r = r' ∧ n = n' ∧ t = t')))) w := by
 unfold execOp
 simp only [ho, hx, hy, Sem.run_bind, run_eqGuard_agg w _ _ _ _ _ _ quiet_att, Result.andThen_ok, run_neq_struct, Sem.run_pure, eql_att hk hr ht hk' hr' ht' hn hn']
end
theorem wf64 {n : Int} (h1 : -9223372036854775808 ≤ n) (h2 : n ≤ 9223372036854775807) : (Lit.int .i64 n).wf = true := by
 have h3 : IntKind.i64.min = -9223372036854775808 := by decide
 have h4 : IntKind.i64.max = 9223372036854775807 := by decide
 simp only [Lit.wf, h3, h4, Bool.and_eq_true, decide_eq_true_eq]
 exact ⟨h1, h2⟩
theorem results_att {fn : Func} {p u : Tmp} (h : fn.results = #[.cell p 35, .tmp u]) (tmps : Array Value) (w : World) (g : Nat) (cs : Array Value) (fr : Nat × Nat) (v : Value) (hp : tmps.getD p undef = .pointer (some ⟨g, 0, none⟩)) (hg : w.heap[g]? = some (.cells cs 35 fr)) (hs : cs.size = 97) (hv : tmps.getD u undef = v) :
  (results fn tmps).run Tryz.prog w = .ok (.tuple #[.agg cs, v]) w := by
 rw [results_cell_tmp h, hp, hv]
 have := run_loadVar_row (P := Tryz.prog) w g 35 35 cs fr _ hg Tryz.underlying35 rfl (by rw [hs]; kernel_rfl)
 simp [asAddr, this]
end Go.Proofs.YtgbadghjnpbiaaaGreatDoor
