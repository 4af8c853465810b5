/- The reference's above, times, walked. -/
import Derived.Test.YtljfjjofhclhiaaDoorDig
namespace Go.Proofs.YtljfjjofhclhiaaDoor
open Go.RowKit
def L5 (w : World) (a b : List Nat) (wr : World) : Prop :=
  Below w.heap.size w wr ∧ w.heap.size + 2 ≤ wr.heap.size ∧ wr.heap[w.heap.size]? = some (.cells (n64s a) 79 (0, 0)) ∧ wr.heap[w.heap.size + 1]? = some (.cells (n64s b) 79 (0, 0))
theorem L5.drewN {w wr : World} {a b : List Nat} (h : L5 w a b wr) (n : Nat) : L5 w a b (wr.drewN n) := ⟨Mur.below_drewN h.1 n, h.2.1, h.2.2.1, h.2.2.2⟩
set_option maxRecDepth 100000
theorem above_any (a b : List Nat) (w : World) (ha : a.length = 10) (hb : b.length = 10) (ha' : ∀ x ∈ a, x < 65536) (hb' : ∀ x ∈ b, x < 65536) :
    Calls Tryd.prog 49 #[.agg (n64s a), .agg (n64s b)] w fun e w' => e = .returned (.bool (decide (Mur.val b < Mur.val a))) ∧ Below w.heap.size w w' := by
  have HA := Go.Lib.hid ha; clear ha
  have HB := Go.Lib.hid hb; clear hb
  have HA' := Go.Lib.hid ha'; clear ha'
  have HB' := Go.Lib.hid hb'; clear hb'
  go_enter Tryd.func49, Tryd.ntmps49
  go_wp2
  go_loopw [5] (fun v wr => ∃ (k : Nat) (iv : Int), k ≤ 10 ∧ v = .int .i64 iv ∧ Hid (iv = (k : Int) - 1) ∧ Hid (a.drop k = b.drop k) ∧ L5 w a b wr) (fun v _ => (intOf v + 1).toNat)
  case atStart =>
    refine ⟨10, 9, by omega, rfl, Go.Lib.hid (by omega), Go.Lib.hid ?_, ((Below.refl _ _).alloc (Nat.le_refl _) _).alloc (by simp) _, by simp, ?_, ?_⟩
    · rw [List.drop_of_length_le (by rw [HA.out]; exact Nat.le_refl _), List.drop_of_length_le (by rw [HB.out]; exact Nat.le_refl _)]
    · exact Mur.hp_old (Mur.hp_a1 _ _) _
    · exact Mur.hp_a2 _ _ _
  case round =>
    obtain ⟨k, iv, hk, rfl, hiv, hd, HL⟩ := hrel
    rcases Nat.eq_zero_or_pos k with h0 | h0
    · have hn : iv < 0 := by have := hiv.out; omega
      have hf : Hid (decide (Mur.val b < Mur.val a) = false) := Go.Lib.hid (by
        have := hd.out
        rw [h0, List.drop_zero, List.drop_zero] at this
        simp [this])
      clear h0
      go_wp2
      go_ret
      exact ⟨ret_bool hf.out.symm, HL.1⟩
    · obtain ⟨m, rfl⟩ : ∃ m, k = m + 1 := ⟨k - 1, by omega⟩
      obtain rfl : iv = (m : Int) := by have := hiv.out; omega
      have ca := cell_n64s (i := m) HL.2.2.1 (by rw [HA.out]; omega)
      have cb := cell_n64s (i := m) HL.2.2.2 (by rw [HB.out]; omega)
      obtain ⟨x, hx⟩ : ∃ x, a.getD m 0 = x := ⟨_, rfl⟩
      obtain ⟨y, hy⟩ : ∃ y, b.getD m 0 = y := ⟨_, rfl⟩
      rw [hx] at ca
      rw [hy] at cb
      have HX := Go.Lib.hid hx; clear hx
      have HY := Go.Lib.hid hy; clear hy
      by_cases e : x = y
      · have e' : ((x : Int) != (y : Int)) = false := by rw [bne_eq_false_iff_eq]; omega
        have E := Go.Lib.hid e; clear e
        go_wp2
        go_quiet (fail)
        go_wp2
        refine ⟨⟨m, (m : Int) - 1, by omega, by go_num, Go.Lib.hid rfl, Go.Lib.hid ?_, HL.drewN _⟩, by simp [intOf]⟩
        exact Mur.drop_step a b m (by rw [HA.out]; omega) (by rw [HA.out, HB.out]) hd.out (by rw [HX.out, HY.out]; exact E.out)
      · have e' : ((x : Int) != (y : Int)) = true := by rw [bne_iff_ne]; omega
        have hres : Hid (decide (Mur.val b < Mur.val a) = decide (y < x)) := Go.Lib.hid (by
          rw [decide_eq_decide]
          have hla : a.length = b.length := by rw [HA.out, HB.out]
          constructor
          · intro h
            rcases Nat.lt_or_ge y x with h' | h'
            · omega
            · have := Mur.val_gt b a m hla.symm (by rw [HB.out]; omega) HA'.out hd.out.symm (by rw [HX.out, HY.out]; omega)
              omega
          · intro h
            exact Mur.val_gt a b m hla (by rw [HA.out]; omega) HB'.out hd.out (by rw [HX.out, HY.out]; omega))
        clear e
        go_wp2
        go_quiet (fail)
        go_wp2
        go_quiet (fail)
        go_wp2
        go_ret
        exact ⟨ret_bool (by rw [hres.out]), ((HL.drewN _).drewN _).1⟩
/-! times -/
def Dig (l : List Nat) : Prop := l.length = 10 ∧ ∀ x ∈ l, x < 65536
theorem Dig.set {l : List Nat} (h : Dig l) (k x : Nat) (hx : x < 65536) : Dig (l.set k x) :=
  ⟨by rw [List.length_set]; exact h.1, fun y hy => by
    rcases List.mem_or_eq_of_mem_set hy with h1 | h1
    · exact h.2 y h1
    · rw [h1]; exact hx⟩
def L6 (w : World) (a b o : List Nat) (wr : World) : Prop :=
  Below w.heap.size w wr ∧ w.heap.size + 4 ≤ wr.heap.size ∧ wr.heap[w.heap.size]? = some (.cells (n64s a) 79 (0, 0)) ∧ wr.heap[w.heap.size + 1]? = some (.cells (n64s b) 79 (0, 0)) ∧
  wr.heap[w.heap.size + 1 + 1]? = some (.cells (n64s (List.replicate 10 0)) 79 (0, 0)) ∧ wr.heap[w.heap.size + 1 + 1 + 1]? = some (.cells (n64s o) 79 (0, 0))
theorem L6.drewN {w wr : World} {a b o : List Nat} (h : L6 w a b o wr) (n : Nat) : L6 w a b o (wr.drewN n) := ⟨Mur.below_drewN h.1 n, h.2.1, h.2.2.1, h.2.2.2.1, h.2.2.2.2.1, h.2.2.2.2.2⟩
theorem L6.set {w wr : World} {a b o : List Nat} (h : L6 w a b o wr) (k x : Nat) : L6 w a b (o.set k x) (wr.setCell ⟨w.heap.size + 1 + 1 + 1, k, none⟩ (.int .u64 (x : Int))) :=
  ⟨h.1.setCell (by simp; omega) _, by simpa using h.2.1, Mur.hp_set_ne h.2.2.1 _ _ _ (by omega), Mur.hp_set_ne h.2.2.2.1 _ _ _ (by omega), Mur.hp_set_ne h.2.2.2.2.1 _ _ _ (by omega), set_n64s h.2.2.2.2.2 x⟩
theorem hp_a4 (w : World) (A B C D : Obj) : ((((w.alloc A).alloc B).alloc C).alloc D).heap[w.heap.size + 1 + 1 + 1]? = some D := by
  have h := Mur.hp_a3 (w.alloc A) B C D
  rwa [World.size_alloc] at h
/-- What the inner loop keeps. -/
theorem inner_step {a b o : List Nat} {i k V0 carry x : Nat} (ho : o.length = 10) (hb : b.length = 10) (hik : i + k < 10) (hx : x = o.getD (i + k) 0 + a.getD i 0 * b.getD k 0 + carry)
    (h : Mur.val o + carry * 65536 ^ (i + k) = V0 + a.getD i 0 * Mur.val (b.take k) * 65536 ^ i) :
    Mur.val (o.set (i + k) (x % 65536)) + x / 65536 * 65536 ^ (i + (k + 1)) = V0 + a.getD i 0 * Mur.val (b.take (k + 1)) * 65536 ^ i := by
  have h1 := Mur.times_step o (i + k) x carry (a.getD i 0 * b.getD k 0) (by omega) hx
  rw [show i + (k + 1) = i + k + 1 by omega, h1, h, Mur.val_take_succ b k (by omega), Nat.mul_add, Nat.add_mul, Nat.pow_add]
  have e : a.getD i 0 * b.getD k 0 * (65536 ^ i * 65536 ^ k) = a.getD i 0 * (b.getD k 0 * 65536 ^ k) * 65536 ^ i := by
    simp only [Nat.mul_assoc, Nat.mul_comm (65536 ^ i)]
  omega
theorem outer_step {a b : List Nat} {i V0 v : Nat} (ha : a.length = 10) (hi : i < 10) (h0 : V0 % 65536 ^ 10 = (Mur.val (a.take i) * Mur.val b) % 65536 ^ 10)
    (h : v % 65536 ^ 10 = (V0 + a.getD i 0 * Mur.val b * 65536 ^ i) % 65536 ^ 10) : v % 65536 ^ 10 = (Mur.val (a.take (i + 1)) * Mur.val b) % 65536 ^ 10 := by
  rw [h, Mur.val_take_succ a i (by omega), Nat.add_mul, Nat.add_mod, h0, ← Nat.add_mod]
  congr 2
  simp only [Nat.mul_assoc, Nat.mul_comm (65536 ^ i)]
set_option maxHeartbeats 1000000
theorem times_any (a b : List Nat) (w : World) (ha : Dig a) (hb : Dig b) :
    Calls Tryd.prog 48 #[.agg (n64s a), .agg (n64s b)] w
      fun e w' => ∃ l, Hid (Mur.val l % 65536 ^ 10 = Mur.val a * Mur.val b % 65536 ^ 10) ∧ Dig l ∧ e = .returned (.agg (n64s l)) ∧ Below w.heap.size w w' := by
  have HA := Go.Lib.hid ha; clear ha
  have HB := Go.Lib.hid hb; clear hb
  go_enter Tryd.func48, Tryd.ntmps48
  go_wp2
  go_loopw [6] (fun v wr => ∃ (i : Nat) (o : List Nat), i ≤ 10 ∧ v = .int .i64 i ∧ Hid (Dig o) ∧ Hid (Mur.val o % 65536 ^ 10 = Mur.val (a.take i) * Mur.val b % 65536 ^ 10) ∧ L6 w a b o wr) (fun v _ => 10 - (intOf v).toNat)
  case atStart =>
    refine ⟨0, List.replicate 10 0, by omega, rfl, Go.Lib.hid ⟨rfl, by decide⟩, Go.Lib.hid ?_, (((Below.refl _ _).alloc (Nat.le_refl _) _).alloc (by simp) _).alloc (by simp; omega) _ |>.alloc (by simp; omega) _, by simp, ?_, ?_, ?_, ?_⟩
    · rw [List.take_zero]; simp [Mur.val]
    · exact Mur.hp_old (Mur.hp_old (Mur.hp_old (Mur.hp_a1 _ _) _) _) _
    · exact Mur.hp_old (Mur.hp_old (Mur.hp_a2 _ _ _) _) _
    · exact Mur.hp_old ((Mur.hp_a3 _ _ _ _).trans rfl) _
    · exact (hp_a4 _ _ _ _ _).trans rfl
  case round =>
    obtain ⟨i, o, hi, rfl, hdo, hval, HL⟩ := hrel
    by_cases hlt : i < 10
    · go_wp2
      go_loopw [7, 8] (fun cv kv wq => ∃ (k c : Nat) (q : List Nat), i + k ≤ 10 ∧ kv = .int .i64 k ∧ cv = .int .u64 (c : Int) ∧ c < 65536 ∧ Hid (Dig q) ∧ Hid (Mur.val q + c * 65536 ^ (i + k) = Mur.val o + a.getD i 0 * Mur.val (b.take k) * 65536 ^ i) ∧ L6 w a b q wq) (fun _ kv _ => 10 - i - (intOf kv).toNat)
      case atStart => exact ⟨0, 0, o, by omega, rfl, rfl, by omega, hdo, Go.Lib.hid (by simp [Mur.val]), HL⟩
      case round =>
        clear HL
        obtain ⟨k, c, q, hik, rfl, rfl, hc, hdq, hinv, HL⟩ := hrel
        by_cases hlt2 : i + k < 10
        · have co := cell_n64s (i := i + k) HL.2.2.2.2.2 (by rw [hdq.out.1]; omega)
          have fo := Mur.free_row (i := i + k) HL.2.2.2.2.2
          have ca := cell_n64s (i := i) HL.2.2.1 (by rw [HA.out.1]; omega)
          have cb := cell_n64s (i := k) HL.2.2.2.1 (by rw [HB.out.1]; omega)
          have lo := getD_lt (by omega) hdq.out.2 (i + k)
          have la := getD_lt (by omega) HA.out.2 i
          have lb := getD_lt (by omega) HB.out.2 k
          obtain ⟨xo, ho⟩ : ∃ x, q.getD (i + k) 0 = x := ⟨_, rfl⟩
          obtain ⟨xa, hxa⟩ : ∃ x, a.getD i 0 = x := ⟨_, rfl⟩
          obtain ⟨xb, hxb⟩ : ∃ x, b.getD k 0 = x := ⟨_, rfl⟩
          rw [ho] at co lo
          rw [hxa] at ca la
          rw [hxb] at cb lb
          have HXO := Go.Lib.hid ho; clear ho
          have HXA := Go.Lib.hid hxa; clear hxa
          have HXB := Go.Lib.hid hxb; clear hxb
          have b0 : 0 ≤ (xa : Int) * (xb : Int) := Int.mul_nonneg (by omega) (by omega)
          have b1 : (xa : Int) * (xb : Int) ≤ 4294836225 := by
            have : xa * xb ≤ 65535 * 65535 := Nat.mul_le_mul (by omega) (by omega)
            have h : ((xa * xb : Nat) : Int) ≤ 4294836225 := by omega
            rwa [Int.natCast_mul] at h
          obtain ⟨X, HX⟩ : ∃ X : Nat, Hid ((X : Int) = (xo : Int) + (xa : Int) * (xb : Int) + (c : Int)) := ⟨xo + xa * xb + c, Go.Lib.hid (by rw [Int.natCast_add, Int.natCast_add, Int.natCast_mul])⟩
          have HXn : Hid (X = q.getD (i + k) 0 + a.getD i 0 * b.getD k 0 + c) := Go.Lib.hid (by
            have := HX.out
            rw [HXO.out, HXA.out, HXB.out]
            have h2 : ((xa * xb : Nat) : Int) = (xa : Int) * (xb : Int) := Int.natCast_mul _ _
            omega)
          have hXl : Hid (X < 4295032833) := Go.Lib.hid (by have := HX.out; omega)
          have hXr : (xo : Int) + (xa : Int) * (xb : Int) + (c : Int) = (X : Int) := HX.out.symm
          go_wp2
          go_quiet (fail)
          go_wp2
          refine ⟨⟨k + 1, X / 65536, q.set (i + k) (X % 65536), by omega, by go_num, by go_num, by have := hXl.out; omega, Go.Lib.hid (hdq.out.set _ _ (Nat.mod_lt _ (by omega))), Go.Lib.hid (inner_step hdq.out.1 HB.out.1 hlt2 HXn.out hinv.out), (HL.drewN _).set _ _⟩, by simp [intOf]; omega⟩
        · obtain rfl : k = 10 - i := by omega
          have hrow : Hid (Mur.val q % 65536 ^ 10 = Mur.val (a.take (i + 1)) * Mur.val b % 65536 ^ 10) := Go.Lib.hid (by
            have h := hinv.out
            rw [show i + (10 - i) = 10 by omega] at h
            exact outer_step HA.out.1 hlt hval.out (Mur.times_row q a b i _ c (by omega) h))
          clear hinv hval
          go_wp2
          refine ⟨⟨i + 1, q, by omega, by go_num, hdq, hrow, HL⟩, by simp [intOf]; omega⟩
    · obtain rfl : i = 10 := by omega
      have hres : Hid (Mur.val o % 65536 ^ 10 = Mur.val a * Mur.val b % 65536 ^ 10) := Go.Lib.hid (by
        have := hval.out
        rwa [List.take_of_length_le (by rw [HA.out.1]; exact Nat.le_refl _)] at this)
      clear hval
      have hz : Hid ((n64s o).size = 10) := Go.Lib.hid (by rw [n64s_size, hdo.out.1])
      go_wp2_with (first
        | (refine wpList_load_row rfl 79 (.tmp 5) rfl (w.heap.size + 1 + 1 + 1) rfl 79 (n64s o) (0, 0) _ HL.2.2.2.2.2 Tryd.underlying79 rfl (by rw [hz.out]; kernel_rfl) ?_)
        | (refine wpList_store_row rfl 79 (.tmp 4) (.tmp 43) rfl (w.heap.size + 1 + 1) (n64s o) rfl rfl 79 (n64s (List.replicate 10 0)) HL.2.2.2.2.1 (by rw [hz.out]; kernel_rfl) (by rw [hz.out]; rfl) (n64s_all _) ?_))
      refine bodyPost_ret (v := .agg (n64s o)) (results_cell_row rfl _ _ (w.heap.size + 1 + 1) 79 (n64s o) (0, 0) _ rfl (setRow_heap _ _ _ _ _ _ HL.2.2.2.2.1) Tryd.underlying79 rfl (by rw [hz.out]; kernel_rfl)) rfl ⟨o, hres, hdo.out, rfl, below_setRow HL.1 (by omega) _⟩
end Go.Proofs.YtljfjjofhclhiaaDoor
