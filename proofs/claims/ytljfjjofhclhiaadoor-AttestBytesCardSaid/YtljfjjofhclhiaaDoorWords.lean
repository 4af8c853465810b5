/- The reference's primes, Words, walked: the words of the standard. -/
import Derived.Test.YtljfjjofhclhiaaDoorRoot
import Derived.Test.YtljfjjofhclhiaaDoorApp
import Derived.Test.YtljfjjofhclhiaaDoorSum
namespace Go.Proofs.YtljfjjofhclhiaaDoor
open Go.RowKit
open Mur (w32 u32s)
def ints (l : List Nat) : List Value := l.map fun x : Nat => Value.int .i64 (x : Int)
theorem ints_get (l : List Nat) (j : Nat) (h : j < l.length) : (ints l)[j]? = some (.int .i64 ((l.getD j 0 : Nat) : Int)) := by
  simp [ints, h, List.getD_eq_getElem?_getD]
theorem primesTo_succ (n : Nat) : Mur.primesTo (n + 1) = Mur.primesTo n ++ (if Mur.primeB n = true then [n] else []) := by
  unfold Mur.primesTo
  rw [List.range_succ, List.filter_append]
  congr 1
  by_cases h : Mur.primeB n = true
  · simp [h]
  · simp [h]
theorem primesTo_le {n m : Nat} (h : n ≤ m) : ∃ l, Mur.primesTo m = Mur.primesTo n ++ l := by
  obtain ⟨d, rfl⟩ : ∃ d, m = n + d := ⟨m - n, by omega⟩
  induction d with
  | zero => exact ⟨[], by simp⟩
  | succ d ih =>
    obtain ⟨l, hl⟩ := ih (by omega)
    exact ⟨l ++ (if Mur.primeB (n + d) = true then [n + d] else []), by rw [← Nat.add_assoc, primesTo_succ, hl, List.append_assoc]⟩
theorem primes_full {n : Nat} (h : n ≤ 312) (hl : (Mur.primesTo n).length = 64) : Mur.primesTo n = Mur.primesTo 312 := by
  obtain ⟨l, e⟩ := primesTo_le h
  have h1 := Mur.primes_64
  rw [e, List.length_append, hl] at h1
  have : l = [] := List.eq_nil_of_length_eq_zero (by omega)
  rw [e, this, List.append_nil]
def lenOf1 : Value → Nat
  | .slice _ n _ => n
  | _ => 0
set_option maxRecDepth 100000
theorem primes_any (w : World) : Calls Tryd.prog 38 #[.int .i64 64] w
    fun e w' => ∃ g cap, e = .returned (.slice (some ⟨g, 0, none⟩) 64 cap) ∧ w.heap.size ≤ g ∧ (∀ j, j < 64 → w'.cell? ⟨g, j, none⟩ = some (.int .i64 (((Mur.primesTo 312).getD j 0 : Nat) : Int))) ∧ Below w.heap.size w w' := by
  go_enter Tryd.func38, Tryd.ntmps38
  go_wp2
  go_loopw [3, 4] (fun v t wr => ∃ (n N : Nat) (L : List Nat) (A : Option Addr) (c : Nat), 2 ≤ n ∧ n ≤ 312 ∧ t = .int .i64 n ∧ Hid (L = Mur.primesTo n) ∧ v = .slice A N c ∧ N ≤ 64 ∧ Hid (L.length = N) ∧ wr.ownsRow w.heap.size 3 1 (.slice A N c) N (ints L) ∧ Below w.heap.size w wr)
    (fun _ t _ => 312 - (intOf t).toNat)
  case atStart =>
    refine ⟨2, 0, [], none, 0, by omega, by omega, rfl, Go.Lib.hid (by decide), rfl, by omega, rfl, World.ownsRow_nil _ _ _ _, Below.refl _ _⟩
  case round =>
    obtain ⟨n, N, L, A, c, hn2, hn, rfl, hL, rfl, hN, hLN, HO, HB⟩ := hrel
    have hsz := HB.size
    by_cases hlt : N < 64
    · have hn3 : n < 312 := by
        rcases Nat.lt_or_ge n 312 with h | h
        · exact h
        · have h1 := Mur.primes_64
          have : n = 312 := by omega
          rw [← this, ← hL.out, hLN.out] at h1
          omega
      by_cases hp : Mur.primeB n = true
      · have HP := Go.Lib.hid hp; clear hp
        go_wp2_with (first
          | (go_at_call 46; refine (prime_any n wr (by omega)).mono ?_; rintro e w2 ⟨rfl, rfl⟩; rw [HP.out])
          | (at_builtin; refine Mur.wpList_append_box (w0 := wr) w.heap.size rfl (.tmp 13) (.tmp 15) 69 3 (.int .i64 0) 8 rfl Tryd.underlying69 (by kernel_rfl) rfl (by omega) (.slice A N c) N (ints L) (.int .i64 (n : Int)) rfl rfl rfl HO (Below.refl _ _) hsz (by omega) ?_; intro v1 w1 HO1 HB1 hg1 hat1))
        obtain ⟨A5, c5, rfl⟩ : ∃ A c, v1 = .slice A (N + 1) c := by
          rcases HO1.2 with ⟨_, h⟩ | ⟨g, cap, cur, rfl, _⟩
          · omega
          · exact ⟨_, _, rfl⟩
        refine ⟨⟨n + 1, N + 1, L ++ [n], A5, c5, by omega, by omega, by go_num, Go.Lib.hid ?_, rfl, by omega, Go.Lib.hid (by rw [List.length_append, hLN.out]; rfl), ?_, HB.trans HB1⟩, by simp [intOf]; omega⟩
        · rw [primesTo_succ, HP.out, hL.out, if_pos rfl]
        · simpa [ints] using HO1
      · have hp' : Mur.primeB n = false := by simpa using hp
        have HP := Go.Lib.hid hp'; clear hp hp'
        go_wp2_with (go_at_call 46; refine (prime_any n wr (by omega)).mono ?_; rintro e w2 ⟨rfl, rfl⟩; rw [HP.out])
        refine ⟨⟨n + 1, N, L, A, c, by omega, by omega, by go_num, Go.Lib.hid ?_, rfl, by omega, hLN, HO, HB⟩, by simp [intOf]; omega⟩
        rw [primesTo_succ, HP.out, hL.out]
        simp
    · obtain rfl : N = 64 := by omega
      have hfull : Hid (L = Mur.primesTo 312) := Go.Lib.hid (by
        rw [hL.out]
        exact primes_full hn (by rw [← hL.out]; exact hLN.out))
      go_wp2
      go_ret
      rcases HO.2 with ⟨_, h⟩ | ⟨g, cap, cur, hv, hg, _⟩
      · omega
      · have hc := HO.cells (g := g) (by rw [hv]; rfl)
        refine ⟨g, cap, ?_, hg, fun j hj => ?_, HB⟩
        · rw [← hv]; rfl
        · have := hc j _ (ints_get L j (by rw [hLN.out]; exact hj))
          rwa [Addr.add_mid, Nat.zero_add, hfull.out] at this
/-! Words -/
def rowTo (l : List UInt32) (n i : Nat) : List UInt32 := l.take i ++ List.replicate (n - i) 0
theorem rowTo_succ {l : List UInt32} {n i : Nat} (hl : l.length = n) (h : i < n) : rowTo l n (i + 1) = (rowTo l n i).set i (l.getD i 0) := by
  have hq : i < l.length := by omega
  have hlt : (l.take i).length = i := by rw [List.length_take]; omega
  have hg : l.getD i 0 = l[i] := by rw [List.getD_eq_getElem?_getD, List.getElem?_eq_getElem hq]; rfl
  rw [rowTo, rowTo, List.take_succ_eq_append_getElem hq, hg, show n - i = (n - (i + 1)) + 1 by omega, List.replicate_succ, List.set_append_right _ _ (by omega), hlt, Nat.sub_self, List.set_cons_zero, List.append_assoc]
  rfl
theorem rowTo_all {l : List UInt32} {n i : Nat} (hl : l.length = n) (h : n ≤ i) : rowTo l n i = l := by
  rw [rowTo, List.take_of_length_le (by omega), show n - i = 0 by omega, List.replicate_zero, List.append_nil]
theorem rowTo_length {l : List UInt32} {n i : Nat} (hl : l.length = n) : (rowTo l n i).length = n := by simp [rowTo, hl]; omega
theorem P_le (i : Nat) (_ : i < 64) : (Mur.primesTo 312).getD i 0 ≤ 400 := by
  have hm : ∀ x ∈ Mur.primesTo 312, x < 401 := by
    intro x hx
    have := List.mem_range.1 (List.mem_filter.1 hx).1
    omega
  have := getD_lt (by omega) hm i
  omega
theorem root_k (i : Nat) (h : i < 64) : ((Mur.rootN ((Mur.primesTo 312).getD i 0) 3 : Nat) : Int) = w32 (Mur.K.getD i 0) := by
  have h1 := Mur.roots_3
  rw [Mur.KN_eq] at h1
  have h2 := congrArg (fun l => l[i]?) h1
  simp only [List.getElem?_map] at h2
  have h3 : i < (Mur.primesTo 312).length := by rw [Mur.primes_64]; exact h
  have h4 : i < Mur.K.length := by rw [Mur.K_length]; exact h
  rw [List.getElem?_eq_getElem h3, List.getElem?_eq_getElem h4, Option.map_some, Option.map_some, Option.some.injEq] at h2
  rw [List.getD_eq_getElem?_getD, List.getD_eq_getElem?_getD, List.getElem?_eq_getElem h3, List.getElem?_eq_getElem h4, Option.getD_some, Option.getD_some, h2]
  rfl
theorem root_h (i : Nat) (h : i < 8) : ((Mur.rootN ((Mur.primesTo 312).getD i 0) 2 : Nat) : Int) = w32 (Mur.H0.toList.getD i 0) := by
  have h1 := Mur.roots_2
  have h0 : Mur.H0N = Mur.H0.toList.map UInt32.toNat := by decide
  rw [h0] at h1
  have h2 := congrArg (fun l => l[i]?) h1
  simp only [List.getElem?_map, List.getElem?_take, h, if_true] at h2
  have h3 : i < (Mur.primesTo 312).length := by rw [Mur.primes_64]; omega
  have h4 : i < Mur.H0.toList.length := by show i < 8; exact h
  rw [List.getElem?_eq_getElem h3, List.getElem?_eq_getElem h4, Option.map_some, Option.map_some, Option.some.injEq] at h2
  rw [List.getD_eq_getElem?_getD, List.getD_eq_getElem?_getD, List.getElem?_eq_getElem h3, List.getElem?_eq_getElem h4, Option.getD_some, Option.getD_some, h2]
  rfl
theorem rootk_any (i p : Nat) (w : World) (h : i < 64) (hp : (Mur.primesTo 312).getD i 0 = p) : Calls Tryd.prog 39 #[.int .i64 (p : Int), .int .i64 3] w
    fun e w' => e = .returned (.int .u32 (w32 (Mur.K.getD i 0))) ∧ Below w.heap.size w w' := by
  subst hp
  refine (root_3 _ w (P_le i h)).mono ?_
  rintro e w' ⟨rfl, hb⟩
  exact ⟨by rw [root_k i h], hb⟩
theorem rooth_any (i p : Nat) (w : World) (h : i < 8) (hp : (Mur.primesTo 312).getD i 0 = p) : Calls Tryd.prog 39 #[.int .i64 (p : Int), .int .i64 2] w
    fun e w' => e = .returned (.int .u32 (w32 (Mur.H0.toList.getD i 0))) ∧ Below w.heap.size w w' := by
  subst hp
  refine (root_2 _ w (P_le i (by omega))).mono ?_
  rintro e w' ⟨rfl, hb⟩
  exact ⟨by rw [root_h i h], hb⟩
def pick (i : Nat) (m : Int) : UInt32 := if m = 3 then Mur.K.getD i 0 else Mur.H0.toList.getD i 0
theorem rootp_any (i p : Nat) (m : Int) (w : World) (h : (m = 3 ∧ i < 64) ∨ (m = 2 ∧ i < 8)) (hp : (Mur.primesTo 312).getD i 0 = p) : Calls Tryd.prog 39 #[.int .i64 (p : Int), .int .i64 m] w
    fun e w' => e = .returned (.int .u32 (w32 (pick i m))) ∧ Below w.heap.size w w' := by
  rcases h with ⟨rfl, h⟩ | ⟨rfl, h⟩
  · exact rootk_any i p w h hp
  · exact rooth_any i p w h hp
def L8 (w : World) (g : Nat) (hl kl : List UInt32) (wr : World) : Prop :=
  Below w.heap.size w wr ∧ w.heap.size + 4 ≤ wr.heap.size ∧ wr.heap[w.heap.size]? = some (.cells (u32s (List.replicate 8 0)) 60 (0, 0)) ∧ wr.heap[w.heap.size + 1]? = some (.cells (u32s (List.replicate 64 0)) 61 (0, 0)) ∧
  wr.heap[w.heap.size + 1 + 1]? = some (.cells (u32s hl) 60 (0, 0)) ∧ wr.heap[w.heap.size + 1 + 1 + 1]? = some (.cells (u32s kl) 61 (0, 0)) ∧
  (∀ j, j < 64 → wr.cell? ⟨g, j, none⟩ = some (.int .i64 (((Mur.primesTo 312).getD j 0 : Nat) : Int)))
theorem L8.below {w wr w1 : World} {g : Nat} {hl kl : List UInt32} (h : L8 w g hl kl wr) (hb : Below wr.heap.size wr w1) : L8 w g hl kl w1 := by
  obtain ⟨h0, h1, h2, h3, h4, h5, h6⟩ := h
  exact ⟨h0.trans (hb.mono (by omega)), Nat.le_trans h1 hb.size, Mur.hp_below hb h2, Mur.hp_below hb h3, Mur.hp_below hb h4, Mur.hp_below hb h5, fun j hj => Mur.cell_below hb (h6 j hj)⟩
theorem L8.drewN {w wr : World} {g : Nat} {hl kl : List UInt32} (h : L8 w g hl kl wr) (n : Nat) : L8 w g hl kl (wr.drewN n) := ⟨Mur.below_drewN h.1 n, h.2.1, h.2.2.1, h.2.2.2.1, h.2.2.2.2.1, h.2.2.2.2.2.1, h.2.2.2.2.2.2⟩
theorem cell_set_ne {w : World} {a : Addr} {v u : Value} (b i : Nat) (h : w.cell? a = some v) (hne : a.block ≠ b) : (w.setCell ⟨b, i, none⟩ u).cell? a = some v := by
  rw [World.cell?_setCell_other w ⟨b, i, none⟩ a u (fun e => hne (by rw [← e]))]
  exact h
theorem L8.setK {w wr : World} {g : Nat} {hl kl : List UInt32} (h : L8 w g hl kl wr) (hg : w.heap.size + 4 ≤ g) (k : Nat) (x : UInt32) : L8 w g hl (kl.set k x) (wr.setCell ⟨w.heap.size + 1 + 1 + 1, k, none⟩ (.int .u32 (w32 x))) := by
  obtain ⟨h0, h1, h2, h3, h4, h5, h6⟩ := h
  exact ⟨h0.setCell (by simp; omega) _, by simpa using h1, Mur.hp_set_ne h2 _ _ _ (by omega), Mur.hp_set_ne h3 _ _ _ (by omega), Mur.hp_set_ne h4 _ _ _ (by omega), Mur.set_u32s h5 x, fun j hj => cell_set_ne _ _ (h6 j hj) (by show g ≠ _; omega)⟩
theorem L8.setH {w wr : World} {g : Nat} {hl kl : List UInt32} (h : L8 w g hl kl wr) (hg : w.heap.size + 4 ≤ g) (k : Nat) (x : UInt32) : L8 w g (hl.set k x) kl (wr.setCell ⟨w.heap.size + 1 + 1, k, none⟩ (.int .u32 (w32 x))) := by
  obtain ⟨h0, h1, h2, h3, h4, h5, h6⟩ := h
  exact ⟨h0.setCell (by simp; omega) _, by simpa using h1, Mur.hp_set_ne h2 _ _ _ (by omega), Mur.hp_set_ne h3 _ _ _ (by omega), Mur.set_u32s h4 x, Mur.hp_set_ne h5 _ _ _ (by omega), fun j hj => cell_set_ne _ _ (h6 j hj) (by show g ≠ _; omega)⟩
set_option maxHeartbeats 1000000
theorem words_any (w : World) : Calls Tryd.prog 30 #[] w
    fun e w' => e = .returned (.tuple #[.agg (u32s Mur.H0.toList), .agg (u32s Mur.K)]) ∧ Below w.heap.size w w' := by
  have hH : Mur.H0.toList.length = 8 := rfl
  have HH := Go.Lib.hid hH; clear hH
  have HK := Go.Lib.hid Mur.K_length
  go_enter Tryd.func30, Tryd.ntmps30
  go_wp2_with (go_at_call 38; refine (primes_any _).mono ?_; rintro e w2 ⟨g, cap, rfl, hg, hpc, hB2⟩; have HPC := Go.Lib.hid hpc; clear hpc)
  have HL0 : Hid (L8 w g (rowTo Mur.H0.toList 8 0) (rowTo Mur.K 64 0) w2) := Go.Lib.hid (by
    refine ⟨((((Below.refl _ _).alloc (Nat.le_refl _) _).alloc (by simp) _).alloc (by simp; omega) _ |>.alloc (by simp; omega) _).trans (hB2.mono (by simp; omega)), by have := hB2.size; simp at this; omega, ?_, ?_, ?_, ?_, HPC.out⟩
    · exact Mur.hp_below hB2 (Mur.hp_old (Mur.hp_old (Mur.hp_old (Mur.hp_a1 _ _) _) _) _)
    · exact Mur.hp_below hB2 ((Mur.hp_old (Mur.hp_old (Mur.hp_a2 _ _ _) _) _).trans rfl)
    · exact Mur.hp_below hB2 (Mur.hp_old ((Mur.hp_a3 _ _ _ _).trans rfl) _)
    · exact Mur.hp_below hB2 ((hp_a4 _ _ _ _ _).trans rfl))
  have hg4 : w.heap.size + 4 ≤ g := by simp at hg; omega
  clear hg hB2 HPC
  go_loopw [5] (fun t wr => ∃ i : Nat, i ≤ 64 ∧ t = .int .i64 i ∧ L8 w g (rowTo Mur.H0.toList 8 i) (rowTo Mur.K 64 i) wr) (fun t _ => 64 - (intOf t).toNat)
  case atStart => exact ⟨0, by omega, rfl, HL0.out⟩
  case round =>
    clear HL0
    obtain ⟨i, hi, rfl, HL⟩ := hrel
    by_cases hlt : i < 64
    · have cp := HL.2.2.2.2.2.2 i hlt
      obtain ⟨p, hp⟩ : ∃ p, (Mur.primesTo 312).getD i 0 = p := ⟨_, rfl⟩
      rw [hp] at cp
      have HP := Go.Lib.hid hp; clear hp
      by_cases h8 : i < 8
      · go_wp2_with fail
        refine (rootp_any i p _ wr (by omega) HP.out).mono ?_
        rintro e w3 ⟨rfl, hB3⟩
        have HL3 := HL.below hB3
        have ck := Mur.cell_u32s (i := i) HL3.2.2.2.2.2.1 (by rw [rowTo_length HK.out]; exact hlt)
        have fk := Mur.free_row (i := i) HL3.2.2.2.2.2.1
        have cp3 := Mur.cell_below hB3 cp
        have cp4 := cell_set_ne (u := .int .u32 (w32 (pick i 3))) (w.heap.size + 1 + 1 + 1) i cp3 (by show g ≠ _; omega)
        have HL4 := HL3.setK hg4 i (pick i 3)
        go_wp2_with fail
        refine (rootp_any i p _ _ (by omega) HP.out).mono ?_
        rintro e w5 ⟨rfl, hB5⟩
        have HL5 := HL4.below hB5
        have ch := Mur.cell_u32s (i := i) HL5.2.2.2.2.1 (by rw [rowTo_length HH.out]; exact h8)
        have fh := Mur.free_row (i := i) HL5.2.2.2.2.1
        clear ck fk cp3 cp4
        go_wp2
        refine ⟨⟨i + 1, by omega, by go_num, ?_⟩, by simp [intOf]; omega⟩
        rw [rowTo_succ HH.out h8, rowTo_succ HK.out hlt]
        exact HL5.setH hg4 i (pick i 2)
      · go_wp2_with fail
        refine (rootp_any i p _ wr (by omega) HP.out).mono ?_
        rintro e w3 ⟨rfl, hB3⟩
        have HL3 := HL.below hB3
        have ck := Mur.cell_u32s (i := i) HL3.2.2.2.2.2.1 (by rw [rowTo_length HK.out]; exact hlt)
        have fk := Mur.free_row (i := i) HL3.2.2.2.2.2.1
        go_wp2
        refine ⟨⟨i + 1, by omega, by go_num, ?_⟩, by simp [intOf]; omega⟩
        have e : rowTo Mur.H0.toList 8 (i + 1) = rowTo Mur.H0.toList 8 i := by rw [rowTo_all HH.out (by omega), rowTo_all HH.out (by omega)]
        rw [e, rowTo_succ HK.out hlt]
        exact HL3.setK hg4 i (pick i 3)
    · obtain rfl : i = 64 := by omega
      rw [rowTo_all HH.out (by omega), rowTo_all HK.out (by omega)] at HL
      have hzH : Hid ((u32s Mur.H0.toList).size = 8) := Go.Lib.hid rfl
      have hzK : Hid ((u32s Mur.K).size = 64) := Go.Lib.hid (by simp [u32s, HK.out])
      have HK2 : Hid ((u32s (List.replicate 64 0)).size = 64) := Go.Lib.hid (by simp [u32s])
      go_wp2
      have HLd : L8 w g Mur.H0.toList Mur.K wr.drew := HL.drewN 1
      refine wp_region_held (S := fun w' => w'.heap[w.heap.size + 1 + 1]? = some (.cells (u32s Mur.H0.toList) 60 (0, 0)) ∧ w'.heap[w.heap.size + 1 + 1 + 1]? = some (.cells (u32s Mur.K) 61 (0, 0))) (by kernel_rfl) ?_
      refine wpAnyH_take (i := 0) (v := .agg (u32s Mur.H0.toList)) rfl (by kernel_rfl) (by kernel_rfl) (by kernel_rfl) (fun _ _ _ h => h)
        (Mur.yieldsIf_load_row rfl 60 (.tmp 2) rfl (w.heap.size + 1 + 1) rfl 60 (u32s Mur.H0.toList) (0, 0) _ (fun _ h => h.1) Tryd.underlying60 rfl (by rw [hzH.out]; kernel_rfl)) ⟨HLd.2.2.2.2.1, HLd.2.2.2.2.2.1⟩ ?_
      refine wpAnyH_take (i := 1) (v := .agg (u32s Mur.K)) rfl (by kernel_rfl) (by kernel_rfl) (by kernel_rfl) (fun _ _ _ h => h)
        (Mur.yieldsIf_load_row rfl 61 (.tmp 3) rfl (w.heap.size + 1 + 1 + 1) rfl 61 (u32s Mur.K) (0, 0) _ (fun _ h => h.2) Tryd.underlying61 rfl (by rw [hzK.out]; kernel_rfl)) ⟨HLd.2.2.2.2.1, HLd.2.2.2.2.2.1⟩ ?_
      refine Mur.wpAnyH_one (k := 2) (by kernel_rfl) ?_
      refine Mur.wpOp_put rfl rfl 60 (.tmp 0) (.tmp 27) rfl w.heap.size (u32s Mur.H0.toList) rfl rfl 60 (u32s (List.replicate 8 0)) HLd.2.2.1 (by rw [hzH.out]; kernel_rfl) (by rw [hzH.out]; rfl) (Mur.oneCells _) ?_
      intro w7 hp7 hw7
      refine ⟨⟨hw7.hp (by omega) HLd.2.2.2.2.1, hw7.hp (by omega) HLd.2.2.2.2.2.1⟩, ?_⟩
      refine Mur.wpAnyH_one (k := 3) (by kernel_rfl) ?_
      refine Mur.wpOp_put rfl rfl 61 (.tmp 1) (.tmp 28) rfl (w.heap.size + 1) (u32s Mur.K) rfl rfl 61 (u32s (List.replicate 64 0)) (hw7.hp (by omega) HLd.2.2.2.1) (by rw [hzK.out]; kernel_rfl) (by rw [hzK.out, HK2.out]) (Mur.oneCells _) ?_
      intro w8 hp8 hw8
      refine ⟨⟨hw8.hp (by omega) (hw7.hp (by omega) HLd.2.2.2.2.1), hw8.hp (by omega) (hw7.hp (by omega) HLd.2.2.2.2.2.1)⟩, ?_⟩
      refine wpAnyH_done (by kernel_rfl) ?_ _
      have hp7' := Go.Lib.hid hp7; clear hp7
      have hp8' := Go.Lib.hid hp8; clear hp8
      go_wp2
      refine bodyPost_ret (Mur.results_cell_row2 rfl _ _ w.heap.size 60 (u32s Mur.H0.toList) (0, 0) _ (w.heap.size + 1) 61 (u32s Mur.K) (0, 0) _ rfl (hw8.hp (by omega) hp7'.out) rfl hp8'.out Tryd.underlying60 rfl (by rw [hzH.out]; kernel_rfl) Tryd.underlying61 rfl (by rw [hzK.out]; kernel_rfl)) rfl ⟨rfl, ?_⟩
      exact (HLd.1.trans (hw7.below (by omega))).trans (hw8.below (by omega))
end Go.Proofs.YtljfjjofhclhiaaDoor
