/- What the document's tag needs: words as variables; rows that are variables. -/
import Derived.Test.YtljfjjofhclhiaaDoorHmB
import Derived.Test.YtljfjjofhclhiaaDoorWords
import Derived.Test.YtljfjjofhclhiaaDoorRsum
namespace Mur
open Go Go.RowKit Wk
section
variable {P : Program} {w : World} {a : Act} {o : Oper}
theorem storeArr (ty : TypeId) (x y : Operand) (ho : o.op = .store ty x y) (g : Nat) (hx : a.eval x = .pointer (some ⟨g, 0, none⟩)) (vs : Array Value) (n : Nat) (hv : vs.size = n) (h1 : vs.all (·.oneCell') = true) (hy : a.eval y = .agg vs) (hi : (P.info? ty).map (·.size) = some n)
    (t : TypeId) (cs : Array Value) (hg : w.heap[g]? = some (.cells cs t (0, 0))) (hn : cs.size = n) :
    ∃ w', (execOp a.eval o).run P w = .ok .skip w' ∧ w'.heap[g]? = some (.cells vs t (0, 0)) ∧ Chg [g] w w' := by
  obtain ⟨vl⟩ := vs
  have hvl : vl.length = n := hv
  have h1' : ∀ v ∈ vl, v.oneCell' = true := fun v hm => Array.all_eq_true_iff_forall_mem.1 h1 v (by simpa using hm)
  obtain ⟨w', q1, q2, q3⟩ := storeR (P := P) ty x y ho g 0 hx vl hy (by rw [hi, hvl]) h1' t cs.toList (by simpa using hg) (by rw [hvl, Array.length_toList, hn]; omega)
  refine ⟨w', q1, ?_, q3⟩
  rw [q2]
  congr 2
  have hdrop : cs.toList.drop (0 + vl.length) = [] := List.drop_of_length_le (by rw [hvl, Array.length_toList, hn]; omega)
  unfold splice
  rw [hdrop]
  simp
theorem loadArr (ty : TypeId) (x : Operand) (ho : o.op = .load ty x) (d : TypeDesc) (hu : P.underlying ty = some d) (hd : d.isRow = true) (g : Nat) (hx : a.eval x = .pointer (some ⟨g, 0, none⟩)) (cs : Array Value) (n : Nat) (hn : cs.size = n)
    (hi : (P.info? ty).map (·.size) = some n) (t : TypeId) (fr : Nat × Nat) (hg : w.heap[g]? = some (.cells cs t fr)) : (execOp a.eval o).run P w = .ok (.value (.agg cs)) w := by
  obtain ⟨l⟩ := cs
  exact loadR ty x ho d hu hd g 0 hx l (by rw [hi]; exact congrArg some hn.symm) (range_row hg)
end
theorem rkey_small {s : List UInt8} {n z : Nat} (h : s.length = n) (hn : n ≤ 64) (hz : n + z = 64) : s ++ List.replicate z 0 = hkey s := by
  have h1 : hkey0 s = s := if_neg (by omega)
  unfold hkey
  rw [h1, h, show 64 - n = z by omega]
theorem rkey_big {s d : List UInt8} {z : Nat} (h : 64 < s.length) (hd : d = sha s) (hz : 32 + z = 64) : d ++ List.replicate z 0 = hkey s := by
  have h1 : hkey0 s = sha s := if_pos h
  unfold hkey
  rw [h1, hd, sha_len, show 64 - 32 = z by omega]
theorem Own8.some {w : World} {base e n c : Nat} {A : Option Addr} {l : List UInt8} (h : Own8 w base e A n c l) (hn : 0 < n) : ∃ g, A = some ⟨g, 0, none⟩ ∧ base ≤ g ∧ g < w.heap.size := by
  obtain ⟨g, rfl, _⟩ := own_some h.own hn
  exact ⟨g, rfl, h.at_ g 0 rfl⟩
theorem rep_snoc {l : List UInt8} {z : Nat} : (l ++ List.replicate z 0) ++ [0] = l ++ List.replicate (z + 1) 0 := by rw [List.append_assoc, ← List.replicate_succ']
end Mur
namespace Go.Proofs.YtljfjjofhclhiaaDoor
open Go.RowKit
open Mur (St w32 u32s cell_u32s free_row set_u32s b8s dgV Byt cutA)
theorem words_var (w : World) : Calls Tryd.prog 30 #[] w
    fun e w' => ∃ hc kc, Hid (hc = stCells Mur.H0) ∧ Hid (kc = u32s Mur.K) ∧ e = .returned (.tuple #[.agg hc, .agg kc]) ∧ Below w.heap.size w w' :=
  (words_any w).mono fun _ _ ⟨h1, h2⟩ => ⟨_, _, rfl, rfl, h1, h2⟩
theorem Rsum_var (hc kc : Array Value) (Hh : Hid (hc = stCells Mur.H0)) (Hk : Hid (kc = u32s Mur.K)) (b : List UInt8) (A : Option Addr) (n c : Nat) (w : World) (hb : Byt w A n b) (hnc : n ≤ c) (hA : A = none → c = 0) (hn : n ≤ 140737488351232) :
    Calls Tryd.prog 41 #[.agg hc, .agg kc, .slice A n c] w fun e w' => ∃ d, Hid (d = Mur.sha b) ∧ d.length = 32 ∧ e = .returned (.agg (b8s d).toArray) ∧ Below w.heap.size w w' := by
  rw [Hh.out, Hk.out]
  exact Rsum_any b A n c w hb hnc hA hn
theorem hc_size {hc : Array Value} (h : hc = stCells Mur.H0) : hc.size = 8 ∧ hc.all (·.oneCell') = true := by subst h; exact ⟨rfl, stCells_all _⟩
theorem kc_size {kc : Array Value} (h : kc = u32s Mur.K) : kc.size = 64 ∧ kc.all (·.oneCell') = true := by subst h; exact ⟨by simp [u32s, Mur.K_length], Mur.oneCells _⟩
end Go.Proofs.YtljfjjofhclhiaaDoor
