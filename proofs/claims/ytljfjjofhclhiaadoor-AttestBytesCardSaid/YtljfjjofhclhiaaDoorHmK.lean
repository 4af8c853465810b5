/- A known tag; digests compared; slices of slices. -/
import Derived.Test.YtljfjjofhclhiaaDoorHmC
namespace Mur
open Go Go.RowKit Wk
section
variable {P : Program}
theorem run_neq_dig {T e : TypeId} (h : DigT P T e) (d d' : List UInt8) (hd : d.length = 32) (hd' : d'.length = 32) (w : World) (x y : Operand) (ty : TypeId) {a : Act} {o : Oper} (ho : o.op = .binOp .neq T x y ty)
    (hx : a.eval x = .agg (b8s d).toArray) (hy : a.eval y = .agg (b8s d').toArray) : (execOp a.eval o).run P w = .ok (.value (.bool (decide (d ≠ d')))) w := by
  have hf : ∀ x : List UInt8, x.length = 32 → (Value.agg (b8s x).toArray).formed P T = true := by
    intro x hx
    simp [Value.formed, h.ty, h.ct, b8s_length, hx]
  obtain ⟨r, hr, hiff⟩ := run_equalIn_deep (P := P) 9998 2 T h.key w 2 2 (.agg (b8s d).toArray) (.agg (b8s d').toArray) _ _ (hf d hd) (hf d' hd') (keyLits_dig h d hd) (keyLits_dig h d' hd')
  rw [lits_inj hd hd'] at hiff
  have hr' : (!r) = decide (d ≠ d') := by
    by_cases e : d = d'
    · rw [hiff.2 e, decide_eq_false (fun q => q e)]
      rfl
    · rw [decide_eq_true e]
      cases r
      · rfl
      · exact absurd (hiff.1 rfl) e
  rw [← hr']
  unfold execOp
  simp only [ho, hx, hy, Sem.run_bind, run_eqGuard_agg w _ _ _ _ _ _ h.quiet, Result.andThen_ok, run_neq_struct, Sem.run_pure]
  rw [show (10000 : Nat) = 9998 + 2 from rfl, hr]
  rfl
theorem run_neq_false {T e : TypeId} (h : DigT P T e) (d d' : List UInt8) (hd : d.length = 32) (he : d = d') (w : World) (x y : Operand) (ty : TypeId) {a : Act} {o : Oper} (ho : o.op = .binOp .neq T x y ty)
    (hx : a.eval x = .agg (b8s d).toArray) (hy : a.eval y = .agg (b8s d').toArray) : (execOp a.eval o).run P w = .ok (.value (.bool false)) w := by
  rw [run_neq_dig h d d' hd (he ▸ hd) w x y ty ho hx hy, decide_eq_false (fun q => q he)]
end
theorem ok_nil {w : World} : ∀ s ∈ ([] : List Seg), SegOk w s := fun s hs => by cases hs
theorem ok_cons {w : World} {s : Seg} {L : List Seg} (h : SegOk w s) (k : ∀ s ∈ L, SegOk w s) : ∀ x ∈ s :: L, SegOk w x := fun x hx => by
  rcases List.mem_cons.1 hx with rfl | hx
  · exact h
  · exact k x hx
theorem segs_lit {w : World} {g : Nat} {t : TypeId} {fr : Nat × Nat} (L : List Seg) (n : Nat) (h : w.heap[g]? = some (.cells (L.map Seg.v).toArray t fr)) (hok : ∀ s ∈ L, SegOk w s) (hn : L.length = n) : Segs w (some ⟨g, 0, none⟩) n L :=
  ⟨hn, hok, fun _ => ⟨g, 0, rfl, fun i s hi => by
    rw [cell_of_row _ _ _ _ _ _ h, Nat.zero_add]
    simp [hi]⟩⟩
theorem hmacN (s b : List UInt8) : shaN (ns (xorl 92 (hkey s)) ++ shaN (ns (xorl 54 (hkey s) ++ b))) = ns (hmac s b) := by
  have e : ∀ x y : List UInt8, ns x ++ ns y = ns (x ++ y) := fun x y => by simp [ns]
  rw [shaN_eq, e, shaN_eq]
  rfl
def jefe : List UInt8 := [0x5b, 0xdc, 0xc1, 0x46, 0xbf, 0x60, 0x75, 0x4e, 0x6a, 0x04, 0x24, 0x26, 0x08, 0x95, 0x75, 0xc7, 0x5a, 0x00, 0x3f, 0x08, 0x9d, 0x27, 0x39, 0x83, 0x9d, 0xec, 0x58, 0xb9, 0x64, 0xec, 0x38, 0x43]
theorem hkey_jefe : hkey [74, 101, 102, 101] = [74, 101, 102, 101] ++ List.replicate 60 0 := by
  have h1 : hkey0 [74, 101, 102, 101] = [74, 101, 102, 101] := if_neg (by decide)
  unfold hkey
  rw [h1]
  rfl
theorem hmac_jefe : hmac [74, 101, 102, 101] [119, 104, 97, 116, 32, 100, 111, 32, 121, 97, 32, 119, 97, 110, 116, 32, 102, 111, 114, 32, 110, 111, 116, 104, 105, 110, 103, 63] = jefe := by
  apply ns_inj
  rw [← hmacN, hkey_jefe]
  decide +kernel
end Mur
namespace Go.Proofs.YtljfjjofhclhiaaDoor
open Mur (b8s)
theorem digT : Mur.DigT Tryd.prog 25 5 := ⟨Tryd.underlying25, Tryd.underlying5, by kernel_rfl, by kernel_rfl, by kernel_rfl, by kernel_rfl⟩
end Go.Proofs.YtljfjjofhclhiaaDoor
