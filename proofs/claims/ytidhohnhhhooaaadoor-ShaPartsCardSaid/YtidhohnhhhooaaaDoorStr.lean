/- Bytes turned into a string; strings compared. No program in sight. -/
import Derived.Test.YtidhohnhhhooaaaDoorHeld
import Derived.Laws.BytesArg
namespace Mur
open Go Go.RowKit
section
variable {P : Program}
def byteStr (l : List UInt8) : ByteArray := ⟨l.toArray⟩
theorem strOfNums_bytes (l : List UInt8) : strOfNums (l.map fun b => (b.toNat : Int)) = byteStr l := by
  unfold strOfNums byteStr
  rw [List.map_map]
  congr 2
  conv => rhs; rw [← List.map_id l]
  refine List.map_congr_left fun b _ => ?_
  simp
theorem run_conv_byt {w : World} {src dst e : TypeId} (hs : P.underlying src = some (.slice e)) (he : P.underlying e = some (.int .u8)) (hd : P.underlying dst = some .string) {A : Option Addr} {n : Nat} (c : Nat) {l : List UInt8} (h : Byt w A n l) :
    (convert src dst (.slice A n c)).run P w = .ok (.string (byteStr l)) w := by
  obtain ⟨hl, hc⟩ := h
  rcases Nat.eq_zero_or_pos n with h0 | h0
  · subst h0
    obtain rfl : l = [] := List.eq_nil_of_length_eq_zero hl
    rw [run_convert_bytes_string w src dst e _ 0 c hs he hd]
    cases A <;> simp [Conv.bytesToString, loadCells]
    all_goals rfl
  · obtain ⟨g, off, rfl, hcell⟩ := hc h0
    rw [run_convert_bytes_arg w src e hs he g off n c (l.map fun b => (b.toNat : Int)) (by simpa using hl) (fun i hi => ?_) dst hd, strOfNums_bytes]
    rw [hcell i hi]
    have hi' : i < l.length := by omega
    simp [List.getD_eq_getElem?_getD, hi']
theorem run_eql_str {T ty : TypeId} (w : World) (s : ByteArray) (x y : Operand) {a : Act} {o : Oper} (ho : o.op = .binOp .eql T x y ty) (hx : a.eval x = .string s) (hy : a.eval y = .string s) : (execOp a.eval o).run P w = .ok (.value (.bool true)) w := by
  unfold execOp
  simp [ho, hx, hy, eqGuard, binOp, Op.stringOp]
theorem own_nil {w : World} {base n k c : Nat} {e : TypeId} {A : Option Addr} {l : List Value} {sz : Nat} (h : w.ownsRow base e sz (.slice A n c) k l) (hA : A = none) : c = 0 := by
  rcases h.2 with ⟨hv, _⟩ | ⟨g, cap, cur, hv, _⟩
  · injection hv with _ _ h3
  · injection hv with h1
    rw [hA] at h1
    cases h1
end
end Mur
