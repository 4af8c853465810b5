/- An attest's bytes read again. No program in sight. -/
import Derived.Test.YtljfjjofhclhiaaDoorAtK
import Derived.Test.YtljfjjofhclhiaaDoorAtD
namespace Mur
open Go Go.RowKit Wk
section
variable {k r t : List UInt8} {n : Int}
theorem raw_len (hk : k.length = 32) (hr : r.length = 32) (ht : t.length = 32) : (rawL k r n t).length = 104 := by simp only [rawL, List.length_append, hk, hr, ht, e8_length]
theorem raw_eq : rawL k r n t = k ++ (r ++ (e8 (u64n n) ++ t)) := by simp only [rawL, List.append_assoc]
theorem raw_k (hk : k.length = 32) : ((rawL k r n t).take 32).drop 0 = k := by
  rw [raw_eq, List.take_left' hk]
  rfl
theorem raw_r (hk : k.length = 32) (hr : r.length = 32) : ((rawL k r n t).take 64).drop 32 = r := by
  rw [raw_eq, ← List.append_assoc, List.take_left' (by rw [List.length_append, hk, hr]), List.drop_left' hk]
theorem raw_e (hk : k.length = 32) (hr : r.length = 32) : ((rawL k r n t).take 72).drop 64 = e8 (u64n n) := by
  rw [rawL, List.take_left' (by rw [List.length_append, List.length_append, hk, hr, e8_length]), List.drop_left' (by rw [List.length_append, hk, hr])]
theorem raw_t (hk : k.length = 32) (hr : r.length = 32) (ht : t.length = 32) : ((rawL k r n t).take 104).drop 72 = t := by
  rw [List.take_of_length_le (by rw [raw_len hk hr ht]; exact Nat.le_refl _), rawL, List.drop_left' (by rw [List.length_append, List.length_append, hk, hr, e8_length])]
end
theorem u8_ofNat {x : UInt8} {m : Nat} (h : m % 256 = x.toNat) : UInt8.ofNat m = x := UInt8.toNat_inj.1 (by simp; omega)
theorem be_e8 {E : List UInt8} (h : E.length = 8) : e8 (be8 E) = E := by
  rcases E with _ | ⟨a, _ | ⟨b, _ | ⟨c, _ | ⟨d, _ | ⟨e, _ | ⟨f, _ | ⟨g, _ | ⟨i, _ | ⟨j, E⟩⟩⟩⟩⟩⟩⟩⟩⟩ <;> simp at h
  have ha := a.toNat_lt; have hb := b.toNat_lt; have hc := c.toNat_lt; have hd := d.toNat_lt
  have he := e.toNat_lt; have hf := f.toNat_lt; have hg := g.toNat_lt; have hi := i.toNat_lt
  simp only [be8, List.getD_cons_zero, List.getD_cons_succ, e8]
  rw [u8_ofNat (x := a) (by omega), u8_ofNat (x := b) (by omega), u8_ofNat (x := c) (by omega), u8_ofNat (x := d) (by omega), u8_ofNat (x := e) (by omega), u8_ofNat (x := f) (by omega), u8_ofNat (x := g) (by omega), u8_ofNat (x := i) (by omega)]
theorem u64n_nat {V : Nat} (h : V ≤ 5000) : u64n ((V : Nat) : Int) = V := by
  have h1 : IntKind.u64.wrap ((V : Nat) : Int) = ((V : Nat) : Int) % 18446744073709551616 := rfl
  unfold u64n
  rw [h1]
  omega
theorem raw_back {b K R E T : List UInt8} {V : Nat} (hb : b.length = 104) (hK : (b.take 32).drop 0 = K) (hR : (b.take 64).drop 32 = R) (hE : (b.take 72).drop 64 = E) (hT : (b.take 104).drop 72 = T) (hV : be8 E = V) (hm : V ≤ 5000) : rawL K R ((V : Nat) : Int) T = b := by
  have hEl : E.length = 8 := by rw [← hE, List.length_drop, List.length_take, hb]; rfl
  unfold rawL
  rw [u64n_nat hm, ← hV, be_e8 hEl, ← hK, ← hR, ← hE, ← hT]
  have e1 : (b.take 64).drop 32 = (b.drop 32).take 32 := by rw [List.drop_take]
  have e2 : (b.take 72).drop 64 = (b.drop 64).take 8 := by rw [List.drop_take]
  have e3 : (b.take 104).drop 72 = b.drop 72 := by rw [List.take_of_length_le (by omega)]
  have s1 : b.take 64 = b.take 32 ++ (b.drop 32).take 32 := List.take_add (i := 32) (j := 32)
  have s2 : b.take 72 = b.take 64 ++ (b.drop 64).take 8 := List.take_add (i := 64) (j := 8)
  rw [e1, e2, e3, List.drop_zero, ← s1, ← s2, List.take_append_drop]
theorem sub_len {b : List UInt8} {lo hi m : Nat} (hb : b.length = 104) (h : hi ≤ 104) (hm : lo + m = hi) : ((b.take hi).drop lo).length = m := by
  rw [List.length_drop, List.length_take, hb]
  omega
end Mur
