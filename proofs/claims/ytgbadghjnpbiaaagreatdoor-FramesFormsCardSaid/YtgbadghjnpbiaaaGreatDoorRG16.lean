/- What the row rests on, part 16. -/
import Derived.Test.YtgbadghjnpbiaaaGreatDoorRG15
import Derived.Test.YtgbadghjnpbiaaaGreatDoorRG13
import Derived.Test.YtgbadghjnpbiaaaGreatDoorRG6
import Derived.Test.YtgbadghjnpbiaaaGreatDoorRG7
namespace Go.Proofs.YtgbadghjnpbiaaaGreatDoor
open Go.RowKit Go.WideShapes Go.ChangeShapes
open Mur (All2 Leaf Att SlA rowA attC b8s)
set_option maxRecDepth 100000
section
variable {H : Type} {enc : TypeId × Value → H} {W : World}
def lsA : List TypeId := (List.replicate 32 5 ++ (List.replicate 32 5 ++ ([3] ++ List.replicate 32 5)))
theorem cAtt : Tryz.prog.cellsOf 35 = lsA.length := by kernel_rfl
theorem leaf_att {cs : List Value} (ha : All2 (Leaf enc Tryz.prog W 0 (fun _ => true) true) lsA cs) : ∃ x : Att, cs = x.C := by
 obtain ⟨c1, c2, e1, h1, ha⟩ := Mur.all2_split ha
 obtain ⟨c3, c4, e2, h2, ha⟩ := Mur.all2_split ha
 obtain ⟨c5, c6, e3, h3, h4⟩ := Mur.all2_split ha
 obtain ⟨k, hk, rfl⟩ := Mur.leaf_u8s Tryz.underlying5 32 _ h1
 obtain ⟨r, hr, rfl⟩ := Mur.leaf_u8s Tryz.underlying5 32 _ h2
 obtain ⟨t, ht, rfl⟩ := Mur.leaf_u8s Tryz.underlying5 32 _ h4
 rcases h3 with _ | ⟨h3, h5⟩
 cases h5
 obtain ⟨n, rfl, hn⟩ := Mur.leaf_int Tryz.underlying3 h3
 refine ⟨⟨k, r, t, n, hk, hr, ht, hn⟩, ?_⟩
 subst e3 e2
 rw [e1]
 rfl
end
end Go.Proofs.YtgbadghjnpbiaaaGreatDoor
namespace Mur
open Go Go.RowKit Go.WideShapes Go.ChangeShapes
section
variable {H : Type} {enc : TypeId × Value → H} {P : Program} {W : World}
theorem leaf_slice {t e : TypeId} {v : Value} (ht : P.underlying t = some (.slice e)) (h : Leaf enc P W 0 (fun _ => true) true t v) : v.cells.toList = [v] ∧ ∃ d ps, DataW.Trod enc P W 0 (fun _ => true) true t v d ps := by
 obtain ⟨m, ⟨d, ps⟩, hf⟩ := h
 have hv : v.cells.toList = [v] := by
  rcases Deep.open_slice ht hf with ⟨h0, _⟩ | ⟨a, len, cap, m, n, D', Pl, h0, _⟩
  ·obtain rfl : v = .slice none 0 0 := by simpa using h0
   rfl
  ·obtain rfl : v = .slice (some a) len cap := by simpa using h0
   rfl
 exact ⟨hv, d, ps, m, by rw [hv]; exact hf⟩
end
end Mur
namespace Go.Proofs.YtgbadghjnpbiaaaGreatDoor
open Go.RowKit Go.WideShapes Go.ChangeShapes
open Mur (All2 Leaf Att SlA rowA attC b8s msgC)
set_option maxRecDepth 100000
section
variable {H : Type} {enc : TypeId × Value → H} {W : World}
theorem leaf_atts {v : Value} (h : Leaf enc Tryz.prog W 0 (fun _ => true) true 29 v) :
  ∃ A n c L, v = .slice A n c ∧ (n ≤ c ∧ c ≤ 9223372036854775807) ∧ (A = none → c = 0) ∧ SlA W A n L := by
 obtain ⟨hv, d, ps, h⟩ := Mur.leaf_slice Tryz.underlying29 h
 obtain ⟨A, n, c, rows, rfl, hnc, hcm, hnil, hlen, hrows, hat⟩ := Mur.open_rows 3 lsA Tryz.underlying29 leafs_a cAtt (by decide) hv h
 obtain ⟨L, rfl⟩ := Mur.rows_decode Att.C rows fun r hr => leaf_att (hrows r hr)
 have hl : L.length = n := by simpa using hlen
 refine ⟨A, n, c, L, rfl, ⟨hnc, by unfold maxLen at hcm; omega⟩, hnil, hl, by rw [Mur.rowA_len, hl], fun hn => ?_⟩
 have hp : 0 < n := by
  rcases Nat.eq_zero_or_pos n with h0 | h0
  ·rw [List.eq_nil_of_length_eq_zero (hl.trans h0)] at hn
   exact absurd rfl hn
  ·exact h0
 obtain ⟨g, off, e, hr⟩ := hat hp
 refine ⟨g, off, e, fun j v hv => ?_⟩
 have hj := (List.getElem?_eq_some_iff.1 hv).1
 rw [Mur.rowA_len] at hj
 obtain ⟨x, hx⟩ : ∃ x, L[j / 97]? = some x := ⟨_, List.getElem?_eq_getElem (by omega)⟩
 have h1 := hr (j / 97) x.C (by simp [hx])
 have h2 : x.C[j % 97]? = some v := by
  have e1 : (rowA L)[j]? = ((rowA L).drop (j / 97 * 97))[j % 97]? := by
   rw [List.getElem?_drop]
   congr 1
   omega
  rw [e1, ← Mur.rowA_drop] at hv
  obtain ⟨h3, rfl⟩ := List.getElem?_eq_some_iff.1 hx
  rw [List.drop_eq_getElem_cons h3, Mur.rowA_cons, List.getElem?_append_left (by rw [Att.C_len]; omega)] at hv
  exact hv
 have h4 := h1 (j % 97) v h2
 have e4 : off + j / 97 * lsA.length + j % 97 = off + j := by
  have : lsA.length = 97 := rfl
  rw [this]
  omega
 rw [e4] at h4
 exact h4
theorem cellsU8 : Tryz.prog.cellsOf 5 = 1 := by kernel_rfl
end
end Go.Proofs.YtgbadghjnpbiaaaGreatDoor
namespace Mur
open Go Go.RowKit Go.WideShapes Go.ChangeShapes Wk
theorem decodeQ {α : Type} (enc' : α → List Value) (Q : α → Prop) : ∀ rows : List (List Value), (∀ r ∈ rows, ∃ p, r = enc' p ∧ Q p) → ∃ l : List α, rows = l.map enc' ∧ ∀ x, x ∈ l → Q x
 | [], _ => ⟨[], rfl, fun _ h => (by cases h)⟩
 | r :: rows, h => by
  obtain ⟨p, rfl, hp⟩ := h r (by simp)
  obtain ⟨l, rfl, hl⟩ := decodeQ enc' Q rows fun x hx => h x (by simp [hx])
  exact ⟨p :: l, rfl, fun x hx => (List.mem_cons.1 hx).elim (fun e => e ▸ hp) (hl x)⟩
theorem rows_slR {w : World} {sz n : Nat} {A : Option Addr} {R : List (List Value)} (hz : Sized sz R) (hp : 0 < sz) (hl : R.length = n) (hat : 0 < n → ∃ g off, A = some ⟨g, off, none⟩ ∧ ∀ i r, R[i]? = some r → w.rangeAt g (off + i * sz) r) : SlR w sz A n R := by
 refine ⟨hl, hz, by rw [flatR_len hz, hl], fun hn => ?_⟩
 have hn0 : 0 < n := by
  rcases Nat.eq_zero_or_pos n with h0 | h0
  ·rw [List.eq_nil_of_length_eq_zero (hl.trans h0)] at hn
   exact absurd rfl hn
  ·exact h0
 obtain ⟨g, off, e, hr⟩ := hat hn0
 refine ⟨g, off, e, fun j v hv => ?_⟩
 have hj := (List.getElem?_eq_some_iff.1 hv).1
 rw [flatR_len hz] at hj
 have hq : j / sz < R.length := Nat.div_lt_of_lt_mul (by rw [Nat.mul_comm]; exact hj)
 have hrow := List.getElem?_eq_getElem hq
 have h1 := hr (j / sz) R[j / sz] hrow
 have hzl := (hz R[j / sz] (List.getElem_mem _)).1
 have hm : j % sz < sz := Nat.mod_lt _ hp
 have hd : j / sz * sz + j % sz = j := by rw [Nat.mul_comm]; exact Nat.div_add_mod j sz
 have h2 : R[j / sz][j % sz]? = some v := by
  have e1 : (flatR R)[j]? = ((flatR R).drop (j / sz * sz))[j % sz]? := by
   rw [List.getElem?_drop, hd]
  rw [e1, ← flatR_drop hz, List.drop_eq_getElem_cons hq] at hv
  have e2 : flatR (R[j / sz] :: R.drop (j / sz + 1)) = R[j / sz] ++ flatR (R.drop (j / sz + 1)) := rfl
  rw [e2, List.getElem?_append_left (by rw [hzl]; exact hm)] at hv
  exact hv
 have h4 := h1 (j % sz) v h2
 rw [show off + j / sz * sz + j % sz = off + j by omega] at h4
 exact h4
end Mur
namespace Go.Proofs.YtgbadghjnpbiaaaGreatDoor
open Go.RowKit Go.WideShapes Go.ChangeShapes
open Mur (All2 Leaf Att SlA rowA attC b8s msgC)
set_option maxRecDepth 100000
section
variable {H : Type} {enc : TypeId × Value → H} {W : World}
def lsU : List TypeId := [3, 5, 23]
theorem leafs_u : Mur.leafs Tryz.prog 3 61 = some lsU := by kernel_rfl
theorem cUpd : Tryz.prog.cellsOf 61 = lsU.length := by kernel_rfl
theorem leaf_upd {cs : List Value} (ha : All2 (Leaf enc Tryz.prog W 0 (fun _ => true) true) lsU cs) : ∃ u : Int × UInt8 × Nat, cs = Mur.updC u ∧ ((-9223372036854775808 ≤ u.1 ∧ u.1 ≤ 9223372036854775807) ∧ u.2.2 < 18446744073709551616) := by
 rcases ha with _ | ⟨k1, ha⟩
 rcases ha with _ | ⟨k2, ha⟩
 rcases ha with _ | ⟨k3, ha⟩
 cases ha
 obtain ⟨a, rfl, ha⟩ := Mur.leaf_int Tryz.underlying3 k1
 obtain ⟨b, rfl⟩ := Mur.leaf_u8 Tryz.underlying5 k2
 obtain ⟨c, rfl, hc⟩ := Mur.leaf_int Tryz.underlying23 k3
 have h1 := bounds_i64 ha
 have h2 := bounds_u64 hc
 refine ⟨(a, b, c.toNat), ?_, by omega, by show c.toNat < _; omega⟩
 unfold Mur.updC
 rw [show ((c.toNat : Nat) : Int) = c by omega]
theorem leaf_upds {v : Value} (h : Leaf enc Tryz.prog W 0 (fun _ => true) true 24 v) :
  ∃ (s : Mur.Sl3) (l : List (Int × UInt8 × Nat)), v = .slice s.A s.n s.c ∧ Mur.SlN s ∧ Mur.SlR W 3 s.A s.n (l.map Mur.updC) ∧ ∀ u, u ∈ l → ((-9223372036854775808 ≤ u.1 ∧ u.1 ≤ 9223372036854775807) ∧ u.2.2 < 18446744073709551616) := by
 obtain ⟨hv, d, ps, h⟩ := Mur.leaf_slice Tryz.underlying24 h
 obtain ⟨A, n, c, rows, rfl, hnc, hcm, hnil, hlen, hrows, hat⟩ := Mur.open_rows 3 lsU Tryz.underlying24 leafs_u cUpd (by decide) hv h
 obtain ⟨l, rfl, hq⟩ := Mur.decodeQ Mur.updC _ rows fun r hr => leaf_upd (hrows r hr)
 exact ⟨⟨A, n, c⟩, l, rfl, ⟨hnil, hnc, by unfold maxLen at hcm; exact hcm⟩, Mur.rows_slR (Mur.upd_sized l) (by decide) hlen hat, hq⟩
def lsD : List TypeId := List.replicate 32 5
theorem leafs_dg : Mur.leafs Tryz.prog 3 28 = some lsD := by kernel_rfl
theorem cDig : Tryz.prog.cellsOf 28 = lsD.length := by kernel_rfl
theorem leaf_digs {v : Value} (h : Leaf enc Tryz.prog W 0 (fun _ => true) true 36 v) :
  ∃ (s : Mur.Sl3) (l : List (List UInt8)), v = .slice s.A s.n s.c ∧ Mur.SlN s ∧ Mur.SlR W 32 s.A s.n (l.map b8s) ∧ ∀ x, x ∈ l → x.length = 32 := by
 obtain ⟨hv, d, ps, h⟩ := Mur.leaf_slice Tryz.underlying36 h
 obtain ⟨A, n, c, rows, rfl, hnc, hcm, hnil, hlen, hrows, hat⟩ := Mur.open_rows 3 lsD Tryz.underlying36 leafs_dg cDig (by decide) hv h
 obtain ⟨l, rfl, hq⟩ := Mur.decodeQ b8s (fun x => x.length = 32) rows fun r hr => (Mur.leaf_u8s Tryz.underlying5 32 _ (hrows r hr)).imp fun x hx => ⟨hx.2, hx.1⟩
 exact ⟨⟨A, n, c⟩, l, rfl, ⟨hnil, hnc, by unfold maxLen at hcm; exact hcm⟩, Mur.rows_slR (Mur.dig_sized hq) (by decide) hlen hat, hq⟩
theorem leaf_bys {v : Value} (h : Leaf enc Tryz.prog W 0 (fun _ => true) true 22 v) : ∃ (s : Mur.Sl3) (l : List UInt8), v = .slice s.A s.n s.c ∧ Mur.SlN s ∧ Mur.Byt W s.A s.n l := by
 obtain ⟨A, n, c, l, rfl, h1, h2, h3, h4⟩ := Mur.leaf_byt Tryz.underlying22 Tryz.underlying5 cellsU8 h
 exact ⟨⟨A, n, c⟩, l, rfl, ⟨h3, h1, by unfold maxLen at h2; exact h2⟩, h4⟩
theorem leaf_at3 {v : Value} (h : Leaf enc Tryz.prog W 0 (fun _ => true) true 29 v) : ∃ (s : Mur.Sl3) (l : List Att), v = .slice s.A s.n s.c ∧ Mur.SlN s ∧ SlA W s.A s.n l := by
 obtain ⟨A, n, c, l, rfl, h1, h2, h3⟩ := leaf_atts h
 exact ⟨⟨A, n, c⟩, l, rfl, ⟨h2, h1.1, h1.2⟩, h3⟩
def lsF : List TypeId := [5, 3, 3, 3, 5, 23, 3, 24, 5, 22] ++ (lsD ++ ([3, 29, 4] ++ (lsD ++ ([3, 23, 23, 4] ++ (lsD ++ (lsD ++ ([3] ++ (lsD ++ (lsD ++ [3, 22, 36])))))))))
theorem leafs_f : Mur.leafs Tryz.prog 4 38 = some lsF := by kernel_rfl
theorem open_frm {v : Value} {d : DataW H} {ps : List MemPlace} (hval : ∃ r b0, Value.okWide Tryz.prog W r b0 38 v) (h : DataW.Trod enc Tryz.prog W 0 (fun _ => true) true 38 v d ps) :
  ∃ (f : Mur.Frm) (z : Mur.Zs), v = .agg (Mur.frmP f z).flatten.toArray ∧ Mur.LiesF W z f ∧ Mur.FrmIn f := by
 obtain ⟨cs, rfl, ha⟩ := Mur.open_agg 4 (.inr ⟨_, Tryz.underlying38⟩) leafs_f hval h
 obtain ⟨c1, cs1, e1, h1, ha⟩ := Mur.all2_split ha
 obtain ⟨c2, cs2, e2, h2, ha⟩ := Mur.all2_split ha
 obtain ⟨c3, cs3, e3, h3, ha⟩ := Mur.all2_split ha
 obtain ⟨c4, cs4, e4, h4, ha⟩ := Mur.all2_split ha
 obtain ⟨c5, cs5, e5, h5, ha⟩ := Mur.all2_split ha
 obtain ⟨c6, cs6, e6, h6, ha⟩ := Mur.all2_split ha
 obtain ⟨c7, cs7, e7, h7, ha⟩ := Mur.all2_split ha
 obtain ⟨c8, cs8, e8, h8, ha⟩ := Mur.all2_split ha
 obtain ⟨c9, cs9, e9, h9, ha⟩ := Mur.all2_split ha
 obtain ⟨c10, c11, e10, h10, h11⟩ := Mur.all2_split ha
 rcases h1 with _ | ⟨k1, h1⟩
 rcases h1 with _ | ⟨k2, h1⟩
 rcases h1 with _ | ⟨k3, h1⟩
 rcases h1 with _ | ⟨k4, h1⟩
 rcases h1 with _ | ⟨k5, h1⟩
 rcases h1 with _ | ⟨k6, h1⟩
 rcases h1 with _ | ⟨k7, h1⟩
 rcases h1 with _ | ⟨k8, h1⟩
 rcases h1 with _ | ⟨k9, h1⟩
 rcases h1 with _ | ⟨k10, h1⟩
 cases h1
 rcases h3 with _ | ⟨m1, h3⟩
 rcases h3 with _ | ⟨m2, h3⟩
 rcases h3 with _ | ⟨m3, h3⟩
 cases h3
 rcases h5 with _ | ⟨n1, h5⟩
 rcases h5 with _ | ⟨n2, h5⟩
 rcases h5 with _ | ⟨n3, h5⟩
 rcases h5 with _ | ⟨n4, h5⟩
 cases h5
 rcases h8 with _ | ⟨o1, h8⟩
 cases h8
 rcases h11 with _ | ⟨q1, h11⟩
 rcases h11 with _ | ⟨q2, h11⟩
 rcases h11 with _ | ⟨q3, h11⟩
 cases h11
 obtain ⟨kd, rfl⟩ := Mur.leaf_u8 Tryz.underlying5 k1
 obtain ⟨a, rfl, w1⟩ := Mur.leaf_int Tryz.underlying3 k2
 obtain ⟨b, rfl, w2⟩ := Mur.leaf_int Tryz.underlying3 k3
 obtain ⟨t, rfl, w3⟩ := Mur.leaf_int Tryz.underlying3 k4
 obtain ⟨pk, rfl⟩ := Mur.leaf_u8 Tryz.underlying5 k5
 obtain ⟨sq, rfl, w4⟩ := Mur.leaf_int Tryz.underlying23 k6
 obtain ⟨ab, rfl, w5⟩ := Mur.leaf_int Tryz.underlying3 k7
 obtain ⟨u, ul, rfl, un, us, uq⟩ := leaf_upds k8
 obtain ⟨gk, rfl⟩ := Mur.leaf_u8 Tryz.underlying5 k9
 obtain ⟨p, pl, rfl, pn, pb⟩ := leaf_bys k10
 obtain ⟨gs, hgs, rfl⟩ := Mur.leaf_u8s Tryz.underlying5 32 _ h2
 obtain ⟨gn, rfl, w6⟩ := Mur.leaf_int Tryz.underlying3 m1
 obtain ⟨i, il, rfl, inn, is⟩ := leaf_at3 m2
 obtain ⟨ga, rfl⟩ := Mur.leaf_bool Tryz.underlying4 m3
 obtain ⟨ck, hck, rfl⟩ := Mur.leaf_u8s Tryz.underlying5 32 _ h4
 obtain ⟨cn, rfl, w7⟩ := Mur.leaf_int Tryz.underlying3 n1
 obtain ⟨ci, rfl, w8⟩ := Mur.leaf_int Tryz.underlying23 n2
 obtain ⟨cc, rfl, w9⟩ := Mur.leaf_int Tryz.underlying23 n3
 obtain ⟨cg, rfl⟩ := Mur.leaf_bool Tryz.underlying4 n4
 obtain ⟨ak, hak, rfl⟩ := Mur.leaf_u8s Tryz.underlying5 32 _ h6
 obtain ⟨ar, har, rfl⟩ := Mur.leaf_u8s Tryz.underlying5 32 _ h7
 obtain ⟨an, rfl, w10⟩ := Mur.leaf_int Tryz.underlying3 o1
 obtain ⟨at_, hat, rfl⟩ := Mur.leaf_u8s Tryz.underlying5 32 _ h9
 obtain ⟨rt, hrt, rfl⟩ := Mur.leaf_u8s Tryz.underlying5 32 _ h10
 obtain ⟨ch, rfl, w11⟩ := Mur.leaf_int Tryz.underlying3 q1
 obtain ⟨y, yl, rfl, yn, yb⟩ := leaf_bys q2
 obtain ⟨f, fl_, rfl, fn, fs, fq⟩ := leaf_digs q3
 have b4 := bounds_u64 w4
 have b8_ := bounds_u64 w8
 have b9 := bounds_u64 w9
 refine ⟨⟨kd, a, b, t, pk, sq.toNat, ab, ul, ⟨gk, pl, gs, gn, il, ga⟩, ck, cn, ci.toNat, cc.toNat, cg, ⟨ak, ar, at_, an, hak, har, hat, w10⟩, rt, ch, yl, fl_⟩, ⟨u, p, i, y, f⟩, ?_, ⟨us, pb, is, yb, fs, un, pn, inn, yn, fn⟩, ⟨⟨?_, ?_, ?_, fun x hx => (uq x hx).2, hgs, hck, hrt, fq⟩, bounds_i64 w1, bounds_i64 w2, bounds_i64 w3, bounds_i64 w5, fun x hx => (uq x hx).1, bounds_i64 w6, bounds_i64 w7, bounds_i64 w11⟩⟩
 ·have e4' : ((sq.toNat : Nat) : Int) = sq := by omega
  have e8' : ((ci.toNat : Nat) : Int) = ci := by omega
  have e9' : ((cc.toNat : Nat) : Int) = cc := by omega
  show Value.agg cs = .agg (Mur.frmL kd a b t pk sq.toNat ab u gk p gs gn i ga ck cn ci.toNat cc.toNat cg ak ar an at_ rt ch y f).flatten.toArray
  unfold Mur.frmL
  rw [e4', e8', e9']
  subst e10 e9 e8 e7 e6 e5 e4 e3 e2
  congr 1
  exact (congrArg List.toArray e1).trans (by simp)
 ·show sq.toNat < 2 ^ 64
  omega
 ·show ci.toNat < 2 ^ 64
  omega
 ·show cc.toNat < 2 ^ 64
  omega
end
end Go.Proofs.YtgbadghjnpbiaaaGreatDoor
