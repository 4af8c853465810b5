/- What the row rests on, part 6. -/
import Derived.Laws.Concat
import Derived.Test.YtgbadghjnpbiaaaDoorRO5
import Derived.Test.YtgbadghjnpbiaaaDoorRO3
namespace Mur
open Go Go.RowKit Wk
def fieldsC : Array (Nat × Nat) := #[(0, 32), (32, 1), (33, 1), (34, 1), (35, 1)]
end Mur
namespace Go.Proofs.YtgbadghjnpbiaaaDoor
open Go.RowKit Wk
open Mur (b8s claimC z32 updC)
set_option maxRecDepth 100000
theorem wfU {n : Nat} (h : n < 18446744073709551616) : (Lit.int .u64 ((n : Nat) : Int)).wf = true := by
  have h3 : IntKind.u64.min = 0 := by decide
  have h4 : IntKind.u64.max = 18446744073709551615 := by decide
  simp only [Lit.wf, h3, h4, Bool.and_eq_true, decide_eq_true_eq]
  omega
theorem wf8 (n : UInt8) : (Lit.int .u8 ((n.toNat : Nat) : Int)).wf = true := by
  have h3 : IntKind.u8.min = 0 := by decide
  have h4 : IntKind.u8.max = 255 := by decide
  have := n.toNat_lt
  simp only [Lit.wf, h3, h4, Bool.and_eq_true, decide_eq_true_eq]
  omega
theorem built_claim {k : List UInt8} (hk : k.length = 32) (n : Int) : Program.built Tryd.prog 34 [(1, .int .i64 n), (0, .agg (b8s k).toArray)] = some (claimC k n 0 0 false).toArray := by
  refine (show Program.built Tryd.prog 34 [(1, .int .i64 n), (0, .agg (b8s k).toArray)] = Instr.fill (fun i => Mur.fieldsC[i]?) (claimC z32 0 0 0 false).toArray [(1, .int .i64 n), (0, .agg (b8s k).toArray)] from by kernel_rfl).trans ?_
  refine Mur.fill_part (off := 32) (size := 1) (vs := [.int .i64 n]) rfl rfl rfl (by rw [Mur.claimC_length rfl]; omega) ?_
  have e2 : splice (claimC z32 0 0 0 false) 32 [.int .i64 n] = claimC z32 n 0 0 false := by
    have := Mur.splice_mid (A := b8s z32) (B := [Value.int .i64 0]) (C := [.int .u64 0, .int .u64 0, .bool false]) (vs := [Value.int .i64 n]) (off := 32) rfl rfl
    simpa [claimC] using this
  rw [e2]
  refine Mur.fill_part (off := 0) (size := 32) (vs := b8s k) rfl rfl (by rw [Mur.b8s_length, hk]) (by rw [Mur.claimC_length rfl]; omega) ?_
  have e : splice (claimC z32 n 0 0 false) 0 (b8s k) = claimC k n 0 0 false := Mur.splice_mid (A := []) (B := b8s z32) (vs := b8s k) (off := 0) rfl (by rw [Mur.b8s_length, Mur.b8s_length, hk]; rfl)
  rw [e]
  rfl
section
variable {ck ck' : List UInt8} {cn cn' : Int} {ci ci' cc cc' : Nat} {cg cg' : Bool}
theorem keyLits_claim (hk : ck.length = 32) (hn : (Lit.int .i64 cn).wf = true) (hi : ci < 18446744073709551616) (hc : cc < 18446744073709551616) : Tryd.prog.keyLits 3 34 (claimC ck cn ci cc cg) = some (litsD ck ++ [Lit.int .i64 cn, Lit.int .u64 ((ci : Nat) : Int), Lit.int .u64 ((cc : Nat) : Int), Lit.bool cg]) := by
  have hc0 : Tryd.prog.cellsOf 34 = 36 := by kernel_rfl
  have c1 : Tryd.prog.cellsOf 29 = 32 := by kernel_rfl
  have c2 : Tryd.prog.cellsOf 3 = 1 := by kernel_rfl
  have c3 : Tryd.prog.cellsOf 24 = 1 := by kernel_rfl
  have c4 : Tryd.prog.cellsOf 4 = 1 := by kernel_rfl
  have hl : (b8s ck).length = 32 := by rw [Mur.b8s_length, hk]
  have e1 : ((claimC ck cn ci cc cg).drop 0).take 32 = b8s ck := by
    show (b8s ck ++ _).take 32 = _
    rw [List.take_left' hl]
  have ed : ∀ i, (claimC ck cn ci cc cg).drop (32 + i) = ([.int .i64 cn, .int .u64 ((ci : Nat) : Int), .int .u64 ((cc : Nat) : Int), .bool cg] : List Value).drop i := fun i => by
    rw [← List.drop_drop]
    show ((b8s ck ++ _).drop 32).drop i = _
    rw [List.drop_left' hl]
  have e2 : ((claimC ck cn ci cc cg).drop 32).take 1 = [.int .i64 cn] := by rw [ed 0]; rfl
  have e3 : ((claimC ck cn ci cc cg).drop 33).take 1 = [.int .u64 ((ci : Nat) : Int)] := by rw [ed 1]; rfl
  have e4 : ((claimC ck cn ci cc cg).drop 34).take 1 = [.int .u64 ((cc : Nat) : Int)] := by rw [ed 2]; rfl
  have e5 : ((claimC ck cn ci cc cg).drop 35).take 1 = [.bool cg] := by rw [ed 3]; rfl
  have l1 := Mur.keyLits_dig digT ck hk
  have l2 : Tryd.prog.keyLits 2 3 [.int .i64 cn] = some [.int .i64 cn] := by
    unfold Program.keyLits
    simp only [Tryd.underlying3]
    exact if_pos ⟨trivial, hn⟩
  have l3 : ∀ n : Nat, n < 18446744073709551616 → Tryd.prog.keyLits 2 24 [.int .u64 ((n : Nat) : Int)] = some [.int .u64 ((n : Nat) : Int)] := fun n h => by
    unfold Program.keyLits
    simp only [Tryd.underlying24]
    exact if_pos ⟨trivial, wfU h⟩
  have l4 : Tryd.prog.keyLits 2 4 [.bool cg] = some [.bool cg] := by
    unfold Program.keyLits
    simp only [Tryd.underlying4]
  unfold Program.keyLits
  simp only [Tryd.underlying34]
  rw [if_pos ⟨by rw [Mur.claimC_length hk, hc0], by decide +kernel⟩]
  simp only [List.mapM_cons, List.mapM_nil, c1, c2, c3, c4, e1, e2, e3, e4, e5, l1, l2, l3 _ hi, l3 _ hc, l4]
  simp [litsD]
theorem claim_lits (hk : ck.length = 32) (hk' : ck'.length = 32) : litsD ck ++ [Lit.int .i64 cn, Lit.int .u64 ((ci : Nat) : Int), Lit.int .u64 ((cc : Nat) : Int), Lit.bool cg] = litsD ck' ++ [Lit.int .i64 cn', Lit.int .u64 ((ci' : Nat) : Int), Lit.int .u64 ((cc' : Nat) : Int), Lit.bool cg'] ↔ ck = ck' ∧ cn = cn' ∧ ci = ci' ∧ cc = cc' ∧ cg = cg' := by
  constructor
  · intro h
    have h1 := List.append_inj h (by rw [litsD_length, litsD_length])
    have h2 := h1.2
    simp only [List.cons.injEq, Lit.int.injEq, Lit.bool.injEq, true_and, and_true] at h2
    exact ⟨(litsD_inj hk hk').1 h1.1, h2.1, by omega, by omega, h2.2.2.2⟩
  · rintro ⟨rfl, rfl, rfl, rfl, rfl⟩
    rfl
theorem quiet_claim : Tryd.prog.eqGuardType Tryd.prog.depth 34 = false := by kernel_rfl
variable {w : World} {a : Act} {o : Oper}
theorem eql_claim (hk : ck.length = 32) (hk' : ck'.length = 32) (hn : (Lit.int .i64 cn).wf = true) (hn' : (Lit.int .i64 cn').wf = true) (hi : ci < 18446744073709551616) (hi' : ci' < 18446744073709551616) (hc : cc < 18446744073709551616) (hc' : cc' < 18446744073709551616) (w : World) :
    (Op.equalIn 10000 34 (.agg (claimC ck cn ci cc cg).toArray) (.agg (claimC ck' cn' ci' cc' cg').toArray)).run Tryd.prog w = .ok (decide (ck = ck' ∧ cn = cn' ∧ ci = ci' ∧ cc = cc' ∧ cg = cg')) w := by
  have hf : ∀ {a : List UInt8} {m : Int} {i j : Nat} {b : Bool}, a.length = 32 → (Value.agg (claimC a m i j b).toArray).formed Tryd.prog 34 = true := by
    intro a m i j b h1
    have hc : Tryd.prog.cellsOf 34 = 36 := by kernel_rfl
    simp [Value.formed, Tryd.underlying34, hc, Mur.claimC_length h1]
  obtain ⟨b, hb, hiff⟩ := run_equalIn_deep (P := Tryd.prog) 9997 3 34 (by kernel_rfl) w 3 3 (.agg (claimC ck cn ci cc cg).toArray) (.agg (claimC ck' cn' ci' cc' cg').toArray) _ _ (hf hk) (hf hk') (keyLits_claim hk hn hi hc) (keyLits_claim hk' hn' hi' hc')
  rw [claim_lits hk hk'] at hiff
  rw [show (10000 : Nat) = 9997 + 3 from rfl, hb]
  congr 1
  by_cases e : ck = ck' ∧ cn = cn' ∧ ci = ci' ∧ cc = cc' ∧ cg = cg'
  · rw [decide_eq_true e]; exact hiff.2 e
  · rw [decide_eq_false e]
    cases b
    · rfl
    · exact absurd (hiff.1 rfl) e
theorem run_eql_claim (x y : Operand) (ty : TypeId) (ho : o.op = .binOp .eql 34 x y ty) (hk : ck.length = 32) (hk' : ck'.length = 32) (hn : (Lit.int .i64 cn).wf = true) (hn' : (Lit.int .i64 cn').wf = true) (hi : ci < 18446744073709551616) (hi' : ci' < 18446744073709551616) (hc : cc < 18446744073709551616) (hc' : cc' < 18446744073709551616)
    (hx : a.eval x = .agg (claimC ck cn ci cc cg).toArray) (hy : a.eval y = .agg (claimC ck' cn' ci' cc' cg').toArray) : (execOp a.eval o).run Tryd.prog w = .ok (.value (.bool (decide (ck = ck' ∧ cn = cn' ∧ ci = ci' ∧ cc = cc' ∧ cg = cg')))) w := by
  unfold execOp
  simp only [ho, hx, hy, Sem.run_bind, run_eqGuard_agg w _ _ _ _ _ _ quiet_claim, Result.andThen_ok, run_eql_struct, Sem.run_pure, eql_claim hk hk' hn hn' hi hi' hc hc']
theorem run_neq_claim (x y : Operand) (ty : TypeId) (ho : o.op = .binOp .neq 34 x y ty) (hk : ck.length = 32) (hk' : ck'.length = 32) (hn : (Lit.int .i64 cn).wf = true) (hn' : (Lit.int .i64 cn').wf = true) (hi : ci < 18446744073709551616) (hi' : ci' < 18446744073709551616) (hc : cc < 18446744073709551616) (hc' : cc' < 18446744073709551616)
    (hx : a.eval x = .agg (claimC ck cn ci cc cg).toArray) (hy : a.eval y = .agg (claimC ck' cn' ci' cc' cg').toArray) : (execOp a.eval o).run Tryd.prog w = .ok (.value (.bool (!decide (ck = ck' ∧ cn = cn' ∧ ci = ci' ∧ cc = cc' ∧ cg = cg')))) w := by
  unfold execOp
  simp only [ho, hx, hy, Sem.run_bind, run_eqGuard_agg w _ _ _ _ _ _ quiet_claim, Result.andThen_ok, run_neq_struct, Sem.run_pure, eql_claim hk hk' hn hn' hi hi' hc hc']
end
-- updates
section
variable {u u' : Int × UInt8 × Nat}
theorem updC_len : (updC u).length = 3 := rfl
theorem keyLits_upd (hn : (Lit.int .i64 u.1).wf = true) (hi : u.2.2 < 18446744073709551616) : Tryd.prog.keyLits 3 66 (updC u) = some [Lit.int .i64 u.1, Lit.int .u8 ((u.2.1.toNat : Nat) : Int), Lit.int .u64 ((u.2.2 : Nat) : Int)] := by
  have hc0 : Tryd.prog.cellsOf 66 = 3 := by kernel_rfl
  have c2 : Tryd.prog.cellsOf 3 = 1 := by kernel_rfl
  have c3 : Tryd.prog.cellsOf 24 = 1 := by kernel_rfl
  have c4 : Tryd.prog.cellsOf 5 = 1 := by kernel_rfl
  have e2 : ((updC u).drop 0).take 1 = [.int .i64 u.1] := rfl
  have e3 : ((updC u).drop 1).take 1 = [.int .u8 ((u.2.1.toNat : Nat) : Int)] := rfl
  have e4 : ((updC u).drop 2).take 1 = [.int .u64 ((u.2.2 : Nat) : Int)] := rfl
  have l2 : Tryd.prog.keyLits 2 3 [.int .i64 u.1] = some [.int .i64 u.1] := by
    unfold Program.keyLits
    simp only [Tryd.underlying3]
    exact if_pos ⟨trivial, hn⟩
  have l3 : Tryd.prog.keyLits 2 24 [.int .u64 ((u.2.2 : Nat) : Int)] = some [.int .u64 ((u.2.2 : Nat) : Int)] := by
    unfold Program.keyLits
    simp only [Tryd.underlying24]
    exact if_pos ⟨trivial, wfU hi⟩
  have l4 : Tryd.prog.keyLits 2 5 [.int .u8 ((u.2.1.toNat : Nat) : Int)] = some [.int .u8 ((u.2.1.toNat : Nat) : Int)] := by
    unfold Program.keyLits
    simp only [Tryd.underlying5]
    exact if_pos ⟨trivial, wf8 _⟩
  unfold Program.keyLits
  simp only [Tryd.underlying66]
  rw [if_pos ⟨by rw [updC_len, hc0], by decide +kernel⟩]
  simp only [List.mapM_cons, List.mapM_nil, c2, c3, c4, e2, e3, e4, l2, l3, l4]
  rfl
theorem upd_lits : [Lit.int .i64 u.1, Lit.int .u8 ((u.2.1.toNat : Nat) : Int), Lit.int .u64 ((u.2.2 : Nat) : Int)] = [Lit.int .i64 u'.1, Lit.int .u8 ((u'.2.1.toNat : Nat) : Int), Lit.int .u64 ((u'.2.2 : Nat) : Int)] ↔ u = u' := by
  constructor
  · intro h
    simp only [List.cons.injEq, Lit.int.injEq, true_and, and_true] at h
    obtain ⟨h1, h2, h3⟩ := h
    obtain ⟨a, b, c⟩ := u
    obtain ⟨a', b', c'⟩ := u'
    simp only at h1 h2 h3
    obtain rfl : b = b' := UInt8.toNat_inj.1 (by omega)
    obtain rfl : c = c' := by omega
    rw [h1]
  · rintro rfl
    rfl
theorem quiet_upd : Tryd.prog.eqGuardType Tryd.prog.depth 66 = false := by kernel_rfl
variable {w : World} {a : Act} {o : Oper}
theorem eql_upd (hn : (Lit.int .i64 u.1).wf = true) (hn' : (Lit.int .i64 u'.1).wf = true) (hi : u.2.2 < 18446744073709551616) (hi' : u'.2.2 < 18446744073709551616) (w : World) :
    (Op.equalIn 10000 66 (.agg (updC u).toArray) (.agg (updC u').toArray)).run Tryd.prog w = .ok (decide (u = u')) w := by
  have hf : ∀ {v : Int × UInt8 × Nat}, (Value.agg (updC v).toArray).formed Tryd.prog 66 = true := by
    intro v
    have hc : Tryd.prog.cellsOf 66 = 3 := by kernel_rfl
    simp [Value.formed, Tryd.underlying66, hc, updC_len]
  obtain ⟨b, hb, hiff⟩ := run_equalIn_deep (P := Tryd.prog) 9997 3 66 (by kernel_rfl) w 3 3 (.agg (updC u).toArray) (.agg (updC u').toArray) _ _ hf hf (keyLits_upd hn hi) (keyLits_upd hn' hi')
  rw [upd_lits] at hiff
  rw [show (10000 : Nat) = 9997 + 3 from rfl, hb]
  congr 1
  by_cases e : u = u'
  · rw [decide_eq_true e]; exact hiff.2 e
  · rw [decide_eq_false e]
    cases b
    · rfl
    · exact absurd (hiff.1 rfl) e
theorem run_neq_upd (x y : Operand) (ty : TypeId) (ho : o.op = .binOp .neq 66 x y ty) (hn : (Lit.int .i64 u.1).wf = true) (hn' : (Lit.int .i64 u'.1).wf = true) (hi : u.2.2 < 18446744073709551616) (hi' : u'.2.2 < 18446744073709551616)
    (hx : a.eval x = .agg (updC u).toArray) (hy : a.eval y = .agg (updC u').toArray) : (execOp a.eval o).run Tryd.prog w = .ok (.value (.bool (!decide (u = u')))) w := by
  unfold execOp
  simp only [ho, hx, hy, Sem.run_bind, run_eqGuard_agg w _ _ _ _ _ _ quiet_upd, Result.andThen_ok, run_neq_struct, Sem.run_pure, eql_upd hn hn' hi hi']
end
end Go.Proofs.YtgbadghjnpbiaaaDoor
namespace Mur
open Go Go.RowKit Wk
section
variable {P : Program}
theorem run_neq_dg {T e : TypeId} (h : DigT P T e) (d d' : List UInt8) (hd : d.length = 32) (hd' : d'.length = 32) (w : World) (x y : Operand) (ty : TypeId) {a : Act} {o : Oper} (ho : o.op = .binOp .neq T x y ty)
    (hx : a.eval x = .agg (b8s d).toArray) (hy : a.eval y = .agg (b8s d').toArray) : (execOp a.eval o).run P w = .ok (.value (.bool (!decide (d = d')))) w := by
  have hf : ∀ x : List UInt8, x.length = 32 → (Value.agg (b8s x).toArray).formed P T = true := by
    intro x hx
    simp [Value.formed, h.ty, h.ct, b8s_length, hx]
  obtain ⟨r, hr, hiff⟩ := run_equalIn_deep (P := P) 9998 2 T h.key w 2 2 (.agg (b8s d).toArray) (.agg (b8s d').toArray) _ _ (hf d hd) (hf d' hd') (keyLits_dig h d hd) (keyLits_dig h d' hd')
  rw [lits_inj hd hd'] at hiff
  have hr' : r = decide (d = d') := by
    by_cases e : d = d'
    · rw [decide_eq_true e]; exact hiff.2 e
    · rw [decide_eq_false e]
      cases r
      · rfl
      · exact absurd (hiff.1 rfl) e
  subst hr'
  unfold execOp
  simp only [ho, hx, hy, Sem.run_bind, run_eqGuard_agg w _ _ _ _ _ _ h.quiet, Result.andThen_ok, run_neq_struct, Sem.run_pure]
  rw [show (10000 : Nat) = 9998 + 2 from rfl, hr]
  rfl
end
section
variable {α : Type}
theorem take_sn {l : List α} {i : Nat} {y : α} (h : l[i]? = some y) : l.take (i + 1) = l.take i ++ [y] := by
  obtain ⟨h1, rfl⟩ := List.getElem?_eq_some_iff.1 h
  exact List.take_succ_eq_append_getElem h1
theorem map_at {β : Type} {l : List α} {i : Nat} {y : α} (f : α → β) (h : l[i]? = some y) : (l.map f)[i]? = some (f y) := by rw [List.getElem?_map, h]; rfl
end
theorem att_sized (L : List Att) : Sized 97 (L.map attL) := fun c hc => by
  obtain ⟨r, _, rfl⟩ := List.mem_map.1 hc
  exact ⟨attL_len r, attC_one⟩
theorem SlA.slR {w : World} {A : Option Addr} {n : Nat} {L : List Att} (h : SlA w A n L) : SlR w 97 A n (L.map attL) := ⟨by rw [List.length_map, h.len], att_sized L, by rw [attL_flat]; exact h.sl⟩
theorem frm_eq {f g : Frm} (h0 : ((f.kind.toNat : Nat) : Int) = ((g.kind.toNat : Nat) : Int)) (h1 : f.frm = g.frm) (h2 : f.dst = g.dst) (h3 : f.pTo = g.pTo) (h4 : ((f.pKind.toNat : Nat) : Int) = ((g.pKind.toNat : Nat) : Int)) (h5 : ((f.pSeq : Nat) : Int) = ((g.pSeq : Nat) : Int)) (h6 : f.pAbout = g.pAbout) (h7 : f.pUpd = g.pUpd)
    (h8 : ((f.gos.kind.toNat : Nat) : Int) = ((g.gos.kind.toNat : Nat) : Int)) (h9 : f.gos.pre = g.gos.pre) (h10 : f.gos.sum = g.gos.sum) (h11 : f.gos.cnt = g.gos.cnt) (h12 : f.gos.items = g.gos.items) (h13 : f.gos.ans = g.gos.ans)
    (h14 : f.cKey = g.cKey ∧ f.cNode = g.cNode ∧ f.cInc = g.cInc ∧ f.cCnt = g.cCnt ∧ f.cGone = g.cGone) (h15 : f.att = g.att) (h16 : f.root = g.root) (h17 : f.chunk = g.chunk) (h18 : f.byt = g.byt) (h19 : f.prf = g.prf) : f = g := by
  obtain ⟨k, a, b, c, d, e, p, q, ⟨m1, m2, m3, m4, m5, m6⟩, x, y, z, u, v, t, r, s, i, j⟩ := f
  obtain ⟨k', a', b', c', d', e', p', q', ⟨m1', m2', m3', m4', m5', m6'⟩, x', y', z', u', v', t', r', s', i', j'⟩ := g
  simp only at h0 h1 h2 h3 h4 h5 h6 h7 h8 h9 h10 h11 h12 h13 h14 h15 h16 h17 h18 h19
  obtain rfl : k = k' := UInt8.toNat_inj.1 (by omega)
  obtain rfl : d = d' := UInt8.toNat_inj.1 (by omega)
  obtain rfl : m1 = m1' := UInt8.toNat_inj.1 (by omega)
  obtain rfl : e = e' := by omega
  obtain ⟨rfl, rfl, rfl, rfl, rfl⟩ := h14
  subst h1 h2 h3 h6 h7 h9 h10 h11 h12 h13 h15 h16 h17 h18 h19
  rfl
end Mur
namespace Mur
open Go Go.RowKit Wk
def bareZ (f : Frm) (z : Zs) : Zs :=
  if f.kind = 1 then ⟨z.u, sl0, sl0, sl0, sl0⟩ else if f.kind = 2 then ⟨sl0, z.p, z.i, sl0, sl0⟩ else if f.kind = 6 then ⟨sl0, sl0, sl0, z.y, z.f⟩ else zs0
section
variable {f : Frm} {z : Zs}
theorem bareM_1 (h : f.kind = 1) : bareM f = { headM f.kind f.frm f.dst with pTo := f.pTo, pKind := f.pKind, pSeq := f.pSeq, pAbout := f.pAbout, pUpd := f.pUpd } := if_pos h
theorem bareM_2 (h : f.kind = 2) : bareM f = { headM f.kind f.frm f.dst with gos := f.gos } := by
  unfold bareM
  rw [if_neg (by rw [h]; decide), if_pos h]
theorem bareM_3 (h : f.kind = 3) : bareM f = { headM f.kind f.frm f.dst with cKey := f.cKey, cNode := f.cNode, cInc := f.cInc, cCnt := f.cCnt, cGone := f.cGone } := by
  unfold bareM
  rw [if_neg (by rw [h]; decide), if_neg (by rw [h]; decide), if_pos h]
theorem bareM_4 (h : f.kind = 4) : bareM f = { headM f.kind f.frm f.dst with att := f.att } := by
  unfold bareM
  rw [if_neg (by rw [h]; decide), if_neg (by rw [h]; decide), if_neg (by rw [h]; decide), if_pos h]
theorem bareM_5 (h : f.kind = 5) : bareM f = { headM f.kind f.frm f.dst with root := f.root, chunk := f.chunk } := by
  unfold bareM
  rw [if_neg (by rw [h]; decide), if_neg (by rw [h]; decide), if_neg (by rw [h]; decide), if_neg (by rw [h]; decide), if_pos h]
theorem bareM_6 (h : f.kind = 6) : bareM f = { headM f.kind f.frm f.dst with root := f.root, chunk := f.chunk, byt := f.byt, prf := f.prf } := by
  unfold bareM
  rw [if_neg (by rw [h]; decide), if_neg (by rw [h]; decide), if_neg (by rw [h]; decide), if_neg (by rw [h]; decide), if_neg (by rw [h]; decide), if_pos h]
theorem bareM_0 (h1 : ¬ f.kind = 1) (h2 : ¬ f.kind = 2) (h3 : ¬ f.kind = 3) (h4 : ¬ f.kind = 4) (h5 : ¬ f.kind = 5) (h6 : ¬ f.kind = 6) : bareM f = headM f.kind f.frm f.dst := by
  unfold bareM
  rw [if_neg h1, if_neg h2, if_neg h3, if_neg h4, if_neg h5, if_neg h6]
theorem bareZ_1 (h : f.kind = 1) : bareZ f z = ⟨z.u, sl0, sl0, sl0, sl0⟩ := if_pos h
theorem bareZ_2 (h : f.kind = 2) : bareZ f z = ⟨sl0, z.p, z.i, sl0, sl0⟩ := by
  unfold bareZ
  rw [if_neg (by rw [h]; decide), if_pos h]
theorem bareZ_6 (h : f.kind = 6) : bareZ f z = ⟨sl0, sl0, sl0, z.y, z.f⟩ := by
  unfold bareZ
  rw [if_neg (by rw [h]; decide), if_neg (by rw [h]; decide), if_pos h]
theorem bareZ_0 (h1 : ¬ f.kind = 1) (h2 : ¬ f.kind = 2) (h6 : ¬ f.kind = 6) : bareZ f z = zs0 := by
  unfold bareZ
  rw [if_neg h1, if_neg h2, if_neg h6]
theorem bareZ_3 (h : f.kind = 3) : bareZ f z = zs0 := bareZ_0 (by rw [h]; decide) (by rw [h]; decide) (by rw [h]; decide)
theorem bareZ_4 (h : f.kind = 4) : bareZ f z = zs0 := bareZ_0 (by rw [h]; decide) (by rw [h]; decide) (by rw [h]; decide)
theorem bareZ_5 (h : f.kind = 5) : bareZ f z = zs0 := bareZ_0 (by rw [h]; decide) (by rw [h]; decide) (by rw [h]; decide)
theorem lies_bare {w : World} (h : LiesF w z f) : LiesF w (bareZ f z) (bareM f) := by
  by_cases h1 : f.kind = 1
  · rw [bareM_1 h1, bareZ_1 h1]
    exact ⟨h.upd, byt_nil0 w none, SlA.nil w none, byt_nil0 w none, slR_nil w 32 none, h.nu, SlN.zero, SlN.zero, SlN.zero, SlN.zero⟩
  by_cases h2 : f.kind = 2
  · rw [bareM_2 h2, bareZ_2 h2]
    exact ⟨slR_nil w 3 none, h.pre, h.its, byt_nil0 w none, slR_nil w 32 none, SlN.zero, h.np, h.ni, SlN.zero, SlN.zero⟩
  by_cases h6 : f.kind = 6
  · rw [bareM_6 h6, bareZ_6 h6]
    exact ⟨slR_nil w 3 none, byt_nil0 w none, SlA.nil w none, h.byt, h.prf, SlN.zero, SlN.zero, SlN.zero, h.ny, h.nf⟩
  rw [bareZ_0 h1 h2 h6]
  by_cases h3 : f.kind = 3
  · rw [bareM_3 h3]
    exact lies_none rfl rfl rfl rfl rfl
  by_cases h4 : f.kind = 4
  · rw [bareM_4 h4]
    exact lies_none rfl rfl rfl rfl rfl
  by_cases h5 : f.kind = 5
  · rw [bareM_5 h5]
    exact lies_none rfl rfl rfl rfl rfl
  rw [bareM_0 h1 h2 h3 h4 h5 h6]
  exact lies_none rfl rfl rfl rfl rfl
theorem frmIn_bare (h : FrmIn f) : FrmIn (bareM f) := by
  have hh := frmIn_head f.kind h.frm h.dst
  by_cases h1 : f.kind = 1
  · rw [bareM_1 h1]
    exact ⟨⟨h.ok.seq, zN, zN, h.ok.upd, rfl, rfl, rfl, fun _ q => (by cases q)⟩, h.frm, h.dst, h.pTo, h.pAb, h.upd, zI, zI, zI⟩
  by_cases h2 : f.kind = 2
  · rw [bareM_2 h2]
    exact ⟨⟨zN, zN, zN, fun _ q => (by cases q), h.ok.sum, rfl, rfl, fun _ q => (by cases q)⟩, h.frm, h.dst, zI, zI, fun _ q => (by cases q), h.cnt, zI, zI⟩
  by_cases h3 : f.kind = 3
  · rw [bareM_3 h3]
    exact ⟨⟨zN, h.ok.inc, h.ok.cnt, fun _ q => (by cases q), rfl, h.ok.key, rfl, fun _ q => (by cases q)⟩, h.frm, h.dst, zI, zI, fun _ q => (by cases q), zI, h.cNo, zI⟩
  by_cases h4 : f.kind = 4
  · rw [bareM_4 h4]
    exact ⟨⟨zN, zN, zN, fun _ q => (by cases q), rfl, rfl, rfl, fun _ q => (by cases q)⟩, h.frm, h.dst, zI, zI, fun _ q => (by cases q), zI, zI, zI⟩
  by_cases h5 : f.kind = 5
  · rw [bareM_5 h5]
    exact ⟨⟨zN, zN, zN, fun _ q => (by cases q), rfl, rfl, h.ok.root, fun _ q => (by cases q)⟩, h.frm, h.dst, zI, zI, fun _ q => (by cases q), zI, zI, h.chk⟩
  by_cases h6 : f.kind = 6
  · rw [bareM_6 h6]
    exact ⟨⟨zN, zN, zN, fun _ q => (by cases q), rfl, rfl, h.ok.root, h.ok.prf⟩, h.frm, h.dst, zI, zI, fun _ q => (by cases q), zI, zI, h.chk⟩
  rw [bareM_0 h1 h2 h3 h4 h5 h6]
  exact hh
end
def goodU (u : Int × UInt8 × Nat) : Prop := (0 ≤ u.1 ∧ u.1 < 16) ∧ (1 ≤ u.2.1.toNat ∧ u.2.1.toNat ≤ 3) ∧ u.2.2 ≤ 1099511627776
end Mur
namespace Go.Proofs.YtgbadghjnpbiaaaDoor
open Go.RowKit Wk
theorem run_eql_bool {w : World} {a : Act} {o : Oper} (x y : Operand) (ty : TypeId) (ho : o.op = .binOp .eql 4 x y ty) (p q : Bool) (hx : a.eval x = .bool p) (hy : a.eval y = .bool q) : (execOp a.eval o).run Tryd.prog w = .ok (.value (.bool (decide (p = q)))) w := by
  have key : (binOp .eql 4 (.bool p) (.bool q)).run Tryd.prog w = .ok (.bool (decide (p = q))) w := by
    cases p <;> cases q <;> kernel_rfl
  have hg : (eqGuard .eql 4 x y (.bool p) (.bool q)).run Tryd.prog w = .ok () w := by
    cases p <;> cases q <;> kernel_rfl
  unfold execOp
  simp only [ho, hx, hy]
  simp only [Sem.run_bind, Sem.run_pure, hg, Result.andThen_ok, key]
end Go.Proofs.YtgbadghjnpbiaaaDoor
namespace Mur
open Go Go.RowKit
def mayK1 (f : Frm) : Prop := f.pTo = f.dst ∧ (1 ≤ f.pKind.toNat ∧ f.pKind.toNat ≤ 3) ∧ (0 ≤ f.pAbout ∧ f.pAbout < 16) ∧ f.pUpd.length ≤ 8 ∧ ∀ u, u ∈ f.pUpd → goodU u
def mayK2 (f : Frm) : Prop := mayM f.gos
def mayK3 (f : Frm) : Prop := f.cNode = f.frm ∧ f.cInc ≤ 1099511627776 ∧ f.cCnt ≤ 1099511627776
def mayK4 (f : Frm) : Prop := may f.att.n
def mayK5 (f : Frm) : Prop := 0 ≤ f.chunk ∧ f.chunk < 100
def mayK6 (f : Frm) : Prop := (0 ≤ f.chunk ∧ f.chunk < 100) ∧ f.byt.length ≤ 64 ∧ f.prf.length ≤ 10
section
variable {f : Frm} (h : nodeM f.frm ∧ nodeM f.dst ∧ f.frm ≠ f.dst ∧ f = bareM f)
include h
theorem mayFM_1 (k : f.kind = 1) : mayFM f ↔ mayK1 f := by
  refine ⟨fun q => ?_, fun q => ⟨h.1, h.2.1, h.2.2.1, h.2.2.2, .inl ⟨k, q⟩⟩⟩
  rcases q.2.2.2.2 with e | e | e | e | e | e
  · exact e.2
  all_goals (rw [k] at e; exact absurd e.1 (by decide))
theorem mayFM_2 (k : f.kind = 2) : mayFM f ↔ mayK2 f := by
  refine ⟨fun q => ?_, fun q => ⟨h.1, h.2.1, h.2.2.1, h.2.2.2, .inr (.inl ⟨k, q⟩)⟩⟩
  rcases q.2.2.2.2 with e | e | e | e | e | e
  · rw [k] at e; exact absurd e.1 (by decide)
  · exact e.2
  all_goals (rw [k] at e; exact absurd e.1 (by decide))
theorem mayFM_3 (k : f.kind = 3) : mayFM f ↔ mayK3 f := by
  refine ⟨fun q => ?_, fun q => ⟨h.1, h.2.1, h.2.2.1, h.2.2.2, .inr (.inr (.inl ⟨k, q⟩))⟩⟩
  rcases q.2.2.2.2 with e | e | e | e | e | e
  · rw [k] at e; exact absurd e.1 (by decide)
  · rw [k] at e; exact absurd e.1 (by decide)
  · exact e.2
  all_goals (rw [k] at e; exact absurd e.1 (by decide))
theorem mayFM_4 (k : f.kind = 4) : mayFM f ↔ mayK4 f := by
  refine ⟨fun q => ?_, fun q => ⟨h.1, h.2.1, h.2.2.1, h.2.2.2, .inr (.inr (.inr (.inl ⟨k, q⟩)))⟩⟩
  rcases q.2.2.2.2 with e | e | e | e | e | e
  · rw [k] at e; exact absurd e.1 (by decide)
  · rw [k] at e; exact absurd e.1 (by decide)
  · rw [k] at e; exact absurd e.1 (by decide)
  · exact e.2
  all_goals (rw [k] at e; exact absurd e.1 (by decide))
theorem mayFM_5 (k : f.kind = 5) : mayFM f ↔ mayK5 f := by
  refine ⟨fun q => ?_, fun q => ⟨h.1, h.2.1, h.2.2.1, h.2.2.2, .inr (.inr (.inr (.inr (.inl ⟨k, q⟩))))⟩⟩
  rcases q.2.2.2.2 with e | e | e | e | e | e
  · rw [k] at e; exact absurd e.1 (by decide)
  · rw [k] at e; exact absurd e.1 (by decide)
  · rw [k] at e; exact absurd e.1 (by decide)
  · rw [k] at e; exact absurd e.1 (by decide)
  · exact e.2
  all_goals (rw [k] at e; exact absurd e.1 (by decide))
theorem mayFM_6 (k : f.kind = 6) : mayFM f ↔ mayK6 f := by
  refine ⟨fun q => ?_, fun q => ⟨h.1, h.2.1, h.2.2.1, h.2.2.2, .inr (.inr (.inr (.inr (.inr ⟨k, q⟩))))⟩⟩
  rcases q.2.2.2.2 with e | e | e | e | e | e
  · rw [k] at e; exact absurd e.1 (by decide)
  · rw [k] at e; exact absurd e.1 (by decide)
  · rw [k] at e; exact absurd e.1 (by decide)
  · rw [k] at e; exact absurd e.1 (by decide)
  · rw [k] at e; exact absurd e.1 (by decide)
  · exact e.2
end
end Mur
namespace Mur
open Go Go.RowKit Wk
def enc3 (u : Int × UInt8 × Nat) : List UInt8 := formN (u64n u.1) ++ formN u.2.1.toNat ++ formN u.2.2
theorem updC_all (u : Int × UInt8 × Nat) : (updC u).toArray.all (·.oneCell') = true := Array.all_eq_true_iff_forall_mem.2 fun v hv => updC_one u v (by simpa using hv)
theorem updC_size (u : Int × UInt8 × Nat) : (updC u).toArray.size = 3 := rfl
theorem flat_sn {α : Type} (f : α → List UInt8) {l : List α} {i : Nat} {x : α} (h : l[i]? = some x) : ((l.take (i + 1)).map f).flatten = ((l.take i).map f).flatten ++ f x := by
  rw [take_sn h, List.map_append, List.flatten_append]
  simp
theorem u64n_to {i : Int} (h : 0 ≤ i) (h2 : i < 9223372036854775808) : u64n i = i.toNat := by
  unfold u64n
  have : IntKind.u64.wrap i = i := by
    show i % 18446744073709551616 = i
    omega
  rw [this]
theorem u64n_of {n : Nat} (h : n < 9223372036854775808) : u64n ((n : Nat) : Int) = n := by
  rw [u64n_to (by omega) (by omega)]
  rfl
section
variable {f : Frm} (h : mayFM f)
include h
theorem headB : formN (u64n ((f.kind.toNat : Nat) : Int)) ++ formN (u64n f.frm) ++ formN (u64n f.dst) ++ encC (conM f) = bodyFM f := by
  have e := kind_con h
  obtain ⟨⟨a1, a2⟩, ⟨b1, b2⟩, _⟩ := h
  have hk := f.kind.toNat_lt
  rw [u64n_of (by omega), u64n_to a1 (by omega), u64n_to b1 (by omega)]
  unfold bodyFM bodyF
  rw [e]
  show _ = formN f.kind.toNat ++ (formN f.frm.toNat ++ (formN f.dst.toNat ++ encC (conM f)))
  simp only [List.append_assoc]
theorem bodyB_1 (k : f.kind = 1) : formN (u64n ((f.kind.toNat : Nat) : Int)) ++ formN (u64n f.frm) ++ formN (u64n f.dst) ++ formN f.pKind.toNat ++ formN f.pSeq ++ formN (u64n f.pAbout) ++ (formN f.pUpd.length ++ (f.pUpd.map enc3).flatten) = bodyFM f := by
  have e : (conM f) = .probe f.pKind.toNat f.pSeq f.pAbout.toNat (f.pUpd.map fun u => ⟨u.1.toNat, u.2.1.toNat, u.2.2⟩) := if_pos k
  have hm : mayK1 f := (mayFM_1 ⟨h.1, h.2.1, h.2.2.1, h.2.2.2.1⟩ k).1 h
  rw [← headB h, e]
  have e2 : ((f.pUpd.map fun u => (⟨u.1.toNat, u.2.1.toNat, u.2.2⟩ : Upd)).map encU) = f.pUpd.map enc3 := by
    rw [List.map_map]
    refine List.map_congr_left fun u hu => ?_
    obtain ⟨⟨q1, q2⟩, _⟩ := hm.2.2.2.2 u hu
    show formN u.1.toNat ++ (formN u.2.1.toNat ++ formN u.2.2) = formN (u64n u.1) ++ formN u.2.1.toNat ++ formN u.2.2
    rw [u64n_to q1 (by omega), List.append_assoc]
  simp only [encC, e2, List.length_map, u64n_to hm.2.2.1.1 (by have := hm.2.2.1.2; omega), List.append_assoc]
theorem bodyB_2s (k : f.kind = 2) (g : f.gos.kind = 1) : formN (u64n ((f.kind.toNat : Nat) : Int)) ++ formN (u64n f.frm) ++ formN (u64n f.dst) ++ formN (u64n ((f.gos.kind.toNat : Nat) : Int)) ++ (formN f.gos.pre.length ++ f.gos.pre) ++ f.gos.sum ++ formN (u64n f.gos.cnt) = bodyFM f := by
  have e : (conM f) = .sum f.gos.pre f.gos.sum f.gos.cnt.toNat := by
    unfold conM
    rw [if_neg (by rw [k]; decide), if_pos k, if_pos g]
  have hm : mayM f.gos := (mayFM_2 ⟨h.1, h.2.1, h.2.2.1, h.2.2.2.1⟩ k).1 h
  rw [← headB h, e, u64n_to hm.2.1 (by have := hm.2.2.1; omega), g]
  have e1 : u64n (((1 : UInt8).toNat : Nat) : Int) = 1 := rfl
  simp only [encC, e1, List.append_assoc]
theorem bodyB_2i (k : f.kind = 2) (g : ¬ f.gos.kind = 1) : formN (u64n ((f.kind.toNat : Nat) : Int)) ++ formN (u64n f.frm) ++ formN (u64n f.dst) ++ formN (u64n ((f.gos.kind.toNat : Nat) : Int)) ++ (formN f.gos.pre.length ++ f.gos.pre) ++ (formN f.gos.items.length ++ (f.gos.items.map Att.raw).flatten) ++ formN (flagN f.gos.ans) = bodyFM f := by
  have e : (conM f) = .items f.gos.kind.toNat f.gos.pre f.gos.items f.gos.ans := by
    unfold conM
    rw [if_neg (by rw [k]; decide), if_pos k, if_neg g]
  have hk := f.gos.kind.toNat_lt
  rw [← headB h, e, u64n_of (n := f.gos.kind.toNat) (by omega)]
  simp only [encC, List.append_assoc]
theorem bodyB_3 (k : f.kind = 3) : formN (u64n ((f.kind.toNat : Nat) : Int)) ++ formN (u64n f.frm) ++ formN (u64n f.dst) ++ f.cKey ++ formN f.cInc ++ formN f.cCnt ++ formN (flagN f.cGone) = bodyFM f := by
  have e : (conM f) = .claim f.cKey f.cInc f.cCnt f.cGone := by
    unfold conM
    rw [if_neg (by rw [k]; decide), if_neg (by rw [k]; decide), if_pos k]
  rw [← headB h, e]
  simp only [encC, List.append_assoc]
theorem bodyB_4 (k : f.kind = 4) : formN (u64n ((f.kind.toNat : Nat) : Int)) ++ formN (u64n f.frm) ++ formN (u64n f.dst) ++ f.att.raw = bodyFM f := by
  have e : (conM f) = .result f.att := by
    unfold conM
    rw [if_neg (by rw [k]; decide), if_neg (by rw [k]; decide), if_neg (by rw [k]; decide), if_pos k]
  rw [← headB h, e]
  rfl
theorem bodyB_5 (k : f.kind = 5) : formN (u64n ((f.kind.toNat : Nat) : Int)) ++ formN (u64n f.frm) ++ formN (u64n f.dst) ++ f.root ++ formN (u64n f.chunk) = bodyFM f := by
  have e : (conM f) = .want f.root f.chunk.toNat := by
    unfold conM
    rw [if_neg (by rw [k]; decide), if_neg (by rw [k]; decide), if_neg (by rw [k]; decide), if_neg (by rw [k]; decide), if_pos k]
  have hm : mayK5 f := (mayFM_5 ⟨h.1, h.2.1, h.2.2.1, h.2.2.2.1⟩ k).1 h
  rw [← headB h, e, u64n_to hm.1 (by have := hm.2; omega)]
  simp only [encC, List.append_assoc]
theorem bodyB_6 (k : f.kind = 6) : formN (u64n ((f.kind.toNat : Nat) : Int)) ++ formN (u64n f.frm) ++ formN (u64n f.dst) ++ f.root ++ formN (u64n f.chunk) ++ (formN f.byt.length ++ f.byt) ++ (formN f.prf.length ++ (f.prf.map fun x => x).flatten) = bodyFM f := by
  have e : (conM f) = .chunk f.root f.chunk.toNat f.byt f.prf := by
    unfold conM
    rw [if_neg (by rw [k]; decide), if_neg (by rw [k]; decide), if_neg (by rw [k]; decide), if_neg (by rw [k]; decide), if_neg (by rw [k]; decide)]
  have hm : mayK6 f := (mayFM_6 ⟨h.1, h.2.1, h.2.2.1, h.2.2.2.1⟩ k).1 h
  rw [← headB h, e, u64n_to hm.1.1 (by have := hm.1.2; omega)]
  simp only [encC, List.append_assoc]
theorem kind_may : 1 ≤ f.kind.toNat ∧ f.kind.toNat ≤ 6 := by
  rcases h.2.2.2.2 with e | e | e | e | e | e <;> (rw [e.1]; decide)
end
end Mur
namespace Mur
open Go Go.RowKit Wk
theorem newOr_own {B x : Nat} {S : List Nat} {v : Value} (h : x ∈ S ∨ B ≤ x) (h2 : ∀ g, v.ownBlock = some g → B ≤ g) : NewOr B S ([x] ++ blk v) := ⟨h, newOr_blk h2⟩
end Mur
namespace Mur
open Go Go.RowKit Wk
theorem slr_lt {w : World} {sz g off n : Nat} {A : Option Addr} {R : List (List Value)} (h : SlR w sz A n R) (hp : 0 < sz) (e : A = some ⟨g, off, none⟩) (hn : 0 < n) : g < w.heap.size := by
  obtain ⟨r, hr⟩ : ∃ r, R[0]? = some r := ⟨_, List.getElem?_eq_getElem (by rw [h.len]; exact hn)⟩
  obtain ⟨g2, off2, e2, hg⟩ := h.row hr hp
  rw [e] at e2
  cases e2
  have hl := (h.szd r (List.mem_of_getElem? hr)).1
  have := hg 0 r[0] (List.getElem?_eq_getElem (by omega))
  unfold World.cell? at this
  cases hh : w.heap[g]? with
  | none => simp [hh] at this
  | some o => exact (Array.getElem?_eq_some_iff.1 hh).1
theorem byt_blt {w : World} {g off n : Nat} {A : Option Addr} {l : List UInt8} (h : Byt w A n l) (e : A = some ⟨g, off, none⟩) (hn : 0 < n) : g < w.heap.size := by
  obtain ⟨g2, off2, e2, hc⟩ := h.2 hn
  rw [e] at e2
  cases e2
  have := hc 0 hn
  unfold World.cell? at this
  cases hh : w.heap[g]? with
  | none => simp [hh] at this
  | some o => exact (Array.getElem?_eq_some_iff.1 hh).1
theorem own8_none (w : World) (base e : Nat) : Own8 w base e none 0 0 [] := own8_nil w base e
end Mur
namespace Mur
open Go Go.RowKit Wk
section
variable {T : List UInt8 → List UInt8} {b d : List UInt8} {x : Fra} {at4 at5 : Nat} {bad4 : Bool}
theorem rd_bad (hl : b.length ≤ 2000) (hF : Step readF b 0 false at4 true x) : readAll T b = .form := by
  rcases hF.no rfl with h | h
  · cases h
  · exact readAll_none hl h
theorem rd_some (hl : b.length ≤ 2000) (hF : Step readF b 0 false at4 false x) : readAll T b = told T b (ofFra x) x.con.kind (b.drop at4) := readAll_some T hl (hF.ok rfl).2
theorem rd_un (hl : b.length ≤ 2000) (h4 : at4 ≤ b.length) (hF : Step readF b 0 false at4 false x) (hk : ¬ x.con.kind ≤ 4) (hn : at4 = b.length → ¬ mayFM (ofFra x)) : readAll T b = .form := by
  rw [rd_some hl hF]
  unfold told
  rw [if_neg]
  rintro ⟨h1, h2⟩
  rw [if_neg hk, List.length_drop] at h2
  exact hn (by omega) h1
theorem rd_un_ok (hl : b.length ≤ 2000) (hF : Step readF b 0 false at4 false x) (hk : ¬ x.con.kind ≤ 4) (ha : at4 = b.length) (hm : mayFM (ofFra x)) : readAll T b = .ok (ofFra x) := by
  rw [rd_some hl hF]
  unfold told
  rw [if_pos ⟨hm, by rw [if_neg hk, List.length_drop]; omega⟩, if_neg (fun q => hk q.1)]
theorem rd_S {at5 : Nat} {bad5 : Bool} (hD : Step (readS 32) b at4 bad4 at5 bad5 d) (h : bad5 = false) : bad4 = false ∧ b.drop at4 = d ++ b.drop at5 ∧ d.length = 32 := by
  obtain ⟨h1, h2⟩ := hD.ok h
  have h3 := (codecS 32).un _ _ _ h2
  exact ⟨h1, h3.1, h3.2⟩
theorem rd_tg_bad (hl : b.length ≤ 2000) (hF : Step readF b 0 false at4 bad4 x) (hk : x.con.kind ≤ 4) (hD : Step (readS 32) b at4 bad4 at5 true d) : readAll T b = .form := by
  cases bad4 with
  | true => exact rd_bad hl hF
  | false =>
    rcases hD.no rfl with h | h
    · cases h
    · rw [rd_some hl hF]
      unfold told
      rw [if_neg]
      rintro ⟨_, h2⟩
      rw [if_pos hk] at h2
      unfold readS at h
      rw [if_neg (by omega)] at h
      cases h
theorem rd_tg_no (hl : b.length ≤ 2000) (h5 : at5 ≤ b.length) (hF : Step readF b 0 false at4 bad4 x) (hk : x.con.kind ≤ 4) (hD : Step (readS 32) b at4 bad4 at5 false d) (hn : at5 = b.length → ¬ mayFM (ofFra x)) : readAll T b = .form := by
  obtain ⟨rfl, e, hd⟩ := rd_S hD rfl
  rw [rd_some hl hF]
  unfold told
  rw [if_neg]
  rintro ⟨h1, h2⟩
  rw [if_pos hk, e, List.length_append, hd, List.length_drop] at h2
  exact hn (by omega) h1
theorem rd_tg_may (hl : b.length ≤ 2000) (hF : Step readF b 0 false at4 bad4 x) (hk : x.con.kind ≤ 4) (hD : Step (readS 32) b at4 bad4 at5 false d) (ha : at5 = b.length) (hm : mayFM (ofFra x)) : bad4 = false ∧ told T b (ofFra x) x.con.kind (b.drop at4) = if d ≠ T (b.take at4) then .tag else .ok (ofFra x) := by
  obtain ⟨rfl, e, hd⟩ := rd_S hD rfl
  refine ⟨rfl, ?_⟩
  have e5 : b.drop at5 = [] := List.drop_of_length_le (by omega)
  rw [e5, List.append_nil] at e
  have e6 : b.length - 32 = at4 := by
    have := congrArg List.length e
    rw [List.length_drop] at this
    omega
  unfold told
  rw [if_pos ⟨hm, by rw [e, if_pos hk, hd]⟩, e, e6]
  by_cases h : d = T (b.take at4)
  · rw [if_neg (fun q => q.2 h), if_neg (fun q => q h)]
  · rw [if_pos ⟨hk, h⟩, if_pos h]
theorem rd_tg_tag (hl : b.length ≤ 2000) (hF : Step readF b 0 false at4 bad4 x) (hk : x.con.kind ≤ 4) (hD : Step (readS 32) b at4 bad4 at5 false d) (ha : at5 = b.length) (hm : mayFM (ofFra x)) (hd : ¬ d = T (b.take at4)) : readAll T b = .tag := by
  obtain ⟨rfl, h⟩ := rd_tg_may (T := T) hl hF hk hD ha hm
  rw [rd_some hl hF, h, if_pos hd]
theorem rd_tg_ok (hl : b.length ≤ 2000) (hF : Step readF b 0 false at4 bad4 x) (hk : x.con.kind ≤ 4) (hD : Step (readS 32) b at4 bad4 at5 false d) (ha : at5 = b.length) (hm : mayFM (ofFra x)) (hd : d = T (b.take at4)) : readAll T b = .ok (ofFra x) := by
  obtain ⟨rfl, h⟩ := rd_tg_may (T := T) hl hF hk hD ha hm
  rw [rd_some hl hF, h, if_neg (fun q => q hd)]
theorem rd_none {v f k : Nat} {bad1 : Bool} {at1 : Nat} (hl : b.length ≤ 2000) (h : Step (pSeq readK (pSeq readI readI)) b 0 false at1 bad1 (v, (f, k))) (hv : (UInt8.ofNat v).toNat < 1 ∨ 6 < (UInt8.ofNat v).toNat) : readAll T b = .form := by
  rcases h.fra_no hv with h1 | h1
  · cases h1
  · exact readAll_none hl h1
end
theorem may_head {k : UInt8} {a b : Int} (h : k.toNat < 1 ∨ 6 < k.toNat) : ¬ mayFM (headM k a b) := fun q => by
  have q2 : (k = 1 ∧ _) ∨ (k = 2 ∧ _) ∨ (k = 3 ∧ _) ∨ (k = 4 ∧ _) ∨ (k = 5 ∧ _) ∨ (k = 6 ∧ _) := q.2.2.2.2
  have e1 : (1 : UInt8).toNat = 1 := rfl
  have e2 : (2 : UInt8).toNat = 2 := rfl
  have e3 : (3 : UInt8).toNat = 3 := rfl
  have e4 : (4 : UInt8).toNat = 4 := rfl
  have e5 : (5 : UInt8).toNat = 5 := rfl
  have e6 : (6 : UInt8).toNat = 6 := rfl
  rcases q2 with ⟨e, _⟩ | ⟨e, _⟩ | ⟨e, _⟩ | ⟨e, _⟩ | ⟨e, _⟩ | ⟨e, _⟩ <;> (rw [e] at h; omega)
theorem byt_lt {w : World} {A : Option Addr} {n : Nat} {l : List UInt8} (h : Byt w A n l) {a : Addr} (e : A = some a) (hn : 0 < n) : a.block < w.heap.size := by
  obtain ⟨g, off, e2, hc⟩ := h.2 hn
  rw [e] at e2
  cases e2
  have := hc 0 hn
  unfold World.cell? at this
  cases hh : w.heap[g]? with
  | none => rw [hh] at this; cases this
  | some o => exact (Array.getElem?_eq_some_iff.1 hh).1
theorem cutA_nil {A : Option Addr} {c d : Nat} (h : A = none → c = 0) (e : cutA A c d = none) : c - d = 0 := by
  unfold cutA at e
  split at e
  · omega
  · have := h (Option.map_eq_none_iff.1 e)
    omega
theorem tag_flat {A B : Option Addr} {n c m k : Nat} {b : List UInt8} : flat [⟨A, n, c, [18]⟩, ⟨B, m, k, b⟩] = 18 :: b := by simp [flat]
end Mur
namespace Go.Proofs.YtgbadghjnpbiaaaDoor
open Go.RowKit Wk
theorem results_frm {fn : Func} {p u : Tmp} (h : fn.results = #[.cell p 39, .tmp u]) (tmps : Array Value) (w : World) (g : Nat) (cs : Array Value) (fr : Nat × Nat) (v : Value) (hp : tmps.getD p undef = .pointer (some ⟨g, 0, none⟩)) (hg : w.heap[g]? = some (.cells cs 39 fr)) (hs : cs.size = 213) (hv : tmps.getD u undef = v) :
    (results fn tmps).run Tryd.prog w = .ok (.tuple #[.agg cs, v]) w := by
  rw [results_cell_tmp h, hp, hv]
  have := run_loadVar_row (P := Tryd.prog) w g 39 39 cs fr _ hg Tryd.underlying39 rfl (by rw [hs]; kernel_rfl)
  simp [asAddr, this]
end Go.Proofs.YtgbadghjnpbiaaaDoor
namespace Go.Proofs.YtgbadghjnpbiaaaDoor
open Go.RowKit Wk
open Mur (b8s Byt Own8 Seg Segs flat cutA)
open Mur (St)
set_option maxRecDepth 100000
set_option maxHeartbeats 4000000
end Go.Proofs.YtgbadghjnpbiaaaDoor
namespace Mur
open Go Go.RowKit Wk
section
variable {P : Program}
end
theorem ok_nil {w : World} : ∀ s ∈ ([] : List Seg), SegOk w s := fun s hs => by cases hs
theorem ok_cons {w : World} {s : Seg} {L : List Seg} (h : SegOk w s) (k : ∀ s ∈ L, SegOk w s) : ∀ x ∈ s :: L, SegOk w x := fun x hx => by
  rcases List.mem_cons.1 hx with rfl | hx
  · exact h
  · exact k x hx
theorem segs_lit {w : World} {g : Nat} {t : TypeId} {fr : Nat × Nat} (L : List Seg) (n : Nat) (h : w.heap[g]? = some (.cells (L.map Seg.v).toArray t fr)) (hok : ∀ s ∈ L, SegOk w s) (hn : L.length = n) : Segs w (some ⟨g, 0, none⟩) n L :=
  ⟨hn, hok, fun _ => ⟨g, 0, rfl, fun i s hi => by
    rw [cell_of_row _ _ _ _ _ _ h, Nat.zero_add]
    simp [hi]⟩⟩
theorem hmacN (s b : List UInt8) : shaN (ns (xorl 92 (hkey s)) ++ shaN (ns (xorl 54 (hkey s) ++ b))) = ns (hmac s b) := by
  have e : ∀ x y : List UInt8, ns x ++ ns y = ns (x ++ y) := fun x y => by simp [ns]
  rw [shaN_eq, e, shaN_eq]
  rfl
end Mur
namespace Mur
open Go Go.RowKit Wk
def wantM (b : Int) : Frm := { headM 5 1 b with chunk := 3 }
def clmM : Frm := { headM 3 1 2 with cNode := 1 }
theorem formN_small {n : Nat} (h : 0 < n) (h2 : n < 256) : formN n = [1, UInt8.ofNat n] := by
  have h3 : n / 256 = 0 := by omega
  unfold formN
  rw [digs_pos (by omega), h3, digs_zero]
  rw [Nat.mod_eq_of_lt h2]
  rfl
theorem formN_zero : formN 0 = [0] := by
  unfold formN
  rw [digs_zero]
  rfl
theorem want_bare (b : Int) : bareM (wantM b) = wantM b := (bareM_5 rfl).trans rfl
theorem clm_bare : bareM clmM = clmM := (bareM_3 rfl).trans rfl
theorem want_may : mayFM (wantM 2) := ⟨⟨by decide, by decide⟩, ⟨by decide, by decide⟩, by decide, (want_bare 2).symm, .inr (.inr (.inr (.inr (.inl ⟨rfl, by decide, by decide⟩))))⟩
theorem want_no : ¬ mayFM (wantM 1) := fun h => h.2.2.1 rfl
theorem clm_may : mayFM clmM := ⟨⟨by decide, by decide⟩, ⟨by decide, by decide⟩, by decide, clm_bare.symm, .inr (.inr (.inl ⟨rfl, rfl, by decide, by decide⟩))⟩
theorem i1 : -9223372036854775808 ≤ (1 : Int) ∧ (1 : Int) ≤ 9223372036854775807 := by decide
theorem i2 : -9223372036854775808 ≤ (2 : Int) ∧ (2 : Int) ≤ 9223372036854775807 := by decide
theorem i3 : -9223372036854775808 ≤ (3 : Int) ∧ (3 : Int) ≤ 9223372036854775807 := by decide
theorem want_in (b : Int) (h : -9223372036854775808 ≤ b ∧ b ≤ 9223372036854775807) : FrmIn (wantM b) := ⟨⟨zN, zN, zN, fun _ q => (by cases q), rfl, rfl, rfl, fun _ q => (by cases q)⟩, i1, h, zI, zI, fun _ q => (by cases q), zI, zI, i3⟩
theorem clm_in : FrmIn clmM := ⟨⟨zN, zN, zN, fun _ q => (by cases q), rfl, rfl, rfl, fun _ q => (by cases q)⟩, i1, i2, zI, zI, fun _ q => (by cases q), zI, i1, zI⟩
theorem want_body : bodyFM (wantM 2) = [1, 5, 1, 1, 1, 2] ++ List.replicate 32 0 ++ [1, 3] := by
  show formN 5 ++ (formN 1 ++ (formN 2 ++ (z32 ++ formN 3))) = _
  rw [formN_small (n := 5) (by decide) (by decide), formN_small (n := 1) (by decide) (by decide), formN_small (n := 2) (by decide) (by decide), formN_small (n := 3) (by decide) (by decide)]
  rfl
def clmB : List UInt8 := [1, 3, 1, 1, 1, 2, 0, 0, 0, 0, 0, 0, 0, 0, 0, 0, 0, 0, 0, 0, 0, 0, 0, 0, 0, 0, 0, 0, 0, 0, 0, 0, 0, 0, 0, 0, 0, 0, 0, 0, 0]
theorem clm_body : bodyFM clmM = clmB := by
  show formN 3 ++ (formN 1 ++ (formN 2 ++ (z32 ++ (formN 0 ++ (formN 0 ++ formN 0))))) = _
  rw [formN_small (n := 3) (by decide) (by decide), formN_small (n := 1) (by decide) (by decide), formN_small (n := 2) (by decide) (by decide), formN_zero]
  rfl
def tagS : List UInt8 := [189, 52, 53, 90, 137, 218, 225, 70, 9, 239, 187, 126, 171, 246, 169, 89, 76, 177, 84, 209, 155, 142, 163, 26, 200, 226, 103, 51, 232, 43, 34, 51]
def tagT : List UInt8 := [8, 252, 65, 131, 248, 241, 12, 201, 111, 180, 246, 176, 194, 138, 129, 98, 61, 6, 118, 154, 67, 162, 59, 165, 69, 241, 225, 192, 162, 127, 157, 97]
theorem hkey_1 (x : UInt8) : hkey [x] = [x] ++ List.replicate 63 0 := by
  have h1 : hkey0 [x] = [x] := if_neg (show ¬ 64 < 1 by decide)
  unfold hkey
  rw [h1]
  rfl
theorem hmac_S : hmac [115] (18 :: clmB) = tagS := by
  apply ns_inj
  rw [← hmacN, hkey_1]
  decide +kernel
theorem hmac_T : hmac [116] (18 :: clmB) = tagT := by
  apply ns_inj
  rw [← hmacN, hkey_1]
  decide +kernel
theorem want_bytes (T : List UInt8 → List UInt8) : bytesFM T (wantM 2) = [1, 5, 1, 1, 1, 2] ++ List.replicate 32 0 ++ [1, 3] := by
  unfold bytesFM
  rw [want_body, if_neg (show ¬ (wantM 2).kind.toNat ≤ 4 by decide), List.append_nil]
theorem want_read (T T' : List UInt8 → List UInt8) (hT : ∀ x, (T x).length = 32) : readAll T' (bytesFM T (wantM 2)) = .ok (wantM 2) := by
  rw [read_bytes T' want_may (want_in 2 (by decide)).ok hT (by rw [want_bytes]; decide), if_neg]
  rintro ⟨h, _⟩
  exact absurd h (show ¬ (wantM 2).kind.toNat ≤ 4 by decide)
theorem clm_len (T : List UInt8 → List UInt8) (hT : ∀ x, (T x).length = 32) : (bytesFM T clmM).length = 73 := by
  unfold bytesFM
  rw [clm_body, if_pos (show clmM.kind.toNat ≤ 4 by decide), List.length_append, hT]
  rfl
theorem clm_read (T T' : List UInt8 → List UInt8) (hT : ∀ x, T x = hmac [115] (18 :: x)) (hT' : ∀ x, T' x = hmac [116] (18 :: x)) (hTl : ∀ x, (T x).length = 32) : readAll T' (bytesFM T clmM) = .tag := by
  rw [read_bytes T' clm_may clm_in.ok hTl (by rw [clm_len T hTl]; decide), if_pos]
  refine ⟨show clmM.kind.toNat ≤ 4 by decide, ?_⟩
  rw [clm_body, hT, hT', hmac_S, hmac_T]
  decide
theorem stradd {P : Program} {w : World} {a : Act} {o : Oper} (t ty : TypeId) (x y : Operand) (ho : o.op = .binOp .add t x y ty) (l r : List UInt8) (hx : a.eval x = .string (str l)) (hy : a.eval y = .string (str r)) (h1 : l.length ≤ 8388608) (h2 : r.length ≤ 8388608) : (execOp a.eval o).run P w = .ok (.value (.string (str (l ++ r)))) w := by
  have e : str l ++ str r = str (l ++ r) := by
    apply ByteArray.ext
    simp [str]
  have h := run_string_add (P := P) (w := w) (str l) (str r) (by show ((l.toArray.size : Nat) : Int) ≤ _; rw [List.size_toArray]; omega) (by show ((r.toArray.size : Nat) : Int) ≤ _; rw [List.size_toArray]; omega)
  rw [e] at h
  unfold execOp
  simp only [ho, hx, hy]
  simp [eqGuard, binOp_string_add, h]
end Mur
namespace Go.Proofs.YtgbadghjnpbiaaaDoor
open Go.RowKit Wk
open Mur (b8s z32 sl0 frmL claimC)
theorem built_want (b : Int) : Program.built Tryd.prog 39 [(0, .int .u8 5), (1, .int .i64 1), (2, .int .i64 b), (8, .int .i64 3)] = some (frmL 5 1 b 0 0 0 0 sl0 0 sl0 z32 0 sl0 false z32 0 0 0 false z32 z32 0 z32 z32 3 sl0 sl0).flatten.toArray := by kernel_rfl
theorem built_claim1 : Program.built Tryd.prog 34 [(1, .int .i64 1)] = some (claimC z32 1 0 0 false).toArray := by kernel_rfl
theorem built_frmc : Program.built Tryd.prog 39 [(0, .int .u8 3), (1, .int .i64 1), (2, .int .i64 2), (5, .agg (claimC z32 1 0 0 false).toArray)] = some (frmL 3 1 2 0 0 0 0 sl0 0 sl0 z32 0 sl0 false z32 1 0 0 false z32 z32 0 z32 z32 0 sl0 sl0).flatten.toArray := by kernel_rfl
end Go.Proofs.YtgbadghjnpbiaaaDoor
namespace Go.Proofs.YtgbadghjnpbiaaaDoor
open Go.RowKit Wk
open Mur (b8s Byt Own8 Seg Segs flat cutA attC Att SlA OwnA rowA msgC conv_u8o flat_all)
set_option maxRecDepth 100000
set_option maxHeartbeats 4000000
def Form_F1 (b : Array Value) (u0 : Value) (u3 : Value) (u4 : Value) : Act := ⟨#[u0, gd b 1, gd b 2, u3, u4, gd b 5, gd b 6, gd b 7, gd b 8, gd b 9, gd b 10, gd b 11, gd b 12, gd b 13, gd b 14, gd b 15, gd b 16, gd b 17, gd b 18, gd b 19, gd b 20, gd b 21, gd b 22, gd b 23], []⟩
def Behind_F1 (b : Array Value) (u0 : Value) (u3 : Value) (u9 : Value) (u10 : Value) (u11 : Value) : Act := ⟨#[u0, gd b 1, gd b 2, u3, gd b 4, gd b 5, gd b 6, gd b 7, gd b 8, u9, u10, u11, gd b 12, gd b 13, gd b 14, gd b 15, gd b 16, gd b 17, gd b 18, gd b 19, gd b 20, gd b 21, gd b 22, gd b 23, gd b 24, gd b 25, gd b 26, gd b 27, gd b 28, gd b 29, gd b 30, gd b 31, gd b 32], []⟩
def Behind_F2 (b : Array Value) (u6 : Value) (u22 : Value) (u23 : Value) (u24 : Value) : Act := ⟨#[gd b 0, gd b 1, gd b 2, gd b 3, gd b 4, gd b 5, u6, gd b 7, gd b 8, gd b 9, gd b 10, gd b 11, gd b 12, gd b 13, gd b 14, gd b 15, gd b 16, gd b 17, gd b 18, gd b 19, gd b 20, gd b 21, u22, u23, u24, gd b 25, gd b 26, gd b 27, gd b 28, gd b 29, gd b 30, gd b 31, gd b 32], []⟩
theorem form_any (N : Nat) (hN : N < 18446744073709551616) (w : World) : Calls Tryd.prog 94 #[.int .u64 ((N : Nat) : Int)] w fun e w' => ∃ q o n, e = .returned (.slice (some ⟨q, o, none⟩) n n) ∧ Byt w' (some ⟨q, o, none⟩) n (Mur.formN N) ∧ (w.heap.size ≤ q ∧ q < w'.heap.size) ∧ n ≤ 9 ∧ Chg [] w w' := by
 refine calls_of_wp Tryd.func94 rfl ?_
 refine wp_seq (reg ?_)
 refine rP 0 2 (.slice none 0 0) rfl rfl ?_
 refine rEnd 1 rfl (nxt ?_)
 refine wp_scope_straight ?_
 refine wp_seq (reg ?_)
 refine rX 0 3 rfl rfl (new_ex (pt w.heap.size 0) #[.int .u8 0, .int .u8 0, .int .u8 0, .int .u8 0, .int .u8 0, .int .u8 0, .int .u8 0, .int .u8 0, .int .u8 0] 150 (by kernel_rfl)) ?_
 rintro _ W1 ⟨rfl, hb1, ch1, sz1⟩
 have zz1 := ch1.size
 refine rEnd 1 rfl (nxt (wp_seq (reg ?_)))
 refine rP 0 4 (.int .i64 9) rfl rfl ?_
 refine rEnd 1 rfl (nxt (wp_seq (wp_label (nxt (wp_seq (wp_block ?_))))))
 refine Wk.loop (fun m_ a wr => ∃ (m : Nat) (j : Nat) (tl : List UInt8), m_ = j ∧ a = Form_F1 a.tmps (.int .u64 ((m : Nat) : Int)) (pt w.heap.size 0) (.int .i64 ((j : Nat) : Int)) ∧ j ≤ 9 ∧ Mur.FormAt N m (9 - j) tl ∧ wr.heap[w.heap.size]? = some (.cells (b8s (Mur.nineF (9 - j) tl)).toArray 150 (0, 0)) ∧ Chg [] w wr) (9) ?_ ?_
 ·have kk1 : Chg [] w W1 := Chg.step ((Chg.refl _).more (by simp)) ch1 trivial
  refine ⟨N, 9, [], rfl, by kernel_rfl, (by omega), Mur.formAt_zero N, hb1, kk1⟩
 rintro mm1 aa1 W2 ⟨m, j, tl, hmm1, hF1, hj, hF, hX, HB⟩
 generalize aa1.tmps = bb1 at hF1
 subst hF1
 have hzB := HB.size
 have hxl_ := (Array.getElem?_eq_some_iff.1 hX).1
 have hnl : (Mur.nineF (9 - j) tl).length = 9 := Mur.nineF_len hF.2 (by omega)
 have hle := Mur.formAt_le hF hN
 have hj1 : 1 ≤ j := by have := hle.1; omega
 by_cases hm0 : m = 0
 ·subst hm0
  refine wp_block (wp_seq (wp_seq (reg ?_)))
  refine rP 0 5 (.int .u64 ((0 : Nat) : Int)) rfl rfl ?_
  refine rQ 1 6 _ rfl rfl (qboolT (b := (((0 : Nat) : Int) == (0 : Int))) (beq_iff_eq.2 (rfl))) ?_
  refine rEnd 2 rfl (nxt (wp_cond_true (by kernel_rfl) (wp_exit (thX (inY (by decide) (thX (inX (nxt (wp_seq (reg ?_))))))))))
  refine rP 0 15 (.int .i64 ((j : Nat) : Int)) rfl rfl ?_
  refine rQ 1 16 _ rfl rfl (qint64 (n := ((j : Nat) : Int) - 1) (z := ((j - 1 : Nat) : Int)) (by omega) (by omega) (by omega)) ?_
  refine rP 2 4 (.int .i64 ((j - 1 : Nat) : Int)) rfl rfl ?_
  refine rEnd 3 rfl (nxt (wp_seq (reg ?_)))
  refine rP 0 17 (.int .i64 ((j - 1 : Nat) : Int)) rfl rfl ?_
  refine rP 1 18 (.int .i64 ((j - 1 : Nat) : Int)) rfl rfl ?_
  refine rQ 2 19 _ rfl rfl (qint64 (n := 8 - ((j - 1 : Nat) : Int)) (z := ((9 - j : Nat) : Int)) (by omega) (by omega) (by omega)) ?_
  refine rQ 3 20 (.int .u8 (((UInt8.ofNat (9 - j)).toNat : Nat) : Int)) rfl rfl (conv_u8o 3 5 (.tmp 19) rfl (by kernel_rfl) Tryd.underlying5 .i64 (9 - j) (by kernel_rfl)) ?_
  refine rQ 4 21 (.pointer (some ⟨w.heap.size, 0 + (j - 1) * 1, none⟩)) rfl rfl (Wk.index_arr 150 5 (.tmp 3) (.tmp 17) rfl 9 Tryd.underlying150 1 (by kernel_rfl) w.heap.size 0 (j - 1) .i64 (by kernel_rfl) (by kernel_rfl) (by omega)) ?_
  refine rY 5 rfl rfl (Mur.store8 5 (.tmp 21) (.tmp 20) rfl (by kernel_rfl) w.heap.size (j - 1) (by kernel_rfl) (UInt8.ofNat (9 - j)) (by kernel_rfl) 150 (Mur.nineF (9 - j) tl) hX (by rw [hnl]; omega)) ?_
  rintro W3 ⟨hb2, ch2⟩
  have zz2 := ch2.size
  refine rEnd 6 rfl (nxt (wp_seq (reg ?_)))
  refine rP 0 22 (.int .i64 ((j - 1 : Nat) : Int)) rfl rfl ?_
  refine rQ 1 23 (.slice (some ⟨w.heap.size, j - 1, none⟩) (9 - (j - 1)) (9 - (j - 1))) rfl rfl (Mur.arr_slice_from 150 5 (.tmp 3) (.tmp 22) 9 (j - 1) rfl Tryd.underlying150 (by kernel_rfl) w.heap.size (by kernel_rfl) (by kernel_rfl) (by omega)) ?_
  refine rP 2 2 (.slice (some ⟨w.heap.size, j - 1, none⟩) (9 - (j - 1)) (9 - (j - 1))) rfl rfl ?_
  refine rEnd 3 rfl (nxt (wp_ret ?_))
  refine Wk.ngR ?_
  have kk2 := Chg.step HB ch2 ⟨.inr (by omega), trivial⟩
  refine Wk.ret (.slice (some ⟨w.heap.size, j - 1, none⟩) (9 - (j - 1)) (9 - (j - 1))) rfl (by kernel_rfl) ?_
  exact ⟨_, _, _, rfl, Mur.form_byt hF ⟨hj1, hj⟩ hb2, ⟨by omega, by omega⟩, by omega, kk2⟩
 have hj2 := hle.2 hm0
 refine wp_block (wp_seq (wp_seq (reg ?_)))
 refine rP 0 5 (.int .u64 ((m : Nat) : Int)) rfl rfl ?_
 refine rQ 1 6 _ rfl rfl (qboolF (b := (((m : Nat) : Int) == (0 : Int))) (beq_eq_false_iff_ne.2 (by omega))) ?_
 refine rEnd 2 rfl (nxt (wp_cond_false (by kernel_rfl) (wp_skip (nxt (wp_seq (reg ?_))))))
 refine rP 0 7 (.int .i64 ((j : Nat) : Int)) rfl rfl ?_
 refine rQ 1 8 _ rfl rfl (qint64 (n := ((j : Nat) : Int) - 1) (z := ((j - 1 : Nat) : Int)) (by omega) (by omega) (by omega)) ?_
 refine rP 2 4 (.int .i64 ((j - 1 : Nat) : Int)) rfl rfl ?_
 refine rEnd 3 rfl (nxt (reg ?_))
 refine rP 0 9 (.int .i64 ((j - 1 : Nat) : Int)) rfl rfl ?_
 refine rP 1 10 (.int .u64 ((m : Nat) : Int)) rfl rfl ?_
 refine rQ 2 11 (.int .u8 (((UInt8.ofNat (m % 256)).toNat : Nat) : Int)) rfl rfl (by rw [Mur.ofNat_mod2]; exact conv_u8o 24 5 (.tmp 10) rfl (by kernel_rfl) Tryd.underlying5 .u64 m (by kernel_rfl)) ?_
 refine rP 3 12 (.int .u64 ((m : Nat) : Int)) rfl rfl ?_
 refine rQ 4 13 (.int .u64 ((m / 256 : Nat) : Int)) rfl rfl (Mur.shr64 24 139 (.tmp 12) (.const (.int .u64 8)) rfl m 8 .u64 (by kernel_rfl) (by kernel_rfl) (by omega) 256 rfl) ?_
 refine rQ 5 14 (.pointer (some ⟨w.heap.size, 0 + (j - 1) * 1, none⟩)) rfl rfl (Wk.index_arr 150 5 (.tmp 3) (.tmp 9) rfl 9 Tryd.underlying150 1 (by kernel_rfl) w.heap.size 0 (j - 1) .i64 (by kernel_rfl) (by kernel_rfl) (by omega)) ?_
 refine rY 6 rfl rfl (Mur.store8 5 (.tmp 14) (.tmp 11) rfl (by kernel_rfl) w.heap.size (j - 1) (by kernel_rfl) (UInt8.ofNat (m % 256)) (by kernel_rfl) 150 (Mur.nineF (9 - j) tl) hX (by rw [hnl]; omega)) ?_
 rintro W4 ⟨hb3, ch3⟩
 have zz3 := ch3.size
 refine rP 7 0 (.int .u64 ((m / 256 : Nat) : Int)) rfl rfl ?_
 refine rEnd 8 rfl (inN (nxt ?_))
 have kk3 := Chg.step HB ch3 ⟨.inr (by omega), trivial⟩
 refine ⟨_, ?_, m / 256, j - 1, UInt8.ofNat (m % 256) :: tl, rfl, by kernel_rfl, (by omega), (by have h_ := Mur.formAt_step hF hm0; rw [show 9 - (j - 1) = 9 - j + 1 by omega]; exact h_), (by have h_ := hb3; rw [show (9 : Nat) - (j - 1) = 9 - j + 1 by omega, ← Mur.nineF_set _ (show 9 - j < 9 by omega), show 9 - (9 - j + 1) = j - 1 by omega]; exact h_), kk3⟩
 omega
theorem behind_any (L : List Seg) (PA : Option Addr) (pn pc : Nat) (w : World) (hl : Segs w PA pn L) (hpn : pn ≤ 9223372036854775807) (hf : (flat L).length ≤ 140737488351000) : Calls Tryd.prog 86 #[.slice PA pn pc] w fun e w' => ∃ A1 n1 c1, e = .returned (.slice A1 n1 c1) ∧ Own8 w' w.heap.size 5 A1 n1 c1 (flat L) ∧ Chg [] w w' := by
 have HL := Go.Lib.hid hl
 clear hl
 refine calls_of_wp Tryd.func86 rfl ?_
 refine wp_seq (reg ?_)
 refine rP 0 2 (.slice none 0 0) rfl rfl ?_
 refine rEnd 1 rfl (nxt (wp_seq (reg ?_)))
 refine rP 0 3 (.int .i64 0) rfl rfl ?_
 refine rEnd 1 rfl (nxt (wp_seq (wp_seq (reg ?_))))
 refine rP 0 9 (.slice PA pn pc) rfl rfl ?_
 refine rP 1 10 (.int .i64 ((pn : Nat) : Int)) rfl rfl ?_
 refine rP 2 11 (.int .i64 0) rfl rfl ?_
 refine rEnd 3 rfl (nxt (wp_block ?_))
 refine Wk.loop (fun m_ a wr => ∃ (k : Nat) (N : Nat), m_ = pn - k ∧ a = Behind_F1 a.tmps (.slice PA pn pc) (.int .i64 ((N : Nat) : Int)) (.slice PA pn pc) (.int .i64 ((pn : Nat) : Int)) (.int .i64 ((k : Nat) : Int)) ∧ k ≤ pn ∧ N = (flat (L.take k)).length ∧ Chg [] w wr) (pn - 0) ?_ ?_
 ·refine ⟨0, 0, rfl, by kernel_rfl, by omega, by rw [List.take_zero]; rfl, (Chg.refl _)⟩
 rintro mm1 aa1 W1 ⟨k, N, hmm1, hF1, hi, hN, HB⟩
 generalize aa1.tmps = bb1 at hF1
 subst hF1
 have hzB := HB.size
 by_cases hlt : k < pn
 ·obtain ⟨g, off, As, ns, cs, ls, rfl, hg, hcell, hby, hsn, hsc, hsnil, hfl, hfle⟩ := HL.out.at hlt
  have hsl_ := hby.1
  have hfl_ := congrArg List.length hfl
  rw [List.length_append] at hfl_
  refine wp_seq (reg ?_)
  refine rQ 0 12 _ rfl rfl (qboolT (b := decide (((k : Nat) : Int) < ((pn : Nat) : Int))) (decide_eq_true (by omega))) ?_
  refine rEnd 1 rfl (nxt (wp_seq (wp_cond_true (by kernel_rfl) (wp_skip (nxt (wp_seq (wp_block (wp_seq (reg ?_)))))))))
  refine rQ 0 13 (pt g (off + k * 1)) rfl rfl (index_sl 127 22 (.tmp 9) (.tmp 11) rfl Tryd.underlying127 1 (by kernel_rfl) g off pn pc k .i64 (by kernel_rfl) (by kernel_rfl) (by omega)) ?_
  refine rQ 1 14 _ rfl rfl (ld 22 13 g (off + k * 1) (.slice As ns cs) (Chg.cell HB hcell trivial)) ?_
  refine rP 2 5 (.slice As ns cs) rfl rfl ?_
  refine rEnd 3 rfl (nxt (reg ?_))
  refine rP 0 15 (.int .i64 ((N : Nat) : Int)) rfl rfl ?_
  refine rP 1 16 (.slice As ns cs) rfl rfl ?_
  refine rP 2 17 (.int .i64 ((ns : Nat) : Int)) rfl rfl ?_
  refine rQ 3 18 _ rfl rfl (qint64 (n := ((N : Nat) : Int) + ((ns : Nat) : Int)) (z := ((N + ns : Nat) : Int)) (by omega) (by omega) (by omega)) ?_
  refine rP 4 3 (.int .i64 ((N + ns : Nat) : Int)) rfl rfl ?_
  refine rEnd 5 rfl (inN (nxt (reg ?_)))
  refine rQ 0 19 _ rfl rfl (qint64 (n := ((k : Nat) : Int) + 1) (z := ((k + 1 : Nat) : Int)) (by omega) (by omega) (by omega)) ?_
  refine rP 1 11 (.int .i64 ((k + 1 : Nat) : Int)) rfl rfl ?_
  refine rEnd 2 rfl (nxt ?_)
  refine ⟨_, ?_, k + 1, N + ns, rfl, by kernel_rfl, (by omega), (by omega), HB⟩
  omega
 have hfa : flat (L.take k) = flat L := by rw [show k = pn by omega]; exact flat_all HL.out.len
 rw [hfa] at hN
 refine wp_seq (reg ?_)
 refine rQ 0 12 _ rfl rfl (qboolF (b := decide (((k : Nat) : Int) < ((pn : Nat) : Int))) (decide_eq_false (by omega))) ?_
 refine rEnd 1 rfl (nxt (wp_seq (wp_cond_false (by kernel_rfl) (wp_exit (thX (thX (inX (nxt (wp_seq (reg ?_))))))))))
 refine rP 0 20 (.int .i64 ((N : Nat) : Int)) rfl rfl ?_
 refine rX 1 21 rfl rfl (Mur.make0 22 5 (.const (.int .i64 0)) (.tmp 20) rfl Tryd.underlying22 (by kernel_rfl) N (by omega) (by kernel_rfl) (by kernel_rfl)) ?_
 rintro _ W2 ⟨rfl, ow1, ch1, sz1⟩
 have zz1 := ch1.size
 refine rP 2 6 (.slice (some ⟨W1.heap.size, 0, none⟩) 0 N) rfl rfl ?_
 refine rEnd 3 rfl (nxt (wp_seq (wp_seq (reg ?_))))
 refine rP 0 22 (.slice PA pn pc) rfl rfl ?_
 refine rP 1 23 (.int .i64 ((pn : Nat) : Int)) rfl rfl ?_
 refine rP 2 24 (.int .i64 0) rfl rfl ?_
 refine rEnd 3 rfl (nxt (wp_block ?_))
 refine Wk.loop (fun m_ a wr => ∃ (k2 : Nat) (A1 : Option Addr) (N2 : Nat) (c1 : Nat), m_ = pn - k2 ∧ a = Behind_F2 a.tmps (.slice A1 N2 c1) (.slice PA pn pc) (.int .i64 ((pn : Nat) : Int)) (.int .i64 ((k2 : Nat) : Int)) ∧ k2 ≤ pn ∧ Own8 wr w.heap.size 5 A1 N2 c1 (flat (L.take k2)) ∧ Chg [] w wr) (pn - 0) ?_ ?_
 ·have kk1 := Chg.step HB ch1 trivial
  refine ⟨0, some ⟨W1.heap.size, 0, none⟩, 0, N, rfl, by kernel_rfl, by omega, (by rw [List.take_zero]; exact Mur.own8_low ow1 (by omega)), kk1⟩
 rintro mm2 aa2 W3 ⟨k2, A1, N2, c1, hmm2, hF2, hi, hO, HB⟩
 generalize aa2.tmps = bb2 at hF2
 subst hF2
 have hzB := HB.size
 have hqn := hO.nc
 have hqm := hO.cm
 have hol := hO.byt.1
 by_cases hlt : k2 < pn
 ·obtain ⟨g, off, As, ns, cs, ls, rfl, hg, hcell, hby, hsn, hsc, hsnil, hfl, hfle⟩ := HL.out.at hlt
  have hsl_ := hby.1
  have hfl_ := congrArg List.length hfl
  rw [List.length_append] at hfl_
  refine wp_seq (reg ?_)
  refine rQ 0 25 _ rfl rfl (qboolT (b := decide (((k2 : Nat) : Int) < ((pn : Nat) : Int))) (decide_eq_true (by omega))) ?_
  refine rEnd 1 rfl (nxt (wp_seq (wp_cond_true (by kernel_rfl) (wp_skip (nxt (wp_seq (wp_block (wp_seq (reg ?_)))))))))
  refine rQ 0 26 (pt g (off + k2 * 1)) rfl rfl (index_sl 127 22 (.tmp 22) (.tmp 24) rfl Tryd.underlying127 1 (by kernel_rfl) g off pn pc k2 .i64 (by kernel_rfl) (by kernel_rfl) (by omega)) ?_
  refine rQ 1 27 _ rfl rfl (ld 22 26 g (off + k2 * 1) (.slice As ns cs) (Chg.cell HB hcell trivial)) ?_
  refine rP 2 8 (.slice As ns cs) rfl rfl ?_
  refine rEnd 3 rfl (nxt (reg ?_))
  refine rP 0 28 (.slice A1 N2 c1) rfl rfl ?_
  refine rP 1 29 (.slice As ns cs) rfl rfl ?_
  refine rX 2 30 rfl rfl (Mur.append8 (.tmp 28) (.tmp 29) 22 5 rfl Tryd.underlying22 (by kernel_rfl) w.heap.size A1 N2 c1 (flat (L.take k2)) As ns cs ls (by kernel_rfl) (by kernel_rfl) hO.own (Mur.byt_chg hby HB (fun g off e hl => trivial)) hsnil (by omega) (by omega) (N2 + ns) (by omega) ((flat (L.take k2)) ++ ls) rfl) ?_
  rintro _ W4 ⟨AA1, nn1, rfl, ow2, ch2, ha1⟩
  have zz2 := ch2.size
  have hq1 := ow2.nc
  have hq2 := ow2.cm
  refine rP 3 6 (.slice AA1 (N2 + ns) nn1) rfl rfl ?_
  refine rEnd 4 rfl (inN (nxt (reg ?_)))
  refine rQ 0 31 _ rfl rfl (qint64 (n := ((k2 : Nat) : Int) + 1) (z := ((k2 + 1 : Nat) : Int)) (by omega) (by omega) (by omega)) ?_
  refine rP 1 24 (.int .i64 ((k2 + 1 : Nat) : Int)) rfl rfl ?_
  refine rEnd 2 rfl (nxt ?_)
  have kk2 := Chg.step HB ch2 (newOr_blk (fun g hg => by have := hO.lt g hg; omega))
  refine ⟨_, ?_, k2 + 1, AA1, N2 + ns, nn1, rfl, by kernel_rfl, (by omega), (by rw [hfl]; exact ow2), kk2⟩
  omega
 have hfa2 : flat (L.take k2) = flat L := by rw [show k2 = pn by omega]; exact flat_all HL.out.len
 rw [hfa2] at hO
 refine wp_seq (reg ?_)
 refine rQ 0 25 _ rfl rfl (qboolF (b := decide (((k2 : Nat) : Int) < ((pn : Nat) : Int))) (decide_eq_false (by omega))) ?_
 refine rEnd 1 rfl (nxt (wp_seq (wp_cond_false (by kernel_rfl) (wp_exit (thX (thX (inX (nxt (wp_seq (reg ?_))))))))))
 refine rP 0 32 (.slice A1 N2 c1) rfl rfl ?_
 refine rP 1 2 (.slice A1 N2 c1) rfl rfl ?_
 refine rEnd 2 rfl (nxt (wp_ret ?_))
 refine Wk.ret (.slice A1 N2 c1) rfl (by kernel_rfl) ?_
 exact ⟨_, _, _, rfl, hO, HB⟩
end Go.Proofs.YtgbadghjnpbiaaaDoor
namespace Go.Proofs.YtgbadghjnpbiaaaDoor
open Go.RowKit Wk
open Mur (b8s Byt Own8 Seg Segs flat cutA attC Att SlA OwnA rowA msgC formN byt_chg ok_cons byt_from run_op_from readN_nil readN_short byt_cell conv_int readN_big readN_zero byt_to run_op_cut_to beN_lt56 shl8_64 u64_nat add_u64 beN_more beN_lt64 readN_ok)
set_option maxRecDepth 100000
set_option maxHeartbeats 4000000
def UintW_F1 (b : Array Value) (u1 : Value) (u4 : Value) (u8 : Value) (u54 : Value) (u55 : Value) (u56 : Value) : Act := ⟨#[gd b 0, u1, gd b 2, gd b 3, u4, gd b 5, gd b 6, gd b 7, u8, gd b 9, gd b 10, gd b 11, gd b 12, gd b 13, gd b 14, gd b 15, gd b 16, gd b 17, gd b 18, gd b 19, gd b 20, gd b 21, gd b 22, gd b 23, gd b 24, gd b 25, gd b 26, gd b 27, gd b 28, gd b 29, gd b 30, gd b 31, gd b 32, gd b 33, gd b 34, gd b 35, gd b 36, gd b 37, gd b 38, gd b 39, gd b 40, gd b 41, gd b 42, gd b 43, gd b 44, gd b 45, gd b 46, gd b 47, gd b 48, gd b 49, gd b 50, gd b 51, gd b 52, gd b 53, u54, u55, u56, gd b 57, gd b 58, gd b 59, gd b 60, gd b 61, gd b 62, gd b 63, gd b 64, gd b 65, gd b 66, gd b 67, gd b 68, gd b 69, gd b 70], []⟩
def UintW_F2 (b : Array Value) (u1 : Value) (u4 : Value) (u8 : Value) (u54 : Value) (u55 : Value) (u56 : Value) : Act := ⟨#[gd b 0, u1, gd b 2, gd b 3, u4, gd b 5, gd b 6, gd b 7, u8, gd b 9, gd b 10, gd b 11, gd b 12, gd b 13, gd b 14, gd b 15, gd b 16, gd b 17, gd b 18, gd b 19, gd b 20, gd b 21, gd b 22, gd b 23, gd b 24, gd b 25, gd b 26, gd b 27, gd b 28, gd b 29, gd b 30, gd b 31, gd b 32, gd b 33, gd b 34, gd b 35, gd b 36, gd b 37, gd b 38, gd b 39, gd b 40, gd b 41, gd b 42, gd b 43, gd b 44, gd b 45, gd b 46, gd b 47, gd b 48, gd b 49, gd b 50, gd b 51, gd b 52, gd b 53, u54, u55, u56, gd b 57, gd b 58, gd b 59, gd b 60, gd b 61, gd b 62, gd b 63, gd b 64, gd b 65, gd b 66, gd b 67, gd b 68, gd b 69, gd b 70], []⟩
def UintW_F3 (b : Array Value) (u1 : Value) (u4 : Value) (u8 : Value) (u54 : Value) (u55 : Value) (u56 : Value) : Act := ⟨#[gd b 0, u1, gd b 2, gd b 3, u4, gd b 5, gd b 6, gd b 7, u8, gd b 9, gd b 10, gd b 11, gd b 12, gd b 13, gd b 14, gd b 15, gd b 16, gd b 17, gd b 18, gd b 19, gd b 20, gd b 21, gd b 22, gd b 23, gd b 24, gd b 25, gd b 26, gd b 27, gd b 28, gd b 29, gd b 30, gd b 31, gd b 32, gd b 33, gd b 34, gd b 35, gd b 36, gd b 37, gd b 38, gd b 39, gd b 40, gd b 41, gd b 42, gd b 43, gd b 44, gd b 45, gd b 46, gd b 47, gd b 48, gd b 49, gd b 50, gd b 51, gd b 52, gd b 53, u54, u55, u56, gd b 57, gd b 58, gd b 59, gd b 60, gd b 61, gd b 62, gd b 63, gd b 64, gd b 65, gd b 66, gd b 67, gd b 68, gd b 69, gd b 70], []⟩
theorem AppendUint_any (b : List UInt8) (A : Option Addr) (n c : Nat) (N : Nat) (w : World) (hb : Byt w A n b) (hnc : n ≤ c ∧ c ≤ Go.maxLen) (hnil : A = none → c = 0) (hn : n ≤ 140737488350000) (hN : N < 18446744073709551616) : Calls Tryd.prog 79 #[.slice A n c, .int .u64 ((N : Nat) : Int)] w fun e w' => ∃ A1 n1 c1, e = .returned (.slice A1 n1 c1) ∧ Own8 w' w.heap.size 5 A1 n1 c1 (b ++ formN N) ∧ Chg [] w w' := by
 have hbl_ := hb.1
 refine calls_of_wp Tryd.func79 rfl ?_
 refine wp_seq (reg ?_)
 refine rP 0 4 (.slice none 0 0) rfl rfl ?_
 refine rEnd 1 rfl (nxt (wp_seq (reg ?_)))
 refine rP 0 5 (.slice A n c) rfl rfl ?_
 refine rP 1 6 (.int .u64 ((N : Nat) : Int)) rfl rfl ?_
 refine rC 2 7 94 [.tmp 6] #[24] [.int .u64 ((N : Nat) : Int)] rfl rfl rfl ?_
 refine (form_any N (by omega) w).mono ?_
 rintro _ W1 ⟨qf1, of1, nf1, rfl, hbf1, hqf1, hnf1, ch1⟩
 have zz1 := ch1.size
 have hlt1 : ∀ g off, (some ⟨qf1, of1, none⟩ : Option Addr) = some ⟨g, off, none⟩ → w.heap.size ≤ g ∧ g < W1.heap.size := fun g off e => by cases e; exact hqf1
 refine ⟨_, rfl, ?_⟩
 refine rX 3 8 rfl rfl (new_ex (.slice (some ⟨W1.heap.size, 0, none⟩) 2 2) #[.slice A n c, .slice (some ⟨qf1, of1, none⟩) nf1 nf1] 22 (by kernel_rfl)) ?_
 rintro _ W2 ⟨rfl, hb1, ch2, sz1⟩
 have zz2 := ch2.size
 refine rC 4 9 86 [.tmp 8] #[127] [.slice (some ⟨W1.heap.size, 0, none⟩) 2 2] rfl rfl rfl ?_
 have kk1 : Chg [] w W1 := Chg.step ((Chg.refl _).more (by simp)) ch1 trivial
 have kk2 := Chg.step kk1 ch2 trivial
 have hby1 := (byt_chg hb kk2 (fun g off e hl => trivial))
 have hby2 := (byt_chg hbf1 ch2 (fun g off e hl => trivial))
 refine (behind_any ([⟨A, n, c, b⟩, ⟨(some ⟨qf1, of1, none⟩), nf1, nf1, (formN N)⟩]) (some ⟨W1.heap.size, 0, none⟩) 2 2 W2 (Mur.segs_lit [⟨A, n, c, b⟩, ⟨(some ⟨qf1, of1, none⟩), nf1, nf1, (formN N)⟩] 2 hb1 (ok_cons ⟨(show n ≤ c by omega), hnil, hby1, (show c ≤ Go.maxLen by first | omega | (unfold Go.maxLen; omega))⟩ (ok_cons ⟨(show nf1 ≤ nf1 by omega), (fun h => by cases h), hby2, (show nf1 ≤ Go.maxLen by first | omega | (unfold Go.maxLen; omega))⟩ Mur.ok_nil)) rfl) (by omega) (by show (b ++ ((formN N) ++ [])).length ≤ _; simp only [List.length_append, List.length_nil]; have hl0 := hby1.1; have hl1 := hby2.1; omega)).mono ?_
 rintro _ W3 ⟨AA1, nn1, nn2, rfl, ow1, ch3⟩
 have zz3 := ch3.size
 rw [show Mur.flat ([⟨A, n, c, b⟩, ⟨(some ⟨qf1, of1, none⟩), nf1, nf1, (formN N)⟩]) = b ++ formN N from by simp [Mur.flat]] at ow1
 have hq1 := ow1.nc
 have hq2 := ow1.cm
 refine ⟨_, rfl, ?_⟩
 refine rP 5 4 (.slice AA1 nn1 nn2) rfl rfl ?_
 refine rEnd 6 rfl (nxt (wp_ret ?_))
 have kk3 := Chg.step kk2 ch3 trivial
 refine Wk.ret (.slice AA1 nn1 nn2) rfl (by kernel_rfl) ?_
 exact ⟨_, _, _, rfl, Mur.own8_low ow1 (by omega), kk3⟩
theorem Uint_any (b : List UInt8) (A : Option Addr) (n c : Nat) (at_ : Nat) (w : World) (hb : Byt w A n b) (hnc : n ≤ c ∧ c ≤ 9223372036854775807) (hat : at_ ≤ n) : Calls Tryd.prog 66 #[.slice A n c, .int .i64 ((at_ : Nat) : Int)] w fun e w' => ∃ v nx er : Nat, e = .returned (.tuple #[.int .u64 ((v : Nat) : Int), .int .i64 ((nx : Nat) : Int), .int .i64 ((er : Nat) : Int)]) ∧ ((er = 0 ∧ v < 18446744073709551616 ∧ (at_ < nx ∧ nx ≤ n) ∧ Mur.readN (b.drop at_) = some (v, b.drop nx)) ∨ (er ≠ 0 ∧ v = 0 ∧ nx = 0 ∧ Mur.readN (b.drop at_) = none)) ∧ w = w' := by
 have hbl_ := hb.1
 refine calls_of_wp Tryd.func66 rfl ?_
 refine wp_seq (reg ?_)
 refine rP 0 4 (.int .u64 0) rfl rfl ?_
 refine rP 1 5 (.int .i64 0) rfl rfl ?_
 refine rP 2 6 (.int .i64 0) rfl rfl ?_
 refine rEnd 3 rfl (nxt (wp_seq (wp_seq (reg ?_))))
 refine rP 0 11 (.int .i64 ((at_ : Nat) : Int)) rfl rfl ?_
 refine rQ 1 12 _ rfl rfl (qboolF (b := decide (((at_ : Nat) : Int) < (0 : Int))) (decide_eq_false (by omega))) ?_
 refine rP 2 13 (.bool false) rfl rfl ?_
 refine rP 3 14 (.int .i64 ((at_ : Nat) : Int)) rfl rfl ?_
 refine rP 4 15 (.slice A n c) rfl rfl ?_
 refine rP 5 16 (.int .i64 ((n : Nat) : Int)) rfl rfl ?_
 refine rQ 6 17 _ rfl rfl (qboolF (b := decide (((at_ : Nat) : Int) > ((n : Nat) : Int))) (decide_eq_false (by omega))) ?_
 refine rP 7 18 (.bool false) rfl rfl ?_
 refine rEnd 8 rfl (nxt (wp_cond_false (by kernel_rfl) (wp_skip (nxt (wp_seq (reg ?_))))))
 refine rP 0 19 (.slice A n c) rfl rfl ?_
 refine rP 1 20 (.int .i64 ((at_ : Nat) : Int)) rfl rfl ?_
 obtain ⟨Ac1, hAc1⟩ : ∃ x_, x_ = Mur.cutA A c at_ := ⟨_, rfl⟩
 have hbc1 : Byt w Ac1 (n - at_) (b.drop at_) := by rw [hAc1]; exact byt_from hb at_ (by omega) (by omega)
 refine rQ 2 21 (.slice Ac1 (n - at_) (c - at_)) rfl rfl (by rw [hAc1]; exact run_op_from 22 (.tmp 19) (.tmp 20) rfl 5 Tryd.underlying22 (by kernel_rfl) A n c at_ (by kernel_rfl) (by kernel_rfl) (by omega) (by omega)) ?_
 refine rP 3 7 (.slice Ac1 (n - at_) (c - at_)) rfl rfl ?_
 refine rEnd 4 rfl (nxt (wp_seq (wp_seq (reg ?_))))
 refine rP 0 22 (.slice Ac1 (n - at_) (c - at_)) rfl rfl ?_
 refine rP 1 23 (.int .i64 ((n - at_ : Nat) : Int)) rfl rfl ?_
 by_cases hx1 : ((n - at_ : Nat) : Int) = (0 : Int)
 ·refine rQ 2 24 _ rfl rfl (qboolT (b := (((n - at_ : Nat) : Int) == (0 : Int))) (beq_iff_eq.2 (by first | exact hx1 | omega))) ?_
  refine rEnd 3 rfl (nxt (wp_cond_true (by kernel_rfl) (wp_seq (reg ?_))))
  refine rP 0 4 (.int .u64 0) rfl rfl ?_
  refine rP 1 5 (.int .i64 0) rfl rfl ?_
  refine rP 2 6 (.int .i64 4) rfl rfl ?_
  refine rEnd 3 rfl (nxt (wp_ret (thR ?_)))
  refine Wk.ret (.tuple #[.int .u64 0, .int .i64 0, .int .i64 4]) rfl (by kernel_rfl) ?_
  exact ⟨0, 0, _, rfl, .inr ⟨by decide, rfl, rfl, (by first | exact readN_nil (by omega) | exact readN_short hsr (by omega))⟩, rfl⟩
 refine rQ 2 24 _ rfl rfl (qboolF (b := (((n - at_ : Nat) : Int) == (0 : Int))) (beq_eq_false_iff_ne.2 (by first | exact hx1 | omega))) ?_
 refine rEnd 3 rfl (nxt (wp_cond_false (by kernel_rfl) (wp_skip (nxt (wp_seq (reg ?_))))))
 refine rP 0 25 (.slice Ac1 (n - at_) (c - at_)) rfl rfl ?_
 obtain ⟨q1, o1, hq_, _⟩ := hbc1.2 (by omega)
 subst hq_
 obtain ⟨s0, r0, hsr⟩ := Mur.drop_cons (p := at_) (b := b) (by omega)
 rw [hsr] at hbc1
 have hr0 := hbc1.1
 rw [List.length_cons] at hr0
 have hs0 := s0.toNat_lt
 refine rQ 1 26 (pt q1 (o1 + 0 * 1)) rfl rfl (index_sl 22 5 (.tmp 25) (.const (.int .i64 0)) rfl Tryd.underlying22 1 (by kernel_rfl) q1 o1 (n - at_) (c - at_) 0 .i64 (by kernel_rfl) (by kernel_rfl) (by omega)) ?_
 refine rQ 2 27 _ rfl rfl (ld 5 26 q1 (o1 + 0 * 1) (.int .u8 ((s0.toNat : Nat) : Int)) (show _ from byt_cell hbc1 0 (by omega))) ?_
 refine rQ 3 28 (.int .i64 ((s0.toNat : Nat) : Int)) rfl rfl (conv_int 5 3 (.tmp 27) rfl (by kernel_rfl) .i64 Tryd.underlying3 .u8 ((s0.toNat : Nat) : Int) (by kernel_rfl) (Mur.i64_nat (by omega))) ?_
 refine rP 4 8 (.int .i64 ((s0.toNat : Nat) : Int)) rfl rfl ?_
 refine rEnd 5 rfl (nxt (wp_seq (wp_seq (reg ?_))))
 refine rP 0 29 (.slice (some ⟨q1, o1, none⟩) (n - at_) (c - at_)) rfl rfl ?_
 obtain ⟨Ac2, hAc2⟩ : ∃ x_, x_ = Mur.cutA (some ⟨q1, o1, none⟩) (c - at_) 1 := ⟨_, rfl⟩
 have hbc2 : Byt w Ac2 (n - at_ - 1) r0 := by rw [hAc2]; exact byt_from hbc1 1 (by omega) (by omega)
 refine rQ 1 30 (.slice Ac2 (n - at_ - 1) (c - at_ - 1)) rfl rfl (by rw [hAc2]; exact run_op_from 22 (.tmp 29) (.const (.int .i64 1)) rfl 5 Tryd.underlying22 (by kernel_rfl) (some ⟨q1, o1, none⟩) (n - at_) (c - at_) 1 (by kernel_rfl) (by kernel_rfl) (by omega) (by omega)) ?_
 refine rP 2 7 (.slice Ac2 (n - at_ - 1) (c - at_ - 1)) rfl rfl ?_
 refine rEnd 3 rfl (nxt (wp_block (wp_seq (wp_seq (reg ?_)))))
 refine rP 0 32 (.int .i64 ((s0.toNat : Nat) : Int)) rfl rfl ?_
 by_cases hx2 : ((s0.toNat : Nat) : Int) > (8 : Int)
 ·refine rQ 1 33 _ rfl rfl (qboolT (b := decide (((s0.toNat : Nat) : Int) > (8 : Int))) (decide_eq_true (by first | exact hx2 | omega))) ?_
  refine rP 2 31 (.bool true) rfl rfl ?_
  refine rEnd 3 rfl (nxt (wp_cond_true (by kernel_rfl) (wp_skip (nxt (wp_cond_true (by kernel_rfl) (wp_seq (reg ?_)))))))
  refine rP 0 4 (.int .u64 0) rfl rfl ?_
  refine rP 1 5 (.int .i64 0) rfl rfl ?_
  refine rP 2 6 (.int .i64 5) rfl rfl ?_
  refine rEnd 3 rfl (nxt (wp_ret (inR (thR ?_))))
  refine Wk.ret (.tuple #[.int .u64 0, .int .i64 0, .int .i64 5]) rfl (by kernel_rfl) ?_
  exact ⟨0, 0, _, rfl, .inr ⟨by decide, rfl, rfl, (by first | exact readN_big hsr (by omega) | exact readN_zero hsr (by omega) (by omega) (by omega))⟩, rfl⟩
 refine rQ 1 33 _ rfl rfl (qboolF (b := decide (((s0.toNat : Nat) : Int) > (8 : Int))) (decide_eq_false (by first | exact hx2 | omega))) ?_
 refine rP 2 31 (.bool false) rfl rfl ?_
 refine rEnd 3 rfl (nxt (wp_cond_false (by kernel_rfl) (reg ?_)))
 refine rP 0 34 (.int .i64 ((s0.toNat : Nat) : Int)) rfl rfl ?_
 by_cases hx3 : ((s0.toNat : Nat) : Int) > (0 : Int)
 ·refine rQ 1 35 _ rfl rfl (qboolT (b := decide (((s0.toNat : Nat) : Int) > (0 : Int))) (decide_eq_true (by first | exact hx3 | omega))) ?_
  refine rP 2 36 (.bool true) rfl rfl ?_
  refine rP 3 37 (.slice Ac2 (n - at_ - 1) (c - at_ - 1)) rfl rfl ?_
  refine rP 4 38 (.int .i64 ((n - at_ - 1 : Nat) : Int)) rfl rfl ?_
  by_cases hx4 : ((n - at_ - 1 : Nat) : Int) > (0 : Int)
  ·refine rQ 5 39 _ rfl rfl (qboolT (b := decide (((n - at_ - 1 : Nat) : Int) > (0 : Int))) (decide_eq_true (by first | exact hx4 | omega))) ?_
   refine rP 6 40 (.bool true) rfl rfl ?_
   refine rP 7 41 (.bool true) rfl rfl ?_
   refine rP 8 42 (.slice Ac2 (n - at_ - 1) (c - at_ - 1)) rfl rfl ?_
   obtain ⟨q2, o2, hq_, _⟩ := hbc2.2 (by omega)
   subst hq_
   refine rQ 9 43 (pt q2 (o2 + 0 * 1)) rfl rfl (index_sl 22 5 (.tmp 42) (.const (.int .i64 0)) rfl Tryd.underlying22 1 (by kernel_rfl) q2 o2 (n - at_ - 1) (c - at_ - 1) 0 .i64 (by kernel_rfl) (by kernel_rfl) (by omega)) ?_
   refine rQ 10 44 _ rfl rfl (ld 5 43 q2 (o2 + 0 * 1) (.int .u8 (((r0.getD 0 0).toNat : Nat) : Int)) (byt_cell hbc2 0 (by omega))) ?_
   by_cases hx5 : (((r0.getD 0 0).toNat : Nat) : Int) = (0 : Int)
   ·refine rQ 11 45 _ rfl rfl (qboolT (b := ((((r0.getD 0 0).toNat : Nat) : Int) == (0 : Int))) (beq_iff_eq.2 (by first | exact hx5 | omega))) ?_
    refine rP 12 46 (.bool true) rfl rfl ?_
    refine rP 13 31 (.bool true) rfl rfl ?_
    refine rEnd 14 rfl (nxt (wp_cond_true (by kernel_rfl) (wp_seq (reg ?_))))
    refine rP 0 4 (.int .u64 0) rfl rfl ?_
    refine rP 1 5 (.int .i64 0) rfl rfl ?_
    refine rP 2 6 (.int .i64 5) rfl rfl ?_
    refine rEnd 3 rfl (nxt (wp_ret (inR (thR ?_))))
    refine Wk.ret (.tuple #[.int .u64 0, .int .i64 0, .int .i64 5]) rfl (by kernel_rfl) ?_
    exact ⟨0, 0, _, rfl, .inr ⟨by decide, rfl, rfl, (by first | exact readN_big hsr (by omega) | exact readN_zero hsr (by omega) (by omega) (by omega))⟩, rfl⟩
   refine rQ 11 45 _ rfl rfl (qboolF (b := ((((r0.getD 0 0).toNat : Nat) : Int) == (0 : Int))) (beq_eq_false_iff_ne.2 (by first | exact hx5 | omega))) ?_
   refine rP 12 46 (.bool false) rfl rfl ?_
   refine rP 13 31 (.bool false) rfl rfl ?_
   refine rEnd 14 rfl (nxt (wp_cond_false (by kernel_rfl) (wp_seq (reg ?_))))
   refine rP 0 48 (.slice (some ⟨q2, o2, none⟩) (n - at_ - 1) (c - at_ - 1)) rfl rfl ?_
   refine rP 1 49 (.int .i64 ((n - at_ - 1 : Nat) : Int)) rfl rfl ?_
   refine rP 2 50 (.int .i64 ((s0.toNat : Nat) : Int)) rfl rfl ?_
   by_cases hx6 : ((n - at_ - 1 : Nat) : Int) < ((s0.toNat : Nat) : Int)
   ·refine rQ 3 51 _ rfl rfl (qboolT (b := decide (((n - at_ - 1 : Nat) : Int) < ((s0.toNat : Nat) : Int))) (decide_eq_true (by first | exact hx6 | omega))) ?_
    refine rP 4 47 (.bool true) rfl rfl ?_
    refine rEnd 5 rfl (nxt (wp_cond_true (by kernel_rfl) (wp_seq (reg ?_))))
    refine rP 0 4 (.int .u64 0) rfl rfl ?_
    refine rP 1 5 (.int .i64 0) rfl rfl ?_
    refine rP 2 6 (.int .i64 4) rfl rfl ?_
    refine rEnd 3 rfl (nxt (wp_ret (inR (thR ?_))))
    refine Wk.ret (.tuple #[.int .u64 0, .int .i64 0, .int .i64 4]) rfl (by kernel_rfl) ?_
    exact ⟨0, 0, _, rfl, .inr ⟨by decide, rfl, rfl, (by first | exact readN_nil (by omega) | exact readN_short hsr (by omega))⟩, rfl⟩
   refine rQ 3 51 _ rfl rfl (qboolF (b := decide (((n - at_ - 1 : Nat) : Int) < ((s0.toNat : Nat) : Int))) (decide_eq_false (by first | exact hx6 | omega))) ?_
   refine rP 4 47 (.bool false) rfl rfl ?_
   refine rEnd 5 rfl (nxt (wp_cond_false (by kernel_rfl) (wp_skip (inN (nxt (wp_seq (wp_seq (reg ?_))))))))
   refine rP 0 52 (.slice (some ⟨q2, o2, none⟩) (n - at_ - 1) (c - at_ - 1)) rfl rfl ?_
   refine rP 1 53 (.int .i64 ((s0.toNat : Nat) : Int)) rfl rfl ?_
   obtain ⟨Ac3, hAc3⟩ : ∃ x_, x_ = Mur.cutA (some ⟨q2, o2, none⟩) (c - at_ - 1) 0 := ⟨_, rfl⟩
   have hbc3 : Byt w Ac3 s0.toNat (r0.take s0.toNat) := by rw [hAc3]; exact byt_to hbc2 s0.toNat (by omega) (by omega)
   refine rQ 2 54 (.slice Ac3 s0.toNat (c - at_ - 1)) rfl rfl (by rw [hAc3]; exact run_op_cut_to 22 (.tmp 52) (.tmp 53) rfl 5 Tryd.underlying22 (by kernel_rfl) (some ⟨q2, o2, none⟩) (n - at_ - 1) (c - at_ - 1) s0.toNat (by kernel_rfl) (by kernel_rfl) (by omega) (by omega)) ?_
   obtain ⟨L3, hL3⟩ : ∃ x_, x_ = r0.take s0.toNat := ⟨_, rfl⟩
   have hb3 := hbc3
   rw [← hL3] at hb3
   have hl3 := hb3.1
   refine rP 3 55 (.int .i64 ((s0.toNat : Nat) : Int)) rfl rfl ?_
   refine rP 4 56 (.int .i64 0) rfl rfl ?_
   refine rEnd 5 rfl (nxt (wp_block ?_))
   refine Wk.loop (fun m_ a wr => ∃ (i : Nat), m_ = s0.toNat - i ∧ a = UintW_F1 a.tmps (.int .i64 ((at_ : Nat) : Int)) (.int .u64 ((Mur.beN (L3.take i) : Nat) : Int)) (.int .i64 ((s0.toNat : Nat) : Int)) (.slice Ac3 s0.toNat (c - at_ - 1)) (.int .i64 ((s0.toNat : Nat) : Int)) (.int .i64 ((i : Nat) : Int)) ∧ i ≤ s0.toNat ∧ wr = w) (s0.toNat - 0) ?_ ?_
   ·refine ⟨0, rfl, by kernel_rfl, (by omega), rfl⟩
   rintro mm1 aa1 W1 ⟨i, hmm1, hF1, hi, hw⟩
   generalize aa1.tmps = bb1 at hF1
   subst hF1
   subst hw
   by_cases hlt : i < s0.toNat
   ·obtain ⟨q3, o3, hq_, _⟩ := hb3.2 (by omega)
    subst hq_
    have h56 : Mur.beN (L3.take i) < 72057594037927936 := beN_lt56 (by omega)
    have h256 := (L3.getD i 0).toNat_lt
    refine wp_seq (reg ?_)
    refine rQ 0 57 _ rfl rfl (qboolT (b := decide (((i : Nat) : Int) < ((s0.toNat : Nat) : Int))) (decide_eq_true (by omega))) ?_
    refine rEnd 1 rfl (nxt (wp_seq (wp_cond_true (by kernel_rfl) (wp_skip (nxt (wp_seq (wp_block (wp_seq (reg ?_)))))))))
    refine rQ 0 58 (pt q3 (o3 + i * 1)) rfl rfl (index_sl 22 5 (.tmp 54) (.tmp 56) rfl Tryd.underlying22 1 (by kernel_rfl) q3 o3 s0.toNat (c - at_ - 1) i .i64 (by kernel_rfl) (by kernel_rfl) (by omega)) ?_
    refine rQ 1 59 _ rfl rfl (ld 5 58 q3 (o3 + i * 1) (.int .u8 (((L3.getD i 0).toNat : Nat) : Int)) (byt_cell hb3 i (by omega))) ?_
    refine rP 2 10 (.int .u8 (((L3.getD i 0).toNat : Nat) : Int)) rfl rfl ?_
    refine rEnd 3 rfl (nxt (reg ?_))
    refine rP 0 60 (.int .u64 ((Mur.beN (L3.take i) : Nat) : Int)) rfl rfl ?_
    refine rQ 1 61 (.int .u64 (((Mur.beN (L3.take i)) * 256 : Nat) : Int)) rfl rfl (shl8_64 24 139 (.tmp 60) (.const (.int .u64 8)) rfl (Mur.beN (L3.take i)) .u64 (by kernel_rfl) (by kernel_rfl) (by omega)) ?_
    refine rP 2 62 (.int .u8 (((L3.getD i 0).toNat : Nat) : Int)) rfl rfl ?_
    refine rQ 3 63 (.int .u64 (((L3.getD i 0).toNat : Nat) : Int)) rfl rfl (conv_int 5 24 (.tmp 62) rfl (by kernel_rfl) .u64 Tryd.underlying24 .u8 (((L3.getD i 0).toNat : Nat) : Int) (by kernel_rfl) (u64_nat (by omega))) ?_
    refine rQ 4 64 (.int .u64 ((Mur.beN (L3.take (i + 1)) : Nat) : Int)) rfl rfl (add_u64 24 24 (.tmp 61) (.tmp 63) rfl (Mur.beN (L3.take i) * 256) (L3.getD i 0).toNat (Mur.beN (L3.take (i + 1))) (by kernel_rfl) (by kernel_rfl) (beN_more (by omega)) (beN_lt64 (by rw [List.length_take]; omega))) ?_
    refine rP 5 4 (.int .u64 ((Mur.beN (L3.take (i + 1)) : Nat) : Int)) rfl rfl ?_
    refine rEnd 6 rfl (inN (nxt (reg ?_)))
    refine rQ 0 65 _ rfl rfl (qint64 (n := ((i : Nat) : Int) + 1) (z := ((i + 1 : Nat) : Int)) (by omega) (by omega) (by omega)) ?_
    refine rP 1 56 (.int .i64 ((i + 1 : Nat) : Int)) rfl rfl ?_
    refine rEnd 2 rfl (nxt ?_)
    refine ⟨_, ?_, i + 1, rfl, by kernel_rfl, (by omega), rfl⟩
    omega
   have hL4 : L3.take i = r0.take s0.toNat := by rw [List.take_of_length_le (by omega), hL3]
   have h64 := beN_lt64 (l := L3.take i) (by rw [List.length_take]; omega)
   refine wp_seq (reg ?_)
   refine rQ 0 57 _ rfl rfl (qboolF (b := decide (((i : Nat) : Int) < ((s0.toNat : Nat) : Int))) (decide_eq_false (by omega))) ?_
   refine rEnd 1 rfl (nxt (wp_seq (wp_cond_false (by kernel_rfl) (wp_exit (thX (thX (inX (nxt (wp_seq (reg ?_))))))))))
   refine rP 0 66 (.int .u64 ((Mur.beN (L3.take i) : Nat) : Int)) rfl rfl ?_
   refine rP 1 67 (.int .i64 ((at_ : Nat) : Int)) rfl rfl ?_
   refine rQ 2 68 _ rfl rfl (qint64 (n := ((at_ : Nat) : Int) + 1) (z := ((at_ + 1 : Nat) : Int)) (by omega) (by omega) (by omega)) ?_
   refine rP 3 69 (.int .i64 ((s0.toNat : Nat) : Int)) rfl rfl ?_
   refine rQ 4 70 _ rfl rfl (qint64 (n := ((at_ + 1 : Nat) : Int) + ((s0.toNat : Nat) : Int)) (z := ((at_ + 1 + s0.toNat : Nat) : Int)) (by omega) (by omega) (by omega)) ?_
   refine rP 5 4 (.int .u64 ((Mur.beN (L3.take i) : Nat) : Int)) rfl rfl ?_
   refine rP 6 5 (.int .i64 ((at_ + 1 + s0.toNat : Nat) : Int)) rfl rfl ?_
   refine rP 7 6 (.int .i64 0) rfl rfl ?_
   refine rEnd 8 rfl (nxt (wp_ret ?_))
   have hok := readN_ok hsr (by omega) (by omega) (by omega)
   rw [← hL4] at hok
   refine Wk.ret (.tuple #[.int .u64 ((Mur.beN (L3.take i) : Nat) : Int), .int .i64 ((at_ + 1 + s0.toNat : Nat) : Int), .int .i64 0]) rfl (by kernel_rfl) ?_
   exact ⟨_, _, _, rfl, .inl ⟨rfl, by omega, ⟨by omega, by omega⟩, hok⟩, rfl⟩
  refine rQ 5 39 _ rfl rfl (qboolF (b := decide (((n - at_ - 1 : Nat) : Int) > (0 : Int))) (decide_eq_false (by first | exact hx4 | omega))) ?_
  refine rP 6 40 (.bool false) rfl rfl ?_
  refine rP 7 41 (.bool false) rfl rfl ?_
  refine rPass 8 (some 42) rfl rfl (by kernel_rfl) ?_
  refine rPass 9 (some 43) rfl rfl (by kernel_rfl) ?_
  refine rPass 10 (some 44) rfl rfl (by kernel_rfl) ?_
  refine rPass 11 (some 45) rfl rfl (by kernel_rfl) ?_
  refine rP 12 46 (.bool false) rfl rfl ?_
  refine rP 13 31 (.bool false) rfl rfl ?_
  refine rEnd 14 rfl (nxt (wp_cond_false (by kernel_rfl) (wp_seq (reg ?_))))
  refine rP 0 48 (.slice Ac2 (n - at_ - 1) (c - at_ - 1)) rfl rfl ?_
  refine rP 1 49 (.int .i64 ((n - at_ - 1 : Nat) : Int)) rfl rfl ?_
  refine rP 2 50 (.int .i64 ((s0.toNat : Nat) : Int)) rfl rfl ?_
  by_cases hx7 : ((n - at_ - 1 : Nat) : Int) < ((s0.toNat : Nat) : Int)
  ·refine rQ 3 51 _ rfl rfl (qboolT (b := decide (((n - at_ - 1 : Nat) : Int) < ((s0.toNat : Nat) : Int))) (decide_eq_true (by first | exact hx7 | omega))) ?_
   refine rP 4 47 (.bool true) rfl rfl ?_
   refine rEnd 5 rfl (nxt (wp_cond_true (by kernel_rfl) (wp_seq (reg ?_))))
   refine rP 0 4 (.int .u64 0) rfl rfl ?_
   refine rP 1 5 (.int .i64 0) rfl rfl ?_
   refine rP 2 6 (.int .i64 4) rfl rfl ?_
   refine rEnd 3 rfl (nxt (wp_ret (inR (thR ?_))))
   refine Wk.ret (.tuple #[.int .u64 0, .int .i64 0, .int .i64 4]) rfl (by kernel_rfl) ?_
   exact ⟨0, 0, _, rfl, .inr ⟨by decide, rfl, rfl, (by first | exact readN_nil (by omega) | exact readN_short hsr (by omega))⟩, rfl⟩
  refine rQ 3 51 _ rfl rfl (qboolF (b := decide (((n - at_ - 1 : Nat) : Int) < ((s0.toNat : Nat) : Int))) (decide_eq_false (by first | exact hx7 | omega))) ?_
  refine rP 4 47 (.bool false) rfl rfl ?_
  refine rEnd 5 rfl (nxt (wp_cond_false (by kernel_rfl) (wp_skip (inN (nxt (wp_seq (wp_seq (reg ?_))))))))
  refine rP 0 52 (.slice Ac2 (n - at_ - 1) (c - at_ - 1)) rfl rfl ?_
  refine rP 1 53 (.int .i64 ((s0.toNat : Nat) : Int)) rfl rfl ?_
  obtain ⟨Ac4, hAc4⟩ : ∃ x_, x_ = Mur.cutA Ac2 (c - at_ - 1) 0 := ⟨_, rfl⟩
  have hbc4 : Byt w Ac4 s0.toNat (r0.take s0.toNat) := by rw [hAc4]; exact byt_to hbc2 s0.toNat (by omega) (by omega)
  refine rQ 2 54 (.slice Ac4 s0.toNat (c - at_ - 1)) rfl rfl (by rw [hAc4]; exact run_op_cut_to 22 (.tmp 52) (.tmp 53) rfl 5 Tryd.underlying22 (by kernel_rfl) Ac2 (n - at_ - 1) (c - at_ - 1) s0.toNat (by kernel_rfl) (by kernel_rfl) (by omega) (by omega)) ?_
  obtain ⟨L3, hL3⟩ : ∃ x_, x_ = r0.take s0.toNat := ⟨_, rfl⟩
  have hb3 := hbc4
  rw [← hL3] at hb3
  have hl3 := hb3.1
  refine rP 3 55 (.int .i64 ((s0.toNat : Nat) : Int)) rfl rfl ?_
  refine rP 4 56 (.int .i64 0) rfl rfl ?_
  refine rEnd 5 rfl (nxt (wp_block ?_))
  refine Wk.loop (fun m_ a wr => ∃ (i : Nat), m_ = s0.toNat - i ∧ a = UintW_F2 a.tmps (.int .i64 ((at_ : Nat) : Int)) (.int .u64 ((Mur.beN (L3.take i) : Nat) : Int)) (.int .i64 ((s0.toNat : Nat) : Int)) (.slice Ac4 s0.toNat (c - at_ - 1)) (.int .i64 ((s0.toNat : Nat) : Int)) (.int .i64 ((i : Nat) : Int)) ∧ i ≤ s0.toNat ∧ wr = w) (s0.toNat - 0) ?_ ?_
  ·refine ⟨0, rfl, by kernel_rfl, (by omega), rfl⟩
  rintro mm2 aa2 W2 ⟨i, hmm2, hF2, hi, hw⟩
  generalize aa2.tmps = bb2 at hF2
  subst hF2
  subst hw
  by_cases hlt : i < s0.toNat
  ·obtain ⟨q3, o3, hq_, _⟩ := hb3.2 (by omega)
   subst hq_
   have h56 : Mur.beN (L3.take i) < 72057594037927936 := beN_lt56 (by omega)
   have h256 := (L3.getD i 0).toNat_lt
   refine wp_seq (reg ?_)
   refine rQ 0 57 _ rfl rfl (qboolT (b := decide (((i : Nat) : Int) < ((s0.toNat : Nat) : Int))) (decide_eq_true (by omega))) ?_
   refine rEnd 1 rfl (nxt (wp_seq (wp_cond_true (by kernel_rfl) (wp_skip (nxt (wp_seq (wp_block (wp_seq (reg ?_)))))))))
   refine rQ 0 58 (pt q3 (o3 + i * 1)) rfl rfl (index_sl 22 5 (.tmp 54) (.tmp 56) rfl Tryd.underlying22 1 (by kernel_rfl) q3 o3 s0.toNat (c - at_ - 1) i .i64 (by kernel_rfl) (by kernel_rfl) (by omega)) ?_
   refine rQ 1 59 _ rfl rfl (ld 5 58 q3 (o3 + i * 1) (.int .u8 (((L3.getD i 0).toNat : Nat) : Int)) (byt_cell hb3 i (by omega))) ?_
   refine rP 2 10 (.int .u8 (((L3.getD i 0).toNat : Nat) : Int)) rfl rfl ?_
   refine rEnd 3 rfl (nxt (reg ?_))
   refine rP 0 60 (.int .u64 ((Mur.beN (L3.take i) : Nat) : Int)) rfl rfl ?_
   refine rQ 1 61 (.int .u64 (((Mur.beN (L3.take i)) * 256 : Nat) : Int)) rfl rfl (shl8_64 24 139 (.tmp 60) (.const (.int .u64 8)) rfl (Mur.beN (L3.take i)) .u64 (by kernel_rfl) (by kernel_rfl) (by omega)) ?_
   refine rP 2 62 (.int .u8 (((L3.getD i 0).toNat : Nat) : Int)) rfl rfl ?_
   refine rQ 3 63 (.int .u64 (((L3.getD i 0).toNat : Nat) : Int)) rfl rfl (conv_int 5 24 (.tmp 62) rfl (by kernel_rfl) .u64 Tryd.underlying24 .u8 (((L3.getD i 0).toNat : Nat) : Int) (by kernel_rfl) (u64_nat (by omega))) ?_
   refine rQ 4 64 (.int .u64 ((Mur.beN (L3.take (i + 1)) : Nat) : Int)) rfl rfl (add_u64 24 24 (.tmp 61) (.tmp 63) rfl (Mur.beN (L3.take i) * 256) (L3.getD i 0).toNat (Mur.beN (L3.take (i + 1))) (by kernel_rfl) (by kernel_rfl) (beN_more (by omega)) (beN_lt64 (by rw [List.length_take]; omega))) ?_
   refine rP 5 4 (.int .u64 ((Mur.beN (L3.take (i + 1)) : Nat) : Int)) rfl rfl ?_
   refine rEnd 6 rfl (inN (nxt (reg ?_)))
   refine rQ 0 65 _ rfl rfl (qint64 (n := ((i : Nat) : Int) + 1) (z := ((i + 1 : Nat) : Int)) (by omega) (by omega) (by omega)) ?_
   refine rP 1 56 (.int .i64 ((i + 1 : Nat) : Int)) rfl rfl ?_
   refine rEnd 2 rfl (nxt ?_)
   refine ⟨_, ?_, i + 1, rfl, by kernel_rfl, (by omega), rfl⟩
   omega
  have hL4 : L3.take i = r0.take s0.toNat := by rw [List.take_of_length_le (by omega), hL3]
  have h64 := beN_lt64 (l := L3.take i) (by rw [List.length_take]; omega)
  refine wp_seq (reg ?_)
  refine rQ 0 57 _ rfl rfl (qboolF (b := decide (((i : Nat) : Int) < ((s0.toNat : Nat) : Int))) (decide_eq_false (by omega))) ?_
  refine rEnd 1 rfl (nxt (wp_seq (wp_cond_false (by kernel_rfl) (wp_exit (thX (thX (inX (nxt (wp_seq (reg ?_))))))))))
  refine rP 0 66 (.int .u64 ((Mur.beN (L3.take i) : Nat) : Int)) rfl rfl ?_
  refine rP 1 67 (.int .i64 ((at_ : Nat) : Int)) rfl rfl ?_
  refine rQ 2 68 _ rfl rfl (qint64 (n := ((at_ : Nat) : Int) + 1) (z := ((at_ + 1 : Nat) : Int)) (by omega) (by omega) (by omega)) ?_
  refine rP 3 69 (.int .i64 ((s0.toNat : Nat) : Int)) rfl rfl ?_
  refine rQ 4 70 _ rfl rfl (qint64 (n := ((at_ + 1 : Nat) : Int) + ((s0.toNat : Nat) : Int)) (z := ((at_ + 1 + s0.toNat : Nat) : Int)) (by omega) (by omega) (by omega)) ?_
  refine rP 5 4 (.int .u64 ((Mur.beN (L3.take i) : Nat) : Int)) rfl rfl ?_
  refine rP 6 5 (.int .i64 ((at_ + 1 + s0.toNat : Nat) : Int)) rfl rfl ?_
  refine rP 7 6 (.int .i64 0) rfl rfl ?_
  refine rEnd 8 rfl (nxt (wp_ret ?_))
  have hok := readN_ok hsr (by omega) (by omega) (by omega)
  rw [← hL4] at hok
  refine Wk.ret (.tuple #[.int .u64 ((Mur.beN (L3.take i) : Nat) : Int), .int .i64 ((at_ + 1 + s0.toNat : Nat) : Int), .int .i64 0]) rfl (by kernel_rfl) ?_
  exact ⟨_, _, _, rfl, .inl ⟨rfl, by omega, ⟨by omega, by omega⟩, hok⟩, rfl⟩
 refine rQ 1 35 _ rfl rfl (qboolF (b := decide (((s0.toNat : Nat) : Int) > (0 : Int))) (decide_eq_false (by first | exact hx3 | omega))) ?_
 refine rP 2 36 (.bool false) rfl rfl ?_
 refine rPass 3 (some 37) rfl rfl (by kernel_rfl) ?_
 refine rPass 4 (some 38) rfl rfl (by kernel_rfl) ?_
 refine rPass 5 (some 39) rfl rfl (by kernel_rfl) ?_
 refine rP 6 40 (.bool false) rfl rfl ?_
 refine rP 7 41 (.bool false) rfl rfl ?_
 refine rPass 8 (some 42) rfl rfl (by kernel_rfl) ?_
 refine rPass 9 (some 43) rfl rfl (by kernel_rfl) ?_
 refine rPass 10 (some 44) rfl rfl (by kernel_rfl) ?_
 refine rPass 11 (some 45) rfl rfl (by kernel_rfl) ?_
 refine rP 12 46 (.bool false) rfl rfl ?_
 refine rP 13 31 (.bool false) rfl rfl ?_
 refine rEnd 14 rfl (nxt (wp_cond_false (by kernel_rfl) (wp_seq (reg ?_))))
 refine rP 0 48 (.slice Ac2 (n - at_ - 1) (c - at_ - 1)) rfl rfl ?_
 refine rP 1 49 (.int .i64 ((n - at_ - 1 : Nat) : Int)) rfl rfl ?_
 refine rP 2 50 (.int .i64 ((s0.toNat : Nat) : Int)) rfl rfl ?_
 by_cases hx8 : ((n - at_ - 1 : Nat) : Int) < ((s0.toNat : Nat) : Int)
 ·refine rQ 3 51 _ rfl rfl (qboolT (b := decide (((n - at_ - 1 : Nat) : Int) < ((s0.toNat : Nat) : Int))) (decide_eq_true (by first | exact hx8 | omega))) ?_
  refine rP 4 47 (.bool true) rfl rfl ?_
  refine rEnd 5 rfl (nxt (wp_cond_true (by kernel_rfl) (wp_seq (reg ?_))))
  refine rP 0 4 (.int .u64 0) rfl rfl ?_
  refine rP 1 5 (.int .i64 0) rfl rfl ?_
  refine rP 2 6 (.int .i64 4) rfl rfl ?_
  refine rEnd 3 rfl (nxt (wp_ret (inR (thR ?_))))
  refine Wk.ret (.tuple #[.int .u64 0, .int .i64 0, .int .i64 4]) rfl (by kernel_rfl) ?_
  exact ⟨0, 0, _, rfl, .inr ⟨by decide, rfl, rfl, (by first | exact readN_nil (by omega) | exact readN_short hsr (by omega))⟩, rfl⟩
 refine rQ 3 51 _ rfl rfl (qboolF (b := decide (((n - at_ - 1 : Nat) : Int) < ((s0.toNat : Nat) : Int))) (decide_eq_false (by first | exact hx8 | omega))) ?_
 refine rP 4 47 (.bool false) rfl rfl ?_
 refine rEnd 5 rfl (nxt (wp_cond_false (by kernel_rfl) (wp_skip (inN (nxt (wp_seq (wp_seq (reg ?_))))))))
 refine rP 0 52 (.slice Ac2 (n - at_ - 1) (c - at_ - 1)) rfl rfl ?_
 refine rP 1 53 (.int .i64 ((s0.toNat : Nat) : Int)) rfl rfl ?_
 obtain ⟨Ac5, hAc5⟩ : ∃ x_, x_ = Mur.cutA Ac2 (c - at_ - 1) 0 := ⟨_, rfl⟩
 have hbc5 : Byt w Ac5 s0.toNat (r0.take s0.toNat) := by rw [hAc5]; exact byt_to hbc2 s0.toNat (by omega) (by omega)
 refine rQ 2 54 (.slice Ac5 s0.toNat (c - at_ - 1)) rfl rfl (by rw [hAc5]; exact run_op_cut_to 22 (.tmp 52) (.tmp 53) rfl 5 Tryd.underlying22 (by kernel_rfl) Ac2 (n - at_ - 1) (c - at_ - 1) s0.toNat (by kernel_rfl) (by kernel_rfl) (by omega) (by omega)) ?_
 obtain ⟨L3, hL3⟩ : ∃ x_, x_ = r0.take s0.toNat := ⟨_, rfl⟩
 have hb3 := hbc5
 rw [← hL3] at hb3
 have hl3 := hb3.1
 refine rP 3 55 (.int .i64 ((s0.toNat : Nat) : Int)) rfl rfl ?_
 refine rP 4 56 (.int .i64 0) rfl rfl ?_
 refine rEnd 5 rfl (nxt (wp_block ?_))
 refine Wk.loop (fun m_ a wr => ∃ (i : Nat), m_ = s0.toNat - i ∧ a = UintW_F3 a.tmps (.int .i64 ((at_ : Nat) : Int)) (.int .u64 ((Mur.beN (L3.take i) : Nat) : Int)) (.int .i64 ((s0.toNat : Nat) : Int)) (.slice Ac5 s0.toNat (c - at_ - 1)) (.int .i64 ((s0.toNat : Nat) : Int)) (.int .i64 ((i : Nat) : Int)) ∧ i ≤ s0.toNat ∧ wr = w) (s0.toNat - 0) ?_ ?_
 ·refine ⟨0, rfl, by kernel_rfl, (by omega), rfl⟩
 rintro mm3 aa3 W3 ⟨i, hmm3, hF3, hi, hw⟩
 generalize aa3.tmps = bb3 at hF3
 subst hF3
 subst hw
 by_cases hlt : i < s0.toNat
 ·obtain ⟨q3, o3, hq_, _⟩ := hb3.2 (by omega)
  subst hq_
  have h56 : Mur.beN (L3.take i) < 72057594037927936 := beN_lt56 (by omega)
  have h256 := (L3.getD i 0).toNat_lt
  refine wp_seq (reg ?_)
  refine rQ 0 57 _ rfl rfl (qboolT (b := decide (((i : Nat) : Int) < ((s0.toNat : Nat) : Int))) (decide_eq_true (by omega))) ?_
  refine rEnd 1 rfl (nxt (wp_seq (wp_cond_true (by kernel_rfl) (wp_skip (nxt (wp_seq (wp_block (wp_seq (reg ?_)))))))))
  refine rQ 0 58 (pt q3 (o3 + i * 1)) rfl rfl (index_sl 22 5 (.tmp 54) (.tmp 56) rfl Tryd.underlying22 1 (by kernel_rfl) q3 o3 s0.toNat (c - at_ - 1) i .i64 (by kernel_rfl) (by kernel_rfl) (by omega)) ?_
  refine rQ 1 59 _ rfl rfl (ld 5 58 q3 (o3 + i * 1) (.int .u8 (((L3.getD i 0).toNat : Nat) : Int)) (byt_cell hb3 i (by omega))) ?_
  refine rP 2 10 (.int .u8 (((L3.getD i 0).toNat : Nat) : Int)) rfl rfl ?_
  refine rEnd 3 rfl (nxt (reg ?_))
  refine rP 0 60 (.int .u64 ((Mur.beN (L3.take i) : Nat) : Int)) rfl rfl ?_
  refine rQ 1 61 (.int .u64 (((Mur.beN (L3.take i)) * 256 : Nat) : Int)) rfl rfl (shl8_64 24 139 (.tmp 60) (.const (.int .u64 8)) rfl (Mur.beN (L3.take i)) .u64 (by kernel_rfl) (by kernel_rfl) (by omega)) ?_
  refine rP 2 62 (.int .u8 (((L3.getD i 0).toNat : Nat) : Int)) rfl rfl ?_
  refine rQ 3 63 (.int .u64 (((L3.getD i 0).toNat : Nat) : Int)) rfl rfl (conv_int 5 24 (.tmp 62) rfl (by kernel_rfl) .u64 Tryd.underlying24 .u8 (((L3.getD i 0).toNat : Nat) : Int) (by kernel_rfl) (u64_nat (by omega))) ?_
  refine rQ 4 64 (.int .u64 ((Mur.beN (L3.take (i + 1)) : Nat) : Int)) rfl rfl (add_u64 24 24 (.tmp 61) (.tmp 63) rfl (Mur.beN (L3.take i) * 256) (L3.getD i 0).toNat (Mur.beN (L3.take (i + 1))) (by kernel_rfl) (by kernel_rfl) (beN_more (by omega)) (beN_lt64 (by rw [List.length_take]; omega))) ?_
  refine rP 5 4 (.int .u64 ((Mur.beN (L3.take (i + 1)) : Nat) : Int)) rfl rfl ?_
  refine rEnd 6 rfl (inN (nxt (reg ?_)))
  refine rQ 0 65 _ rfl rfl (qint64 (n := ((i : Nat) : Int) + 1) (z := ((i + 1 : Nat) : Int)) (by omega) (by omega) (by omega)) ?_
  refine rP 1 56 (.int .i64 ((i + 1 : Nat) : Int)) rfl rfl ?_
  refine rEnd 2 rfl (nxt ?_)
  refine ⟨_, ?_, i + 1, rfl, by kernel_rfl, (by omega), rfl⟩
  omega
 have hL4 : L3.take i = r0.take s0.toNat := by rw [List.take_of_length_le (by omega), hL3]
 have h64 := beN_lt64 (l := L3.take i) (by rw [List.length_take]; omega)
 refine wp_seq (reg ?_)
 refine rQ 0 57 _ rfl rfl (qboolF (b := decide (((i : Nat) : Int) < ((s0.toNat : Nat) : Int))) (decide_eq_false (by omega))) ?_
 refine rEnd 1 rfl (nxt (wp_seq (wp_cond_false (by kernel_rfl) (wp_exit (thX (thX (inX (nxt (wp_seq (reg ?_))))))))))
 refine rP 0 66 (.int .u64 ((Mur.beN (L3.take i) : Nat) : Int)) rfl rfl ?_
 refine rP 1 67 (.int .i64 ((at_ : Nat) : Int)) rfl rfl ?_
 refine rQ 2 68 _ rfl rfl (qint64 (n := ((at_ : Nat) : Int) + 1) (z := ((at_ + 1 : Nat) : Int)) (by omega) (by omega) (by omega)) ?_
 refine rP 3 69 (.int .i64 ((s0.toNat : Nat) : Int)) rfl rfl ?_
 refine rQ 4 70 _ rfl rfl (qint64 (n := ((at_ + 1 : Nat) : Int) + ((s0.toNat : Nat) : Int)) (z := ((at_ + 1 + s0.toNat : Nat) : Int)) (by omega) (by omega) (by omega)) ?_
 refine rP 5 4 (.int .u64 ((Mur.beN (L3.take i) : Nat) : Int)) rfl rfl ?_
 refine rP 6 5 (.int .i64 ((at_ + 1 + s0.toNat : Nat) : Int)) rfl rfl ?_
 refine rP 7 6 (.int .i64 0) rfl rfl ?_
 refine rEnd 8 rfl (nxt (wp_ret ?_))
 have hok := readN_ok hsr (by omega) (by omega) (by omega)
 rw [← hL4] at hok
 refine Wk.ret (.tuple #[.int .u64 ((Mur.beN (L3.take i) : Nat) : Int), .int .i64 ((at_ + 1 + s0.toNat : Nat) : Int), .int .i64 0]) rfl (by kernel_rfl) ?_
 exact ⟨_, _, _, rfl, .inl ⟨rfl, by omega, ⟨by omega, by omega⟩, hok⟩, rfl⟩
end Go.Proofs.YtgbadghjnpbiaaaDoor
