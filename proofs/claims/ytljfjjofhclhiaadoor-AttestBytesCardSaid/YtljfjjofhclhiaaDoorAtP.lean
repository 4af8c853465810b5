/- The program's attests: built, compared. -/
import Derived.Test.YtljfjjofhclhiaaDoorAt
namespace Go.Proofs.YtljfjjofhclhiaaDoor
open Go.RowKit Wk
open Mur (b8s attC z32 DigT litOf)
theorem built3 {k r : List UInt8} {n : Int} (hk : k.length = 32) (hr : r.length = 32) : Program.built Tryd.prog 36 [(0, .agg (b8s k).toArray), (1, .agg (b8s r).toArray), (2, .int .i64 n)] = some (attC k r n z32).toArray :=
  (show Program.built Tryd.prog 36 [(0, .agg (b8s k).toArray), (1, .agg (b8s r).toArray), (2, .int .i64 n)] = Instr.fill (fun i => #[(0, 32), (32, 32), (64, 1), (65, 32)][i]?) (attC z32 z32 0 z32).toArray [(0, .agg (b8s k).toArray), (1, .agg (b8s r).toArray), (2, .int .i64 n)] from by kernel_rfl).trans (Mur.fill_att hk hr)
theorem built4 {k r t : List UInt8} {n : Int} (hk : k.length = 32) (hr : r.length = 32) (ht : t.length = 32) : Program.built Tryd.prog 36 [(0, .agg (b8s k).toArray), (1, .agg (b8s r).toArray), (2, .int .i64 n), (3, .agg (b8s t).toArray)] = some (attC k r n t).toArray :=
  (show Program.built Tryd.prog 36 [(0, .agg (b8s k).toArray), (1, .agg (b8s r).toArray), (2, .int .i64 n), (3, .agg (b8s t).toArray)] = Instr.fill (fun i => #[(0, 32), (32, 32), (64, 1), (65, 32)][i]?) (attC z32 z32 0 z32).toArray [(0, .agg (b8s k).toArray), (1, .agg (b8s r).toArray), (2, .int .i64 n), (3, .agg (b8s t).toArray)] from by kernel_rfl).trans (Mur.fill_att4 hk hr ht)
def litsD (d : List UInt8) : List Lit := ((List.range 32).map (litOf d)).flatten
theorem litsD_length (d : List UInt8) : (litsD d).length = 32 := by
  have h : ∀ l : List Nat, ((l.map (litOf d)).flatten).length = l.length := by
    intro l
    induction l with
    | nil => rfl
    | cons x l ih => simp [litOf, ih]
  rw [litsD, h, List.length_range]
theorem keyLits_att {k r t : List UInt8} {n : Int} (hk : k.length = 32) (hr : r.length = 32) (ht : t.length = 32) (hn : (Lit.int .i64 n).wf = true) : Tryd.prog.keyLits 3 36 (attC k r n t) = some (litsD k ++ (litsD r ++ (Lit.int .i64 n :: litsD t))) := by
  have hc : Tryd.prog.cellsOf 36 = 97 := by kernel_rfl
  have c1 : Tryd.prog.cellsOf 25 = 32 := by kernel_rfl
  have c2 : Tryd.prog.cellsOf 3 = 1 := by kernel_rfl
  have e1 : ((attC k r n t).drop 0).take 32 = b8s k := by
    show (b8s k ++ _).take 32 = _
    rw [List.take_left' (by rw [Mur.b8s_length, hk])]
  have e2 : ((attC k r n t).drop 32).take 32 = b8s r := by
    show ((b8s k ++ _).drop 32).take 32 = _
    rw [List.drop_left' (by rw [Mur.b8s_length, hk]), List.take_left' (by rw [Mur.b8s_length, hr])]
  have e3 : ((attC k r n t).drop 64).take 1 = [.int .i64 n] := by rw [Mur.drop64 hk hr]; rfl
  have e4 : ((attC k r n t).drop 65).take 32 = b8s t := by
    show ((attC k r n t).drop (64 + 1)).take 32 = _
    rw [← List.drop_drop, Mur.drop64 hk hr]
    show (b8s t).take 32 = _
    rw [List.take_of_length_le (by rw [Mur.b8s_length, ht]; exact Nat.le_refl _)]
  have l1 := fun (d : List UInt8) (hd : d.length = 32) => Mur.keyLits_dig digT d hd
  have l3 : Tryd.prog.keyLits 2 3 [.int .i64 n] = some [.int .i64 n] := by
    unfold Program.keyLits
    simp only [Tryd.underlying3]
    exact if_pos ⟨trivial, hn⟩
  unfold Program.keyLits
  simp only [Tryd.underlying36]
  rw [if_pos ⟨by rw [Mur.attC_length hk hr ht, hc], by decide +kernel⟩]
  simp only [List.mapM_cons, List.mapM_nil, c1, c2, e1, e2, e3, e4, l1 _ hk, l1 _ hr, l1 _ ht, l3]
  simp [litsD]
theorem litsD_inj {d d' : List UInt8} (hd : d.length = 32) (hd' : d'.length = 32) : litsD d = litsD d' ↔ d = d' := Mur.lits_inj hd hd'
theorem att_lits {k r t k' r' t' : List UInt8} {n n' : Int} (hk : k.length = 32) (hr : r.length = 32) (ht : t.length = 32) (hk' : k'.length = 32) (hr' : r'.length = 32) (ht' : t'.length = 32) :
    litsD k ++ (litsD r ++ (Lit.int .i64 n :: litsD t)) = litsD k' ++ (litsD r' ++ (Lit.int .i64 n' :: litsD t')) ↔ k = k' ∧ r = r' ∧ n = n' ∧ t = t' := by
  constructor
  · intro h
    have h1 := List.append_inj h (by rw [litsD_length, litsD_length])
    have h2 := List.append_inj h1.2 (by rw [litsD_length, litsD_length])
    have h3 := List.cons.inj h2.2
    exact ⟨(litsD_inj hk hk').1 h1.1, (litsD_inj hr hr').1 h2.1, by injection h3.1, (litsD_inj ht ht').1 h3.2⟩
  · rintro ⟨rfl, rfl, rfl, rfl⟩
    rfl
theorem eql_att {k r t k' r' t' : List UInt8} {n n' : Int} (hk : k.length = 32) (hr : r.length = 32) (ht : t.length = 32) (hk' : k'.length = 32) (hr' : r'.length = 32) (ht' : t'.length = 32) (hn : (Lit.int .i64 n).wf = true) (hn' : (Lit.int .i64 n').wf = true) (w : World) :
    (Op.equalIn 10000 36 (.agg (attC k r n t).toArray) (.agg (attC k' r' n' t').toArray)).run Tryd.prog w = .ok (decide (k = k' ∧ r = r' ∧ n = n' ∧ t = t')) w := by
  have hf : ∀ {a b c : List UInt8} {m : Int}, a.length = 32 → b.length = 32 → c.length = 32 → (Value.agg (attC a b m c).toArray).formed Tryd.prog 36 = true := by
    intro a b c m h1 h2 h3
    have hc : Tryd.prog.cellsOf 36 = 97 := by kernel_rfl
    simp [Value.formed, Tryd.underlying36, hc, Mur.attC_length h1 h2 h3]
  obtain ⟨b, hb, hiff⟩ := run_equalIn_deep (P := Tryd.prog) 9997 3 36 (by kernel_rfl) w 3 3 (.agg (attC k r n t).toArray) (.agg (attC k' r' n' t').toArray) _ _ (hf hk hr ht) (hf hk' hr' ht') (keyLits_att hk hr ht hn) (keyLits_att hk' hr' ht' hn')
  rw [att_lits hk hr ht hk' hr' ht'] at hiff
  rw [show (10000 : Nat) = 9997 + 3 from rfl, hb]
  congr 1
  by_cases e : k = k' ∧ r = r' ∧ n = n' ∧ t = t'
  · rw [decide_eq_true e]; exact hiff.2 e
  · rw [decide_eq_false e]
    cases b
    · rfl
    · exact absurd (hiff.1 rfl) e
section
variable {w : World} {a : Act} {o : Oper} {k r t k' r' t' : List UInt8} {n n' : Int}
theorem quiet_att : Tryd.prog.eqGuardType Tryd.prog.depth 36 = false := by kernel_rfl
theorem run_eql_att (x y : Operand) (ty : TypeId) (ho : o.op = .binOp .eql 36 x y ty) (hk : k.length = 32) (hr : r.length = 32) (ht : t.length = 32) (hk' : k'.length = 32) (hr' : r'.length = 32) (ht' : t'.length = 32) (hn : (Lit.int .i64 n).wf = true) (hn' : (Lit.int .i64 n').wf = true)
    (hx : a.eval x = .agg (attC k r n t).toArray) (hy : a.eval y = .agg (attC k' r' n' t').toArray) : (execOp a.eval o).run Tryd.prog w = .ok (.value (.bool (decide (k = k' ∧ r = r' ∧ n = n' ∧ t = t')))) w := by
  unfold execOp
  simp only [ho, hx, hy, Sem.run_bind, run_eqGuard_agg w _ _ _ _ _ _ quiet_att, Result.andThen_ok, run_eql_struct, Sem.run_pure, eql_att hk hr ht hk' hr' ht' hn hn']
theorem run_neq_att (x y : Operand) (ty : TypeId) (ho : o.op = .binOp .neq 36 x y ty) (hk : k.length = 32) (hr : r.length = 32) (ht : t.length = 32) (hk' : k'.length = 32) (hr' : r'.length = 32) (ht' : t'.length = 32) (hn : (Lit.int .i64 n).wf = true) (hn' : (Lit.int .i64 n').wf = true)
    (hx : a.eval x = .agg (attC k r n t).toArray) (hy : a.eval y = .agg (attC k' r' n' t').toArray) : (execOp a.eval o).run Tryd.prog w = .ok (.value (.bool (!decide (k = k' ∧ r = r' ∧ n = n' ∧ t = t')))) w := by
  unfold execOp
  simp only [ho, hx, hy, Sem.run_bind, run_eqGuard_agg w _ _ _ _ _ _ quiet_att, Result.andThen_ok, run_neq_struct, Sem.run_pure, eql_att hk hr ht hk' hr' ht' hn hn']
end
theorem wf64 {n : Int} (h1 : -9223372036854775808 ≤ n) (h2 : n ≤ 9223372036854775807) : (Lit.int .i64 n).wf = true := by
  have h3 : IntKind.i64.min = -9223372036854775808 := by decide
  have h4 : IntKind.i64.max = 9223372036854775807 := by decide
  simp only [Lit.wf, h3, h4, Bool.and_eq_true, decide_eq_true_eq]
  exact ⟨h1, h2⟩
theorem results_att {fn : Func} {p u : Tmp} (h : fn.results = #[.cell p 36, .tmp u]) (tmps : Array Value) (w : World) (g : Nat) (cs : Array Value) (fr : Nat × Nat) (v : Value) (hp : tmps.getD p undef = .pointer (some ⟨g, 0, none⟩)) (hg : w.heap[g]? = some (.cells cs 36 fr)) (hs : cs.size = 97) (hv : tmps.getD u undef = v) :
    (results fn tmps).run Tryd.prog w = .ok (.tuple #[.agg cs, v]) w := by
  rw [results_cell_tmp h, hp, hv]
  have := run_loadVar_row (P := Tryd.prog) w g 36 36 cs fr _ hg Tryd.underlying36 rfl (by rw [hs]; kernel_rfl)
  simp [asAddr, this]
end Go.Proofs.YtljfjjofhclhiaaDoor
