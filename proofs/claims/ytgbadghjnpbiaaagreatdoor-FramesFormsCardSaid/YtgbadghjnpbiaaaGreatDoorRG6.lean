/- What the row rests on, part 6. -/
import Derived.RangeFuncMany
import Derived.RangeFuncCalls
import Derived.RangeFuncKeeps
import Derived.TacticsIn
import Derived.OrdersIn
import Derived.Scope
import Derived.Lib.Overlaps
import Derived.Lib.AppendZerosOnto
import Derived.Test.YtgbadghjnpbiaaaGreatDoorProg
import Derived.Test.YtgbadghjnpbiaaaGreatDoorRG3
import Derived.Test.YtgbadghjnpbiaaaGreatDoorRG5
import Derived.Test.YtgbadghjnpbiaaaGreatDoorRG4
namespace Wk
open Go Go.RowKit
def WF (r : Option Nat) : Fence := { Fence.wide with round := r }
structure Keep (F : List Nat) (w w' : World) : Prop where
 size : w.heap.size ≤ w'.heap.size
 block : ∀ k, k ∈ F → w'.heap[k]? = w.heap[k]?
theorem Keep.refl (F : List Nat) (w : World) : Keep F w w := ⟨Nat.le_refl _, fun _ _ => rfl⟩
theorem Keep.trans {F : List Nat} {a b c : World} (h : Keep F a b) (k : Keep F b c) : Keep F a c := ⟨Nat.le_trans h.size k.size, fun i hi => (k.block i hi).trans (h.block i hi)⟩
theorem Keep.of {F S : List Nat} {w w' : World} (h : Chg S w w') (hl : ∀ k, k ∈ F → k < w.heap.size) (ho : ∀ k, k ∈ F → Off k S) : Keep F w w' := ⟨h.size, fun k hk => h.block k (hl k hk) (ho k hk)⟩
theorem Keep.hp {F : List Nat} {w w' : World} (h : Keep F w w') {k : Nat} {o : Obj} (hk : w.heap[k]? = some o) (hm : k ∈ F) : w'.heap[k]? = some o := (h.block k hm).trans hk
theorem Keep.cell {F : List Nat} {w w' : World} (h : Keep F w w') {g o : Nat} {v : Value} (hc : w.cell? ⟨g, o, none⟩ = some v) (hm : g ∈ F) : w'.cell? ⟨g, o, none⟩ = some v :=
 (World.cell?_of_block (w := w) (a := ⟨g, o, none⟩) (h.block g hm)).trans hc
theorem Keep.range {F : List Nat} {w w' : World} (h : Keep F w w') {g o : Nat} {cs : List Value} (hr : w.rangeAt g o cs) (hm : g ∈ F) : w'.rangeAt g o cs := fun j v hv => h.cell (hr j v hv) hm
def Seq {α : Type} (P : Program) (gf : Nat) (lb : Array Value) (encs : α → Array Value) (xs : List α) (F : List Nat) (w : World) : Prop :=
 (∀ k, k ∈ F → k < w.heap.size) ∧
 ∀ (l : Nat) (J : List α → World → Prop) (W : World), Keep F w W →
  (∀ pre A A', J pre A → Chg [] A A' → J pre A') →
  (∀ pre x post A, xs = pre ++ x :: post → J pre A → YieldAt Fence.wide 0 P l (encs x) A fun e A' => e = .returned (.bool true) ∧ J (pre ++ [x]) A' ∧ Keep F A A') →
  J [] W →
  Calls P gf (#[.func (.yield l) #[] #[]] ++ lb) W fun e W' => (∃ v, e = .returned v) ∧ J xs W'
theorem Seq.chg {α : Type} {P : Program} {gf : Nat} {lb : Array Value} {encs : α → Array Value} {xs : List α} {F S : List Nat} {w w' : World} (h : Seq P gf lb encs xs F w) (c : Chg S w w') (ho : ∀ k, k ∈ F → Off k S) : Seq P gf lb encs xs F w' :=
 ⟨fun k hk => Nat.lt_of_lt_of_le (h.1 k hk) c.size, fun l J W hW => h.2 l J W ((Keep.of c h.1 ho).trans hW)⟩
theorem chg_put (w : World) (l : Nat) (o : Obj) : Chg [l] w (w.putObj l o) := ⟨rfl, rfl, rfl, by simp, fun k _ hk => World.putObj_heap_other hk.1⟩
theorem off_of_not {k : Nat} {S : List Nat} (h : k ∉ S) : Off k S := by
 induction S with
 | nil => trivial
 | cons s S ih => exact ⟨fun e => h (by simp [e]), ih fun hk => h (by simp [hk])⟩
def roundEnd (I : World → Prop) (F : List Nat) (A : World) : Exit → Act → World → Prop
 | .normal, _, A' => ∃ S, Chg S A A' ∧ (∀ s, s ∈ S → s < A.heap.size → ∃ o : Obj, A.heap[s]? = some o ∧ o.isCells = true) ∧ (∀ k, k ∈ F → Off k S) ∧ I A'
 | _, _, _ => False
theorem range {P : Program} {g : Operand} {ps : Array Tmp} {assign body : Code} {Q : Exit → Act → World → Prop} {a : Act} {w : World} {α : Type} {gf : Nat} {lb : Array Value} {encs : α → Array Value} {xs : List α} {F : List Nat}
  (hseq : Seq P gf lb encs xs F w) (hg : a.eval g = .func (.func gf) #[] lb) (eg : ∀ args w, (callFunc gf args).run P w = .ok (.enter gf args) w) (hps : ∀ x, (encs x).size = ps.size)
  (I : List α → World → Prop) (hI0 : ∀ pre A A', I pre A → Chg [] A A' → I pre A')
  (hI1 : ∀ pre A A' r o, I pre A → w.heap.size ≤ r → A.heap[r]? = some o → o.isCells = false → Chg [r] A A' → I pre A') (h0 : I [] w)
  (hround : ∀ l pre x post A, xs = pre ++ x :: post → I pre A → w.heap.size ≤ l → l < A.heap.size → (∃ r, A.heap[l]? = some (.loop r)) →
   assign.wpIn (WF (some l)) 0 P (Exit.then (fun a₁ A₁ => Chg [] A A₁ ∧ ∀ A₂, Chg [l] A₁ A₂ → body.wpIn (WF (some l)) 0 P (roundEnd (I (pre ++ [x])) F A₂) a₁ A₂) (fun _ _ _ => False))
    { tmps := (ps.zip (encs x)).foldl (fun t (p, v) => t.setIfInBounds p v) a.tmps, defers := [] } A)
  (hdone : ∀ D W, I xs W → w.heap.size ≤ D → W.heap[D]? = some (.deferred (some [])) → Q .normal { a with defers := { target := .collected D, args := #[] } :: a.defers } W) :
  (Code.rangeFunc g ps assign body).wp P Q a w := by
 refine (wpIn_wide (n := 0)).1 (wpIn_rangeFunc ?_)
 intro fn _
 obtain ⟨rec, hrec⟩ : ∃ rec : LoopState → Option Code → Loop, rec = fun st pe => { state := st, pending := pe, fn, tmps := a.tmps, params := ps, assign, body, defers := w.heap.size } := ⟨_, rfl⟩
 obtain ⟨W1, hW1⟩ : ∃ W1, (w.alloc (.deferred (some []))).alloc (.loop (rec .ready none)) = W1 := ⟨_, rfl⟩
 have hL1 : W1.heap[w.heap.size + 1]? = some (.loop (rec .ready none)) := by
  rw [← hW1]; have := World.alloc_heap_new (w.alloc (.deferred (some []))) (.loop (rec .ready none)); rwa [World.size_alloc] at this
 have hK1 : W1.heap[w.heap.size]? = some (.deferred (some [])) := by
  rw [← hW1]; exact (Below.heap_alloc _ _ _ (by simp)).trans (World.alloc_heap_new w _)
 have hC1 : Chg [] w W1 := by rw [← hW1]; exact (Chg.alloc w _).trans (Chg.alloc _ _)
 refine ⟨w.heap.size + 1, [{ target := .collected w.heap.size, args := #[] }], W1, { target := .fn (.func gf) lb, args := #[.func (.yield (w.heap.size + 1)) #[] #[]] }, W1, gf,
  #[.func (.yield (w.heap.size + 1)) #[] #[]] ++ lb, W1, ?_, ?_, fun _ _ => trivial, ?_, (fun h => by cases h), ?_⟩
 ·rw [← hW1, hrec]; exact run_enterLoop_outer _ _ _ _ _
 ·simp only [resolve, hg]
  simp [go_sem]
 ·simp [invoke, go_sem, eg]
 ·refine callsIn_wide.2 ((hseq.2 (w.heap.size + 1) (fun pre W => I pre W ∧ W.heap[w.heap.size + 1]? = some (.loop (rec .ready none)) ∧ W.heap[w.heap.size]? = some (.deferred (some []))) W1 (Keep.of hC1 hseq.1 fun _ _ => trivial)
   (fun pre A A' h c => ⟨hI0 pre A A' h.1 c, c.hp h.2.1 trivial, c.hp h.2.2 trivial⟩) ?_ ⟨hI0 _ _ _ h0 hC1, hL1, hK1⟩).mono ?_)
  ·rintro pre x post A hx ⟨hi, hl, hk⟩
   have hlt : w.heap.size + 1 < A.heap.size := (Array.getElem?_eq_some_iff.1 hl).1
   have hy := run_yield (P := P) (args := encs x) hl (by rw [hrec]; exact hps x)
   rw [hrec] at hy
   refine ⟨fn, _, assign, body, hy, roundIn_of_wpIn (F := Fence.wide) trivial ?_⟩
   refine wpIn_mono (hround (w.heap.size + 1) pre x post A hx hi (by omega) hlt ⟨_, hl⟩) ?_
   intro e a₁ A₁ hq
   cases e with
   | normal =>
    obtain ⟨hc1, hbody⟩ := hq
    have hl1 := hc1.hp hl trivial
    have hk1 := hc1.hp hk trivial
    have hsz1 := hc1.size
    refine ⟨_, run_beginRound hl1 (by rw [hrec]), ?_⟩
    have hc2 := chg_put A₁ (w.heap.size + 1) (.loop { rec .ready none with state := .busy })
    have hl2 : (A₁.putObj (w.heap.size + 1) (.loop { rec .ready none with state := .busy })).heap[w.heap.size + 1]? = some (.loop { rec .ready none with state := .busy }) := World.putObj_heap_same (by omega)
    have hk2 := hc2.hp hk1 ⟨by omega, trivial⟩
    have hsz2 := hc2.size
    refine wpIn_mono (hbody _ hc2) ?_
    intro e a₃ A₃ hq
    cases e with
    | normal =>
     obtain ⟨S, hS, hcells, hF, hI⟩ := hq
     have hnot : ∀ (k : Nat) (o : Obj), (A₁.putObj (w.heap.size + 1) (.loop { rec .ready none with state := .busy })).heap[k]? = some o → o.isCells = false → Off k S := fun k o ho hoc => off_of_not fun hm => by
      obtain ⟨o', ho', hc'⟩ := hcells k hm (Array.getElem?_eq_some_iff.1 ho).1
      rw [ho] at ho'
      cases ho'
      rw [hoc] at hc'
      cases hc'
     have hl3 := hS.hp hl2 (hnot _ _ hl2 rfl)
     have hk3 := hS.hp hk2 (hnot _ _ hk2 rfl)
     have hlt3 : w.heap.size + 1 < A₃.heap.size := (Array.getElem?_eq_some_iff.1 hl3).1
     have hlt2 : w.heap.size + 1 < (A₁.putObj (w.heap.size + 1) (.loop { rec .ready none with state := .busy })).heap.size := (Array.getElem?_eq_some_iff.1 hl2).1
     have hend := run_endRound (P := P) none hl3
     have hc4 := chg_put A₃ (w.heap.size + 1) (.loop (rec .ready none))
     refine ⟨_, A₃.putObj (w.heap.size + 1) (.loop (rec .ready none)), ?_, rfl, ⟨hI1 _ _ _ _ _ hI (by omega) hl3 rfl hc4, World.putObj_heap_same hlt3, hc4.hp hk3 ⟨by omega, trivial⟩⟩, ?_⟩
     ·rw [hend, hrec]; rfl
     ·have hlt' : ∀ k, k ∈ F → k < w.heap.size := hseq.1
      refine (Keep.of hc1 (fun k hk => ?_) fun _ _ => trivial).trans ((Keep.of hc2 (fun k hk => ?_) fun k hk => ⟨?_, trivial⟩).trans ((Keep.of hS (fun k hk => ?_) hF).trans (Keep.of hc4 (fun k hk => ?_) fun k hk => ⟨?_, trivial⟩)))
      all_goals (have := hlt' k hk; first | omega | exact Nat.lt_trans (by omega) hlt2 | exact Nat.lt_trans (by omega) hlt3)
    | _ => exact hq.elim
   | _ => exact hq.elim
  ·rintro e W2 ⟨⟨v, rfl⟩, hi, hl, hk⟩
   have hlt : w.heap.size + 1 < W2.heap.size := (Array.getElem?_eq_some_iff.1 hl).1
   have hc := chg_put W2 (w.heap.size + 1) (.loop { rec .ready none with state := .exhausted })
   have hend := run_endLoop (P := P) hl (by rw [hrec]; simp)
   have hpn : (rec .ready none).pending = none := by rw [hrec]
   refine ⟨none, W2.putObj (w.heap.size + 1) (.loop { rec .ready none with state := .exhausted }), hend.trans (congrArg (fun z => Result.ok z _) hpn), ?_⟩
   exact hdone _ _ (hI1 _ _ _ _ _ hi (by omega) hl rfl hc) (Nat.le_refl _) (hc.hp hk ⟨by omega, trivial⟩)
def noPanic (Q : Exit → Act → World → Prop) : Exit → Act → World → Prop
 | .panic _, _, _ => False
 | e, a, w => Q e a w
theorem noP {P : Program} {c : Code} {Q : Exit → Act → World → Prop} {a : Act} {w : World} (h : c.wp P (noPanic Q) a w) : c.wp P Q a w := wp_mono h fun e a w hq => by
 cases e with
 | panic _ => exact hq.elim
 | _ => exact hq
structure FromI (r : Option Nat) (P : Program) (ops : Array Oper) (Q : Exit → Act → World → Prop) (i : Nat) (a : Act) (w : World) : Prop where
 out : wpOpsIn (WF r) 0 P ops Q ((List.range ops.size).drop i) a w
section
variable {r : Option Nat} {P : Program} {ops : Array Oper} {Q : Exit → Act → World → Prop} {a : Act} {w w1 : World} {o : Oper}
end
section
variable {P : Program} {a : Act} {w : World} {o : Oper}
theorem run_callv (c : Operand) (f : FuncId) (lb : Array Value) (xs : List Operand) (ts : Array TypeId) (vals : List Value) (ho : o.op = .call { callee := .value c, args := xs.toArray, argTypes := ts }) (hc : a.eval c = .func (.func f) #[] lb) (hv : xs.map a.eval = vals)
  (hrun : (callFunc f (vals.toArray ++ lb)).run P w = .ok (.enter f (vals.toArray ++ lb)) w) : (execOp a.eval o).run P w = .ok (.enter f (vals.toArray ++ lb)) w := by
 obtain ⟨dst, op, ty, pos, after, guard⟩ := o
 simp only at ho
 subst ho
 unfold execOp
 simp only [resolve, hc]
 simp [go_sem, invoke, hv, hrun]
end
section
variable {r : Option Nat} {P : Program} {ops : Array Oper} {Q : Exit → Act → World → Prop} {a : Act} {w w1 : World} {o : Oper} {S : World → Prop}
theorem rCallV (i : Nat) (d : Option Tmp) (c : Operand) (f : FuncId) (lb : Array Value) (xs : List Operand) (ts : Array TypeId) (vals : List Value) (hi : ops[i]? = some o) (hd : o.dst = d) (hw : Region.wanted o (yielded ops a.tmps) = true)
  (ho : o.op = .call { callee := .value c, args := xs.toArray, argTypes := ts }) (hc : a.eval c = .func (.func f) #[] lb) (hv : xs.map a.eval = vals) (hrun : (callFunc f (vals.toArray ++ lb)).run P w = .ok (.enter f (vals.toArray ++ lb)) w)
  (hq : Calls P f (vals.toArray ++ lb) w fun e w' => ∃ v, e = .returned v ∧ From P ops Q (i + 1) (a.put d v) w') : From P ops Q i a w := by
 subst hd
 refine from_step hi ?_
 unfold wpOp
 simp only [hi]
 rw [if_pos hw]
 refine .inl ?_
 unfold Oper.wp
 rw [run_callv c f lb xs ts vals ho hc hv hrun, Oper.upon_enter]
 refine hq.mono ?_
 rintro e w' ⟨v, rfl, h1⟩
 exact h1
theorem ngR (h : Q .ret a w) : Exit.noGoto Q .ret a w := h
end
end Wk
namespace Mur
open Go Go.RowKit Wk Go.Lib
structure Att where
 k : List UInt8
 r : List UInt8
 t : List UInt8
 n : Int
 hk : k.length = 32
 hr : r.length = 32
 ht : t.length = 32
 hn : (Lit.int .i64 n).wf = true
def Att.C (x : Att) : List Value := attC x.k x.r x.n x.t
def Att.raw (x : Att) : List UInt8 := rawL x.k x.r x.n x.t
theorem Att.C_len (x : Att) : x.C.length = 97 := attC_length x.hk x.hr x.ht
theorem Att.C_one (x : Att) : ∀ v ∈ x.C, v.oneCell' = true := attC_one
theorem Att.eq_iff (x y : Att) : x = y ↔ x.k = y.k ∧ x.r = y.r ∧ x.n = y.n ∧ x.t = y.t := by
 cases x
 cases y
 simp only [Att.mk.injEq]
 constructor
 ·rintro ⟨h1, h2, h3, h4⟩
  exact ⟨h1, h2, h4, h3⟩
 ·rintro ⟨h1, h2, h3, h4⟩
  exact ⟨h1, h2, h4, h3⟩
theorem Att.raw_inj (x y : Att) : x.raw = y.raw ↔ x = y := (rawL_inj x.hk x.hr y.hk y.hr x.hn y.hn).trans (Att.eq_iff x y).symm
def rowA (L : List Att) : List Value := (L.map Att.C).flatten
theorem rowA_cons (x : Att) (L : List Att) : rowA (x :: L) = x.C ++ rowA L := by simp [rowA]
theorem rowA_one1 (x : Att) : rowA [x] = x.C := by simp [rowA]
theorem rowA_append (L M : List Att) : rowA (L ++ M) = rowA L ++ rowA M := by simp [rowA]
theorem rowA_len : ∀ L : List Att, (rowA L).length = L.length * 97
 | [] => rfl
 | x :: L => by rw [rowA_cons, List.length_append, rowA_len L, x.C_len, List.length_cons]; omega
theorem rowA_one (L : List Att) : ∀ v ∈ rowA L, v.oneCell' = true := by
 intro v hv
 simp only [rowA, List.mem_flatten, List.mem_map] at hv
 obtain ⟨l, ⟨x, _, rfl⟩, hv⟩ := hv
 exact x.C_one v hv
theorem rowA_take (L : List Att) (i : Nat) : rowA (L.take i) = (rowA L).take (i * 97) := by
 induction L generalizing i with
 | nil => simp [rowA]
 | cons x L ih =>
  cases i with
  | zero => simp [rowA]
  | succ i =>
   have h1 : x.C.take ((i + 1) * 97) = x.C := List.take_of_length_le (by rw [x.C_len]; omega)
   rw [List.take_succ_cons, rowA_cons, rowA_cons, ih, List.take_append, x.C_len, show (i + 1) * 97 - 97 = i * 97 by omega, h1]
theorem rowA_drop (L : List Att) (i : Nat) : rowA (L.drop i) = (rowA L).drop (i * 97) := by
 induction L generalizing i with
 | nil => simp [rowA]
 | cons x L ih =>
  cases i with
  | zero => simp
  | succ i =>
   have h1 : x.C.drop ((i + 1) * 97) = [] := List.drop_of_length_le (by rw [x.C_len]; omega)
   rw [List.drop_succ_cons, rowA_cons, ih, List.drop_append, x.C_len, show (i + 1) * 97 - 97 = i * 97 by omega, h1, List.nil_append]
theorem range_cut {w : World} {g off : Nat} {cs : List Value} (h : w.rangeAt g off cs) (k : Nat) (sub : List Value) (e : (cs.drop k).take sub.length = sub) : w.rangeAt g (off + k) sub := fun j v hv => by
 have hj := (List.getElem?_eq_some_iff.1 hv).1
 rw [← e, List.getElem?_take, if_pos (by omega), List.getElem?_drop] at hv
 rw [Nat.add_assoc]
 exact h (k + j) v hv
structure SlA (w : World) (A : Option Addr) (n : Nat) (L : List Att) : Prop where
 len : L.length = n
 sl : Sl w A n 97 (rowA L)
section
variable {w w' : World} {A : Option Addr} {n : Nat} {L : List Att}
theorem SlA.nil (w : World) (A : Option Addr) : SlA w A 0 [] := ⟨rfl, Sl.nil w A 97⟩
theorem SlA.chg {S : List Nat} (h : SlA w A n L) (c : Chg S w w') (ho : ∀ g off, A = some ⟨g, off, none⟩ → g < w.heap.size → Off g S) : SlA w' A n L := ⟨h.len, h.sl.chg c ho⟩
theorem SlA.keep {F : List Nat} (h : SlA w A n L) (c : Keep F w w') (ho : ∀ g off, A = some ⟨g, off, none⟩ → 0 < n → g ∈ F) : SlA w' A n L := ⟨h.len, h.sl.1, fun hn => by
 have hp : 0 < n := by
  rcases Nat.eq_zero_or_pos n with h0 | h0
  ·rw [List.eq_nil_of_length_eq_zero (h.len.trans h0)] at hn
   exact absurd rfl hn
  ·exact h0
 obtain ⟨g, off, e, hr⟩ := h.sl.2 hn
 exact ⟨g, off, e, c.range hr (ho g off e hp)⟩⟩
theorem rowA_ne (h : 0 < L.length) : rowA L ≠ [] := fun e => by
 have := rowA_len L
 rw [e] at this
 simp at this
 omega
theorem SlA.ex (h : SlA w A n L) (hn : 0 < n) : ∃ g off, A = some ⟨g, off, none⟩ ∧ w.rangeAt g off (rowA L) := h.sl.2 (rowA_ne (by rw [h.len]; exact hn))
theorem SlA.rng {g off : Nat} (h : SlA w (some ⟨g, off, none⟩) n L) : w.rangeAt g off (rowA L) := fun j v hv => by
 have hp : 0 < n := by
  rcases Nat.eq_zero_or_pos n with h0 | h0
  ·rw [List.eq_nil_of_length_eq_zero (h.len.trans h0)] at hv
   cases hv
  ·exact h0
 obtain ⟨g', off', e, hr⟩ := h.ex hp
 cases e
 exact hr j v hv
theorem SlA.elem {g off : Nat} (h : SlA w (some ⟨g, off, none⟩) n L) {i : Nat} {x : Att} (hx : L[i]? = some x) : w.rangeAt g (off + i * 97) (attC x.k x.r x.n x.t) := by
 refine range_cut h.rng (i * 97) _ ?_
 obtain ⟨hi, rfl⟩ := List.getElem?_eq_some_iff.1 hx
 have e : L.drop i = L[i] :: L.drop (i + 1) := List.drop_eq_getElem_cons hi
 rw [← rowA_drop, e, rowA_cons]
 show (L[i].C ++ _).take (L[i].C).length = _
 rw [List.take_left]
 rfl
theorem SlA.lt {g off : Nat} (h : SlA w (some ⟨g, off, none⟩) n L) (hn : 0 < n) : g < w.heap.size := by
 have hr := h.rng
 have hl := rowA_len L
 have := h.len
 exact World.block_lt_of_cell? w ⟨g, off + 0, none⟩ (hr 0 _ (List.getElem?_eq_getElem (by omega)))
theorem SlA.key {g off : Nat} (h : SlA w (some ⟨g, off, none⟩) n L) {i : Nat} {x : Att} (hx : L[i]? = some x) : w.rangeAt g (off + i * 97) (b8s x.k) := by
 have := range_cut (h.elem hx) 0 (b8s x.k) (by simp [attC])
 simpa using this
theorem slA_box {g : Nat} {T : TypeId} {fr : Nat × Nat} (x : Att) (h : w.heap[g]? = some (.cells (attC x.k x.r x.n x.t).toArray T fr)) : SlA w (some ⟨g, 0, none⟩) 1 [x] :=
 ⟨rfl, by rw [rowA_one1, x.C_len], fun _ => ⟨g, 0, rfl, by rw [rowA_one1]; exact range_row h⟩⟩
theorem SlA.pre {g off : Nat} (h : SlA w (some ⟨g, off, none⟩) n L) {k : Nat} (hk : k ≤ n) : SlA w (some ⟨g, off, none⟩) k (L.take k) := by
 have hl := h.len
 refine ⟨by rw [List.length_take]; omega, by rw [rowA_len, List.length_take]; omega, fun _ => ⟨g, off, rfl, ?_⟩⟩
 have e : (((rowA L).drop 0).take (rowA (L.take k)).length) = rowA (L.take k) := by
  rw [rowA_take, List.drop_zero, List.length_take, rowA_len, hl, Nat.min_eq_left (by omega)]
 have := range_cut h.rng 0 (rowA (L.take k)) e
 simpa using this
end
structure OwnA (w : World) (base e : Nat) (A : Option Addr) (n c : Nat) (L : List Att) : Prop where
 own : w.ownsRow base e 97 (.slice A n c) n (rowA L)
 nc : n ≤ c
 cm : c ≤ maxLen
 nil : A = none → c = 0
 sl : SlA w A n L
 at_ : ∀ g off, A = some ⟨g, off, none⟩ → off = 0 ∧ base ≤ g ∧ g < w.heap.size
 lt : ∀ k, (Value.slice A n c).ownBlock = some k → base ≤ k ∧ k < w.heap.size
section
variable {w w' : World} {base e n c : Nat} {A : Option Addr} {L : List Att}
theorem ownA (h : w.ownsRow base e 97 (.slice A n c) n (rowA L)) : OwnA w base e A n c L := by
 obtain ⟨A2, c2, e3, h1, h2, h4, h5, h6⟩ := own_sl h
 injection e3 with e3 _ e4
 subst e3 e4
 have hl : L.length = n := by
  have := h.1
  rw [rowA_len] at this
  omega
 refine ⟨h, h1, h2, h4, ⟨hl, h5⟩, fun g off eq => ⟨?_, h6 g off eq⟩, World.ownsRow.lt h⟩
 rcases h.2 with ⟨e0, _⟩ | ⟨g', cap, cur, e0, _⟩
 ·injection e0 with e1
  rw [eq] at e1
  cases e1
 ·injection e0 with e1
  rw [eq] at e1
  injection e1 with e1
  injection e1
theorem ownA_nil (w : World) (base e : Nat) : OwnA w base e none 0 0 [] := ownA ⟨rfl, .inl ⟨rfl, rfl⟩⟩
theorem OwnA.chg {S : List Nat} (h : OwnA w base e A n c L) (ch : Chg S w w') (ho : ∀ g, (Value.slice A n c).ownBlock = some g → base ≤ g → g < w.heap.size → Off g S) : OwnA w' base e A n c L := ownA (own_chg h.own ch ho)
theorem OwnA.ex (h : OwnA w base e A n c L) (hn : 0 < n) : ∃ g, A = some ⟨g, 0, none⟩ ∧ base ≤ g ∧ g < w.heap.size := by
 obtain ⟨g, rfl, _⟩ := own_some h.own hn
 exact ⟨g, rfl, (h.at_ g 0 rfl).2⟩
theorem OwnA.cur (h : OwnA w base e A n c L) : (A = none ∧ n = 0 ∧ c = 0) ∨ ∃ g cur, A = some ⟨g, 0, none⟩ ∧ base ≤ g ∧ w.heap[g]? = some (.cells cur e (0, 0)) ∧ cur.size = c * 97 ∧ cur.toList.take (n * 97) = rowA L := by
 rcases h.own.2 with ⟨e0, h2⟩ | ⟨g, cap, cur, e0, hb, hg, hnc, hcm, hcs, ht⟩
 ·injection e0 with e1 e2 e3
  exact .inl ⟨e1, h2, e3⟩
 ·injection e0 with e1 e2 e3
  subst e3
  exact .inr ⟨g, cur, e1, hb, hg, hcs, ht⟩
theorem OwnA.of {g : Nat} {cur : Array Value} (hb : base ≤ g) (hg : w.heap[g]? = some (.cells cur e (0, 0))) (hnc : n ≤ c) (hcm : c ≤ maxLen) (hcs : cur.size = c * 97) (ht : cur.toList.take (n * 97) = rowA L) (hl : L.length = n) : OwnA w base e (some ⟨g, 0, none⟩) n c L :=
 ownA ⟨by rw [rowA_len, hl], .inr ⟨g, c, cur, rfl, hb, hg, hnc, hcm, hcs, ht⟩⟩
theorem OwnA.cut (h : OwnA w base e A n c L) {k : Nat} (hk : k ≤ n) : OwnA w base e A k c (L.take k) := by
 rcases h.cur with ⟨rfl, rfl, rfl⟩ | ⟨g, cur, rfl, hb, hg, hcs, ht⟩
 ·obtain rfl : k = 0 := by omega
  simpa using ownA_nil w base e
 ·have hl := h.sl.len
  refine OwnA.of hb hg (Nat.le_trans hk h.nc) h.cm hcs ?_ (by rw [List.length_take]; omega)
  rw [rowA_take, ← ht, List.take_take, Nat.min_eq_left (by omega)]
end
section
variable {P : Program} {w : World} {a : Act} {o : Oper}
theorem appendA (s x : Operand) (t e : TypeId) (ho : o.op = .call { callee := .builtin .append, args := #[s, x], argTypes := #[t, t] }) (ht : P.underlying t = some (.slice e)) (hinfo : (P.info? e).map (fun i => (i.zero, i.size, i.bytes)) = some (some (.agg (attC z32 z32 0 z32).toArray), 97, 104))
  (base : Nat) (A0 : Option Addr) (n c0 : Nat) (xs : List Att) (A : Option Addr) (m c : Nat) (ys : List Att) (hs : a.eval s = .slice A0 n c0) (hx : a.eval x = .slice A m c) (HO : OwnA w base e A0 n c0 xs) (HR : SlA w A m ys) (hA : A = none → c = 0)
  (hbase : base ≤ w.heap.size) (hl : n + m ≤ 1000000) (k : Nat) (hk : n + m = k) (zs : List Att) (hz : xs ++ ys = zs) :
  ∃ v1 w1, (execOp a.eval o).run P w = .ok (.value v1) w1 ∧ ∃ A1 c1, v1 = .slice A1 k c1 ∧ OwnA w1 base e A1 k c1 zs ∧ Chg (blk (.slice A0 n c0)) w w1 ∧ (∀ q, (Value.slice A1 k c1).ownBlock = some q → (Value.slice A0 n c0).ownBlock = some q ∨ q = w.heap.size) := by
 subst hk hz
 obtain ⟨v1, w1, h1, h2, h3, h4⟩ := append_run (P := P) s x t e ho ht (.agg (attC z32 z32 0 z32).toArray) 97 104 hinfo (attC_size rfl rfl rfl) (by omega) base (.slice A0 n c0) n (rowA xs) A m c (rowA ys) hs hx HO.own HR.sl hA (rowA_one ys) hbase (by unfold maxLen; omega) (by omega)
 rw [← rowA_append] at h2
 obtain ⟨A1, c1, rfl, _⟩ := own_sl h2
 refine ⟨_, w1, h1, A1, c1, rfl, ownA h2, h3, fun q hq => ?_⟩
 rcases h4 with h4 | h4
 ·exact .inl (h4 ▸ hq)
 ·rw [h4] at hq
  exact .inr (Option.some.inj hq).symm
end
end Mur
namespace Mur
open Go Go.RowKit Go.Lib
instance attDec : DecidableEq Att := fun x y => decidable_of_iff (x.raw = y.raw) (Att.raw_inj x y)
def Att.lt (x y : Att) : Prop := compareBytes x.raw y.raw < 0
instance attLt (x y : Att) : Decidable (x.lt y) := by unfold Att.lt; infer_instance
theorem Att.lt_irrefl (x : Att) : ¬ x.lt x := by unfold Att.lt; rw [cmp_self]; omega
theorem Att.lt_trans {x y z : Att} (h : x.lt y) (k : y.lt z) : x.lt z := cmp_trans _ _ _ h k
theorem Att.lt_asymm {x y : Att} (h : x.lt y) : ¬ y.lt x := fun k => x.lt_irrefl (Att.lt_trans h k)
theorem Att.lt_or (x y : Att) : x.lt y ∨ x = y ∨ y.lt x := by
 unfold Att.lt
 have h1 := cmp_flip x.raw y.raw
 have h2 := cmp_zero x.raw y.raw
 rcases Int.lt_trichotomy (compareBytes x.raw y.raw) 0 with h | h | h
 ·exact .inl h
 ·exact .inr (.inl ((Att.raw_inj x y).1 (h2 h)))
 ·exact .inr (.inr (by omega))
def Sorted (L : List Att) : Prop := L.Pairwise Att.lt
theorem Sorted.lt {L : List Att} (h : Sorted L) {i j : Nat} {x y : Att} (hi : L[i]? = some x) (hj : L[j]? = some y) (hij : i < j) : x.lt y := by
 obtain ⟨h1, rfl⟩ := List.getElem?_eq_some_iff.1 hi
 obtain ⟨h2, rfl⟩ := List.getElem?_eq_some_iff.1 hj
 exact List.pairwise_iff_getElem.1 h i j h1 h2 hij
theorem Sorted.take {L : List Att} (h : Sorted L) (k : Nat) : Sorted (L.take k) := List.Pairwise.sublist (List.take_sublist k L) h
theorem Sorted.filter {L : List Att} (h : Sorted L) (p : Att → Bool) : Sorted (L.filter p) := List.Pairwise.sublist List.filter_sublist h
def pos (x : Att) (L : List Att) : Nat := (L.takeWhile fun y => decide (y.lt x)).length
theorem pos_le (x : Att) (L : List Att) : pos x L ≤ L.length := (List.takeWhile_sublist _).length_le
theorem pos_lt {x : Att} : ∀ {L : List Att}, Sorted L → ∀ {i : Nat} {y : Att}, L[i]? = some y → (y.lt x ↔ i < pos x L)
 | [], _, _, _, hy => by simp at hy
 | z :: L, h, i, y, hy => by
  have h1 := List.pairwise_cons.1 h
  unfold pos
  rw [List.takeWhile_cons]
  by_cases hz : z.lt x
  ·rw [decide_eq_true hz]
   simp only [if_true, List.length_cons]
   cases i with
   | zero =>
    simp at hy
    subst hy
    simp [hz]
   | succ i =>
    have := pos_lt h1.2 (i := i) (y := y) (x := x) (by simpa using hy)
    unfold pos at this
    rw [this]
    omega
  ·rw [decide_eq_false hz]
   simp
   cases i with
   | zero =>
    simp at hy
    subst hy
    exact hz
   | succ i =>
    intro hyx
    have hm : y ∈ L := List.mem_of_getElem? (i := i) (by simpa using hy)
    exact hz (Att.lt_trans (h1.1 y hm) hyx)
def ins (x : Att) (L : List Att) : List Att := L.take (pos x L) ++ x :: L.drop (pos x L)
theorem ins_length (x : Att) (L : List Att) : (ins x L).length = L.length + 1 := by
 have := pos_le x L
 simp only [ins, List.length_append, List.length_cons, List.length_take, List.length_drop]
 omega
theorem mem_ins {x y : Att} {L : List Att} : y ∈ ins x L ↔ y = x ∨ y ∈ L := by
 have h := List.take_append_drop (pos x L) L
 constructor
 ·intro hy
  rcases List.mem_append.1 hy with h1 | h1
  ·exact .inr (List.mem_of_mem_take h1)
  ·rcases List.mem_cons.1 h1 with h1 | h1
   ·exact .inl h1
   ·exact .inr (List.mem_of_mem_drop h1)
 ·rintro (rfl | hy)
  ·exact List.mem_append_right _ (List.mem_cons_self)
  ·rw [← h] at hy
   rcases List.mem_append.1 hy with h1 | h1
   ·exact List.mem_append_left _ h1
   ·exact List.mem_append_right _ (List.mem_cons_of_mem _ h1)
theorem ins_sorted {x : Att} {L : List Att} (h : Sorted L) (hx : x ∉ L) : Sorted (ins x L) := by
 have h0 : Sorted (L.take (pos x L) ++ L.drop (pos x L)) := by rw [List.take_append_drop]; exact h
 obtain ⟨h1, h2, h3⟩ := List.pairwise_append.1 h0
 have ha : ∀ a, a ∈ L.take (pos x L) → a.lt x := fun a ha => by
  obtain ⟨i, hi, rfl⟩ := List.getElem_of_mem ha
  rw [List.length_take] at hi
  rw [List.getElem_take]
  exact (pos_lt h (List.getElem?_eq_getElem (by omega))).2 (by omega)
 have hb : ∀ b, b ∈ L.drop (pos x L) → x.lt b := fun b hb => by
  have hm := List.mem_of_mem_drop hb
  obtain ⟨i, hi, rfl⟩ := List.getElem_of_mem hb
  rw [List.length_drop] at hi
  rw [List.getElem_drop] at hm ⊢
  have h4 := pos_lt h (x := x) (List.getElem?_eq_getElem (i := pos x L + i) (by omega))
  rcases x.lt_or (L[pos x L + i]'(by omega)) with h5 | h5 | h5
  ·exact h5
  ·rw [← h5] at hm
   exact absurd hm hx
  ·exact absurd (h4.1 h5) (by omega)
 exact List.pairwise_append.2 ⟨h1, List.pairwise_cons.2 ⟨hb, h2⟩, fun a h4 b h5 => by
  rcases List.mem_cons.1 h5 with rfl | h5
  ·exact ha a h4
  ·exact h3 a h4 b h5⟩
def addS (x : Att) (L : List Att) : List Att × Int := if may x.n then (if x ∈ L then (L, 7) else if pos x L = 200 then (L, 8) else ((ins x L).take 200, 0)) else (L, 2)
theorem addS_may {x : Att} {L : List Att} (h : ¬ may x.n) : addS x L = (L, 2) := by unfold addS; rw [if_neg h]
theorem addS_twice {x : Att} {L : List Att} (h : may x.n) (k : x ∈ L) : addS x L = (L, 7) := by unfold addS; rw [if_pos h, if_pos k]
theorem addS_full {x : Att} {L : List Att} (h : may x.n) (k : x ∉ L) (f : pos x L = 200) : addS x L = (L, 8) := by unfold addS; rw [if_pos h, if_neg k, if_pos f]
theorem addS_ok {x : Att} {L : List Att} (h : may x.n) (k : x ∉ L) (f : pos x L ≠ 200) : addS x L = ((ins x L).take 200, 0) := by unfold addS; rw [if_pos h, if_neg k, if_neg f]
structure Canon (X : Att → Prop) (L : List Att) : Prop where
 srt : Sorted L
 len : L.length ≤ 200
 sub : ∀ y, y ∈ L → X y ∧ may y.n
 out : ∀ y, X y → may y.n → y ∉ L → L.length = 200 ∧ ∀ z, z ∈ L → z.lt y
theorem Canon.nil : Canon (fun _ => False) [] := ⟨List.Pairwise.nil, by simp, fun y h => by simp at h, fun y h => h.elim⟩
theorem Canon.add {X : Att → Prop} {L : List Att} (h : Canon X L) (x : Att) : Canon (fun y => y = x ∨ X y) (addS x L).1 := by
 have hlen := h.len
 have hple := pos_le x L
 by_cases hm : may x.n
 ·by_cases hx : x ∈ L
  ·rw [addS_twice hm hx]
   exact ⟨h.srt, h.len, fun y hy => ⟨.inr (h.sub y hy).1, (h.sub y hy).2⟩, fun y hy hy2 hn => by
    rcases hy with rfl | hy
    ·exact absurd hx hn
    ·exact h.out y hy hy2 hn⟩
  ·by_cases hf : pos x L = 200
   ·rw [addS_full hm hx hf]
    exact ⟨h.srt, h.len, fun y hy => ⟨.inr (h.sub y hy).1, (h.sub y hy).2⟩, fun y hy hy2 hn => by
     rcases hy with rfl | hy
     ·refine ⟨by show L.length = 200; omega, fun z hz => ?_⟩
      obtain ⟨i, hi, rfl⟩ := List.getElem_of_mem hz
      have hi' : i < L.length := hi
      exact (pos_lt h.srt (List.getElem?_eq_getElem hi)).2 (by omega)
     ·exact h.out y hy hy2 hn⟩
   ·rw [addS_ok hm hx hf]
    have hs := ins_sorted h.srt hx
    have hil := ins_length x L
    refine ⟨hs.take 200, by rw [List.length_take]; omega, fun y hy => ?_, fun y hy hy2 hn => ?_⟩
    ·rcases mem_ins.1 (List.mem_of_mem_take hy) with rfl | h1
     ·exact ⟨.inl rfl, hm⟩
     ·exact ⟨.inr (h.sub y h1).1, (h.sub y h1).2⟩
    ·by_cases hi : y ∈ ins x L
     ·obtain ⟨j, hj, rfl⟩ := List.getElem_of_mem hi
      have hj2 : ¬ j < 200 := fun q => hn (by
       have : ((ins x L).take 200)[j]? = some (ins x L)[j] := by rw [List.getElem?_take, if_pos q]; exact List.getElem?_eq_getElem hj
       exact List.mem_of_getElem? this)
      refine ⟨by rw [List.length_take]; omega, fun z hz => ?_⟩
      obtain ⟨i, hi2, rfl⟩ := List.getElem_of_mem hz
      rw [List.length_take] at hi2
      rw [List.getElem_take]
      exact hs.lt (List.getElem?_eq_getElem (by omega)) (List.getElem?_eq_getElem hj) (by omega)
     ·have hyx : y ≠ x := fun e => hi (mem_ins.2 (.inl e))
      have hyl : y ∉ L := fun e => hi (mem_ins.2 (.inr e))
      obtain ⟨h1, h2⟩ := h.out y (hy.resolve_left hyx) hy2 hyl
      refine ⟨by rw [List.length_take]; omega, fun z hz => ?_⟩
      rcases mem_ins.1 (List.mem_of_mem_take hz) with rfl | h3
      ·have hu : L[pos z L]? = some (L[pos z L]'(by omega)) := List.getElem?_eq_getElem (by omega)
       have hum : (L[pos z L]'(by omega)) ∈ L := List.getElem_mem _
       have h4 := pos_lt h.srt hu (x := z)
       rcases z.lt_or (L[pos z L]'(by omega)) with h5 | h5 | h5
       ·exact Att.lt_trans h5 (h2 _ hum)
       ·rw [← h5] at hum
        exact absurd hum hx
       ·exact absurd (h4.1 h5) (by omega)
      ·exact h2 z h3
 ·rw [addS_may hm]
  exact ⟨h.srt, h.len, fun y hy => ⟨.inr (h.sub y hy).1, (h.sub y hy).2⟩, fun y hy hy2 hn => by
   rcases hy with rfl | hy
   ·exact absurd hy2 hm
   ·exact h.out y hy hy2 hn⟩
theorem Sorted.nodup {L : List Att} (h : Sorted L) : L.Nodup := List.Pairwise.imp (fun {a b} hab e => by subst e; exact a.lt_irrefl hab) h
theorem Sorted.ext : ∀ {L M : List Att}, Sorted L → Sorted M → (∀ y, y ∈ L ↔ y ∈ M) → L = M
 | [], [], _, _, _ => rfl
 | [], y :: M, _, _, e => by have := (e y).2 (by simp); simp at this
 | x :: L, [], _, _, e => by have := (e x).1 (by simp); simp at this
 | x :: L, y :: M, h, k, e => by
  obtain ⟨h1, h2⟩ := List.pairwise_cons.1 h
  obtain ⟨k1, k2⟩ := List.pairwise_cons.1 k
  have hxy : x = y := by
   rcases List.mem_cons.1 ((e x).1 (by simp)) with h3 | h3
   ·exact h3
   ·rcases List.mem_cons.1 ((e y).2 (by simp)) with h4 | h4
    ·exact h4.symm
    ·exact absurd (k1 x h3) (Att.lt_asymm (h1 y h4))
  subst hxy
  rw [Sorted.ext h2 k2 fun z => ?_]
  constructor
  ·intro hz
   rcases List.mem_cons.1 ((e z).1 (List.mem_cons_of_mem _ hz)) with rfl | h3
   ·exact absurd (h1 z hz) z.lt_irrefl
   ·exact h3
  ·intro hz
   rcases List.mem_cons.1 ((e z).2 (List.mem_cons_of_mem _ hz)) with rfl | h3
   ·exact absurd (k1 z hz) z.lt_irrefl
   ·exact h3
theorem nodup_le : ∀ {L M : List Att}, L.Nodup → (∀ y, y ∈ L → y ∈ M) → L.length ≤ M.length
 | [], _, _, _ => by simp
 | x :: L, M, h, hs => by
  obtain ⟨h1, h2⟩ := List.nodup_cons.1 h
  have hx : x ∈ M := hs x (by simp)
  have := nodup_le (M := M.erase x) h2 fun y hy => (List.mem_erase_of_ne (fun (e : y = x) => h1 (by rw [← e]; exact hy))).2 (hs y (List.mem_cons_of_mem _ hy))
  rw [List.length_erase_of_mem hx] at this
  have hp : 0 < M.length := List.length_pos_of_mem hx
  simp only [List.length_cons]
  omega
def nib (k : List UInt8) (i : Nat) : UInt8 := if i % 2 = 0 then k.getD (i / 2) 0 >>> 4 else k.getD (i / 2) 0 &&& 15
def under (p k : List UInt8) : Bool := (List.range p.length).all fun i => nib k i == p.getD i 0
def isPre (p : List UInt8) : Bool := p.all (fun x => decide (x ≤ 15)) && decide (p.length ≤ 8)
def belowL (p : List UInt8) (L : List Att) : List Att := if isPre p then L.filter (fun x => under p x.k) else []
theorem belowL_no {p : List UInt8} {L : List Att} (h : isPre p = false) : belowL p L = [] := by unfold belowL; rw [h]; rfl
theorem belowL_ok {p : List UInt8} {L : List Att} (h : isPre p = true) : belowL p L = L.filter (fun x => under p x.k) := by unfold belowL; rw [h]; rfl
theorem under_iff {p k : List UInt8} : under p k = true ↔ ∀ i, i < p.length → nib k i = p.getD i 0 := by
 unfold under
 rw [List.all_eq_true]
 constructor
 ·intro h i hi
  have := h i (List.mem_range.2 hi)
  exact beq_iff_eq.1 this
 ·intro h i hi
  exact beq_iff_eq.2 (h i (List.mem_range.1 hi))
theorem under_false {p k : List UInt8} {i : Nat} (hi : i < p.length) (h : nib k i ≠ p.getD i 0) : under p k = false := by
 cases hu : under p k
 ·rfl
 ·exact absurd (under_iff.1 hu i hi) h
theorem pre_len {p : List UInt8} (h : isPre p = true) : p.length ≤ 8 := by
 unfold isPre at h
 simp only [Bool.and_eq_true, decide_eq_true_eq] at h
 exact h.2
end Mur
namespace Mur
open Go Go.RowKit Wk Go.Lib
section
variable {P : Program} {w : World} {a : Act} {o : Oper}
theorem quo_nat (t ty : TypeId) (x y : Operand) (ho : o.op = .binOp .quo t x y ty) (i n : Nat) (hx : a.eval x = .int .i64 ((i : Nat) : Int)) (hy : a.eval y = .int .i64 ((n : Nat) : Int)) (hn : 0 < n) (hi : i ≤ 9223372036854775807) :
  (execOp a.eval o).run P w = .ok (.value (.int .i64 ((i / n : Nat) : Int))) w := by
 have hne : ¬ n = 0 := by omega
 have h1 : Int.tdiv (i : Int) (n : Int) = ((i / n : Nat) : Int) := by
  rw [Int.tdiv_eq_ediv_of_nonneg (by omega)]
  exact_mod_cast rfl
 have hlt : i / n ≤ i := Nat.div_le_self i n
 have h2 : IntKind.i64.wrap ((i / n : Nat) : Int) = ((i / n : Nat) : Int) := IntWalk.i64_in _ ⟨by have := Int.natCast_nonneg (i / n); omega, by have : ((i / n : Nat) : Int) ≤ (i : Int) := Int.ofNat_le.2 hlt; omega⟩
 unfold execOp
 simp only [ho, hx, hy]
 simp only [eqGuard, binOp]
 simp [Op.intDiv, hne, h1]
 first | done | exact_mod_cast h2
theorem bits_and_u8 (a b : UInt8) : bits .and .u8 ((a.toNat : Nat) : Int) ((b.toNat : Nat) : Int) = (((a &&& b).toNat : Nat) : Int) := by
 show IntKind.u8.wrap ((BitVec.ofInt 8 ((a.toNat : Nat) : Int) &&& BitVec.ofInt 8 ((b.toNat : Nat) : Int)).toNat : Int) = _
 rw [BitVec.ofInt_natCast, BitVec.ofInt_natCast, UInt8.toNat, BitVec.ofNat_toNat, BitVec.setWidth_eq, UInt8.toNat, BitVec.ofNat_toNat, BitVec.setWidth_eq]
 show ((((a &&& b).toNat : Nat) : Int)) % 256 = _
 have := (a &&& b).toNat_lt
 omega
theorem and8_15 (t ty : TypeId) (x y : Operand) (ho : o.op = .binOp .and t x y ty) (b : UInt8) (hx : a.eval x = .int .u8 ((b.toNat : Nat) : Int)) (hy : a.eval y = .int .u8 15) : (execOp a.eval o).run P w = .ok (.value (.int .u8 (((b &&& 15).toNat : Nat) : Int))) w := by
 have key : (binOp .and t (.int .u8 ((b.toNat : Nat) : Int)) (.int .u8 15)).run P w = .ok (.int .u8 (bits .and .u8 ((b.toNat : Nat) : Int) (((15 : UInt8).toNat : Nat) : Int))) w := rfl
 have hg : (eqGuard .and t x y (.int .u8 ((b.toNat : Nat) : Int)) (.int .u8 15)).run P w = .ok () w := rfl
 rw [bits_and_u8] at key
 unfold execOp
 simp only [ho, hx, hy]
 simp only [Sem.run_bind, Sem.run_pure, hg, Result.andThen_ok, key]
theorem build1 (t e : TypeId) (x : Operand) (ho : o.op = .buildSlice t 1 #[(0, x)]) (ht : P.underlying t = some (.slice e)) (hinfo : (P.info? e).map (fun i => (i.zero, i.size, i.bytes)) = some (some (.agg (attC z32 z32 0 z32).toArray), 97, 104))
  (k r tt : List UInt8) (n : Int) (hk : k.length = 32) (hr : r.length = 32) (htt : tt.length = 32) (hx : a.eval x = .agg (attC k r n tt).toArray) :
  ∃ v w1, (execOp a.eval o).run P w = .ok (.value v) w1 ∧ v = .slice (some ⟨w.heap.size, 0, none⟩) 1 1 ∧ w1.heap[w.heap.size]? = some (.cells (attC k r n tt).toArray e (0, 0)) ∧ Chg [] w w1 ∧ w.heap.size < w1.heap.size := by
 obtain ⟨i0, hi, hzz⟩ := Option.map_eq_some_iff.1 hinfo
 simp only [Prod.mk.injEq] at hzz
 obtain ⟨hz0, hz1, hz2⟩ := hzz
 have hfill : ∀ Z : Array Value, Z.size = 97 → Instr.fill (fun i => some (i * 97, 97)) Z [(0, .agg (attC k r n tt).toArray)] = some (attC k r n tt).toArray := by
  intro Z hZ
  have hl := attC_length (n := n) hk hr htt
  have := fill_part (place := fun i => some (i * 97, 97)) (L := Z.toList) (vs := attC k r n tt) (v := .agg (attC k r n tt).toArray) (i := 0) (off := 0) (size := 97) (rest := []) (R := some (attC k r n tt).toArray) (by simp) rfl hl (by rw [Array.length_toList, hZ]; omega) (by
   have e : splice Z.toList 0 (attC k r n tt) = attC k r n tt := by
    unfold splice
    rw [hl, List.drop_of_length_le (by rw [Array.length_toList, hZ]; omega)]
    simp
   rw [e]
   rfl)
  simpa using this
 have hrun : (Instr.buildSlice t 1 [(0, Value.agg (attC k r n tt).toArray)].toArray).run P w = .ok (.slice (some ⟨w.heap.size, 0, none⟩) 1 1) (w.alloc (.cells (attC k r n tt).toArray e)) := by
  have hf := hfill ((Array.range (1 * 97)).map ((Value.agg (attC z32 z32 0 z32).toArray).cells[· % 97]!)) (by rw [Array.size_map, Array.size_range])
  have hs : (Value.agg (attC z32 z32 0 z32).toArray).cells.size = 97 := attC_size rfl rfl rfl
  unfold Instr.buildSlice
  simp [run_underlying ht, Go.sizeOf, typeInfo, zeroValue, hi, hz0, hz1, hs]
  simp at hf
  rw [hf]
  rfl
 refine ⟨_, _, ?_, rfl, heap_alloc_new w _, Chg.alloc w _, by simp⟩
 unfold execOp
 simp only [ho, List.map_toArray, List.map_cons, List.map_nil, hx]
 simp only [Sem.run_bind, hrun, Result.andThen_ok, Sem.run_pure]
end
theorem all15 {l : List UInt8} {n : Nat} (hl : l.length = n) (h : ∀ j, j < n → l.getD j 0 ≤ 15) : (l.all fun x => decide (x ≤ 15)) = true := by
 rw [List.all_eq_true]
 intro x hx
 obtain ⟨j, hj, rfl⟩ := List.getElem_of_mem hx
 have := h j (by omega)
 rw [List.getD_eq_getElem?_getD, List.getElem?_eq_getElem hj] at this
 exact decide_eq_true this
theorem some15 {l : List UInt8} {n i : Nat} (hl : l.length = n) (hi : i < n) (h : 15 < l.getD i 0) : (l.all fun x => decide (x ≤ 15)) = false := by
 cases hq : (l.all fun x => decide (x ≤ 15))
 ·rfl
 ·rw [List.all_eq_true] at hq
  have h1 : l.getD i 0 = l[i] := by rw [List.getD_eq_getElem?_getD, List.getElem?_eq_getElem (by omega)]; rfl
  have := of_decide_eq_true (hq (l[i]'(by omega)) (List.getElem_mem _))
  rw [h1] at h
  exact absurd h (UInt8.not_lt.2 this)
end Mur
namespace Mur
open Go Go.RowKit Wk
structure SetA (e T lo : Nat) (w : World) (g : Nat) (L : List Att) (A : Option Addr) (n c : Nat) : Prop where
 hp : w.heap[g]? = some (.cells #[.slice A n c] T (0, 0))
 own : OwnA w lo e A n c L
 ne : ∀ q, (Value.slice A n c).ownBlock = some q → q ≠ g
 lo_ : lo ≤ g
 srt : Sorted L
 len : L.length ≤ 200
 ok : ∀ y, y ∈ L → may y.n
def SetF (e T lo : Nat) (w : World) (g : Nat) (L : List Att) (F : List Nat) : Prop := ∃ A n c, SetA e T lo w g L A n c ∧ F = g :: blk (.slice A n c)
section
variable {e T lo : Nat} {w w' : World} {g : Nat} {L : List Att} {F : List Nat} {A : Option Addr} {n c : Nat}
theorem blk_mem {v : Value} {s : Nat} (h : s ∈ blk v) : v.ownBlock = some s := by
 unfold blk at h
 split at h
 ·rename_i q hq
  rw [List.mem_singleton.1 h]
  exact hq
 ·simp at h
theorem SetF.srt (h : SetF e T lo w g L F) : Sorted L := let ⟨_, _, _, k, _⟩ := h; k.srt
theorem SetF.len (h : SetF e T lo w g L F) : L.length ≤ 200 := let ⟨_, _, _, k, _⟩ := h; k.len
theorem SetF.ok (h : SetF e T lo w g L F) : ∀ y, y ∈ L → may y.n := let ⟨_, _, _, k, _⟩ := h; k.ok
theorem SetF.mem (h : SetF e T lo w g L F) : ∀ s, s ∈ F → lo ≤ s ∧ s < w.heap.size := by
 obtain ⟨A, n, c, k, rfl⟩ := h
 intro s hs
 rcases List.mem_cons.1 hs with rfl | hs
 ·exact ⟨k.lo_, (Array.getElem?_eq_some_iff.1 k.hp).1⟩
 ·exact k.own.lt s (blk_mem hs)
theorem SetA.chg {S : List Nat} (h : SetA e T lo w g L A n c) (ch : Chg S w w') (ho : ∀ s, s ∈ g :: blk (.slice A n c) → Off s S) : SetA e T lo w' g L A n c :=
 ⟨ch.hp h.hp (ho g (by simp)), h.own.chg ch fun q hq _ _ => ho q (List.mem_cons_of_mem _ (mem_blk hq)), h.ne, h.lo_, h.srt, h.len, h.ok⟩
theorem SetF.chg {S : List Nat} (h : SetF e T lo w g L F) (ch : Chg S w w') (ho : ∀ s, s ∈ F → Off s S) : SetF e T lo w' g L F := by
 obtain ⟨A, n, c, k, rfl⟩ := h
 exact ⟨A, n, c, k.chg ch ho, rfl⟩
theorem SetF.keep (h : SetF e T lo w g L F) (k : Keep F w w') : SetF e T lo w' g L F := by
 obtain ⟨A, n, c, h, rfl⟩ := h
 refine ⟨A, n, c, ⟨k.hp h.hp (by simp), ?_, h.ne, h.lo_, h.srt, h.len, h.ok⟩, rfl⟩
 rcases h.own.cur with ⟨rfl, rfl, rfl⟩ | ⟨q, cur, rfl, hb, hg, hcs, ht⟩
 ·have := List.eq_nil_of_length_eq_zero h.own.sl.len
  subst this
  exact ownA_nil _ _ _
 ·exact OwnA.of hb (k.hp hg (by simp [blk, Value.ownBlock])) h.own.nc h.own.cm hcs ht h.own.sl.len
end
end Mur
namespace Mur
open Go Go.RowKit Wk
section
variable {w w' : World} {base e n c : Nat} {A : Option Addr} {L : List Att}
theorem OwnA.isCells (h : OwnA w base e A n c L) {s : Nat} (hs : s ∈ blk (.slice A n c)) : ∃ o : Obj, w.heap[s]? = some o ∧ o.isCells = true := by
 have hq := blk_mem hs
 rcases h.cur with ⟨rfl, rfl, rfl⟩ | ⟨g, cur, rfl, hb, hg, hcs, ht⟩
 ·cases hq
 ·have : g = s := by simpa [Value.ownBlock] using hq
  subst this
  exact ⟨_, hg, rfl⟩
theorem SetA.keep {T lo g : Nat} {F : List Nat} (h : SetA e T lo w g L A n c) (k : Keep F w w') (hF : ∀ s, s ∈ g :: blk (.slice A n c) → s ∈ F) : SetA e T lo w' g L A n c := by
 refine ⟨k.hp h.hp (hF g (by simp)), ?_, h.ne, h.lo_, h.srt, h.len, h.ok⟩
 rcases h.own.cur with ⟨rfl, rfl, rfl⟩ | ⟨q, cur, rfl, hb, hg, hcs, ht⟩
 ·have := List.eq_nil_of_length_eq_zero h.own.sl.len
  subst this
  exact ownA_nil _ _ _
 ·exact OwnA.of hb (k.hp hg (hF q (by simp [blk, Value.ownBlock]))) h.own.nc h.own.cm hcs ht h.own.sl.len
def pblk (A : Option Addr) (n : Nat) : List Nat := if n = 0 then [] else match A with
 | some a => [a.block]
 | none => []
theorem pblk_mem {q off : Nat} (h : A = some ⟨q, off, none⟩) (hn : 0 < n) : q ∈ pblk A n := by
 subst h
 unfold pblk
 rw [if_neg (by omega)]
 simp
theorem byt_keep {F : List Nat} {l : List UInt8} (h : Byt w A n l) (k : Keep F w w') (hF : ∀ s, s ∈ pblk A n → s ∈ F) : Byt w' A n l := ⟨h.1, fun hn => by
 obtain ⟨g, off, rfl, hc⟩ := h.2 hn
 exact ⟨g, off, rfl, fun j hj => k.cell (hc j hj) (hF g (pblk_mem rfl hn))⟩⟩
end
theorem filter_next {L : List Att} {k : Nat} {x : Att} (f : Att → Bool) (hx : L[k]? = some x) : (L.take (k + 1)).filter f = (L.take k).filter f ++ if f x then [x] else [] := by
 obtain ⟨hk, rfl⟩ := List.getElem?_eq_some_iff.1 hx
 rw [List.take_succ_eq_append_getElem hk, List.filter_append]
 congr 1
 rw [List.filter_cons]
 rfl
theorem filter_yes {L : List Att} {k : Nat} {x : Att} {f : Att → Bool} (hx : L[k]? = some x) (h : f x = true) : (L.take (k + 1)).filter f = (L.take k).filter f ++ [x] := by rw [filter_next f hx, h]; rfl
theorem filter_no {L : List Att} {k : Nat} {x : Att} {f : Att → Bool} (hx : L[k]? = some x) (h : f x = false) : (L.take (k + 1)).filter f = (L.take k).filter f := by rw [filter_next f hx, h]; simp
theorem under_all {p k : List UInt8} {n j : Nat} (hl : p.length = n) (hj : n ≤ j) (h : ∀ i, i < j → nib k i = p.getD i 0) : under p k = true := under_iff.2 fun i hi => h i (by omega)
theorem nib_step {p k : List UInt8} {j : Nat} (h : ∀ i, i < j → nib k i = p.getD i 0) (e : nib k j = p.getD j 0) : ∀ i, i < j + 1 → nib k i = p.getD i 0 := fun i hi => by
 rcases Nat.lt_or_ge i j with h1 | h1
 ·exact h i h1
 ·obtain rfl : i = j := by omega
  exact e
theorem u8_cast_inj {a b : UInt8} (h : ((a.toNat : Nat) : Int) = ((b.toNat : Nat) : Int)) : a = b := UInt8.toNat_inj.1 (by omega)
def rowL (M : List Att) : List UInt8 := 32 :: (M.map Att.raw).flatten
end Mur
namespace Mur
open Go Go.RowKit Go.Lib
theorem u8_shr4 (a : UInt8) : (a >>> 4).toNat = a.toNat / 16 := by
 rw [UInt8.toNat_shiftRight]
 show a.toNat >>> 4 = _
 rw [Nat.shiftRight_eq_div_pow]
theorem u8_and15 (a : UInt8) : (a &&& 15).toNat = a.toNat % 16 := by
 rw [UInt8.toNat_and]
 exact Nat.and_two_pow_sub_one_eq_mod a.toNat 4
section
variable {P : Program} {w w' : World} {a : Act} {o : Oper}
end
end Mur
namespace Mur
open Go Go.RowKit Wk
structure PSeg (w : World) (lo : Nat) (no : Option Nat) (s : Seg) (x : Att) : Prop where
 n : s.n = 104
 l : s.l = x.raw
 nc : 104 ≤ s.c
 cm : s.c ≤ maxLen
 at_ : ∃ q, s.A = some ⟨q, 0, none⟩ ∧ lo ≤ q ∧ q < w.heap.size ∧ no ≠ some q
 byt : Byt w s.A 104 s.l
def PSegs (w : World) (lo : Nat) (no : Option Nat) : List Seg → List Att → Prop
 | [], [] => True
 | s :: S, x :: X => PSeg w lo no s x ∧ PSegs w lo no S X
 | _, _ => False
theorem cell_isCells {w : World} {g o : Nat} {v : Value} (h : w.cell? ⟨g, o, none⟩ = some v) : ∃ o : Obj, w.heap[g]? = some o ∧ o.isCells = true := by
 unfold World.cell? at h
 cases ho : w.heap[g]? with
 | none => simp [ho] at h
 | some x => exact ⟨x, rfl, by cases x <;> simp_all [Obj.isCells]⟩
section
variable {w w' : World} {lo : Nat} {no no' : Option Nat} {S : List Seg} {X : List Att}
theorem PSegs.length (h : PSegs w lo no S X) : S.length = X.length := by
 induction S generalizing X with
 | nil => cases X with
  | nil => rfl
  | cons x X => exact h.elim
 | cons s S ih => cases X with
  | nil => exact h.elim
  | cons x X => simp only [List.length_cons, ih h.2]
theorem PSeg.imp {s : Seg} {x : Att} {T : List Nat} (h : PSeg w lo no s x) (c : Chg T w w') (ho : ∀ q, lo ≤ q → q < w.heap.size → no ≠ some q → (∃ o : Obj, w.heap[q]? = some o ∧ o.isCells = true) → Off q T ∧ no' ≠ some q) : PSeg w' lo no' s x := by
 obtain ⟨q, hq, h1, h2, h3⟩ := h.at_
 have hb := h.byt
 have hc : ∃ o : Obj, w.heap[q]? = some o ∧ o.isCells = true := by
  rw [hq] at hb
  exact cell_isCells (byt_cell hb 0 (by omega))
 obtain ⟨h4, h5⟩ := ho q h1 h2 h3 hc
 have hsz := c.size
 exact ⟨h.n, h.l, h.nc, h.cm, ⟨q, hq, h1, by omega, h5⟩, byt_chg hb c fun g off e _ => by rw [hq] at e; cases e; exact h4⟩
theorem PSegs.imp {T : List Nat} (c : Chg T w w') (ho : ∀ q, lo ≤ q → q < w.heap.size → no ≠ some q → (∃ o : Obj, w.heap[q]? = some o ∧ o.isCells = true) → Off q T ∧ no' ≠ some q) (h : PSegs w lo no S X) : PSegs w' lo no' S X := by
 induction S generalizing X with
 | nil => cases X with
  | nil => trivial
  | cons x X => exact h.elim
 | cons s S ih => cases X with
  | nil => exact h.elim
  | cons x X => exact ⟨h.1.imp c ho, ih h.2⟩
theorem PSegs.snoc {s : Seg} {x : Att} (hs : PSeg w lo no s x) (h : PSegs w lo no S X) : PSegs w lo no (S ++ [s]) (X ++ [x]) := by
 induction S generalizing X with
 | nil => cases X with
  | nil => exact ⟨hs, trivial⟩
  | cons x X => exact h.elim
 | cons s S ih => cases X with
  | nil => exact h.elim
  | cons x X => exact ⟨h.1, ih h.2⟩
theorem PSegs.ok (h : PSegs w lo no S X) : ∀ s, s ∈ S → SegOk w s := by
 induction S generalizing X with
 | nil => exact fun s hs => by cases hs
 | cons t S ih => cases X with
  | nil => exact h.elim
  | cons x X =>
   intro s hs
   rcases List.mem_cons.1 hs with rfl | hs
   ·obtain ⟨q, hq, _⟩ := h.1.at_
    exact ⟨by rw [h.1.n]; exact h.1.nc, (fun e => by rw [hq] at e; cases e), (by rw [h.1.n]; exact h.1.byt), h.1.cm⟩
   ·exact ih h.2 s hs
theorem PSegs.flat (h : PSegs w lo no S X) : Mur.flat S = (X.map Att.raw).flatten := by
 induction S generalizing X with
 | nil => cases X with
  | nil => rfl
  | cons x X => exact h.elim
 | cons s S ih => cases X with
  | nil => exact h.elim
  | cons x X =>
   have := ih h.2
   show s.l ++ Mur.flat S = _
   rw [this, h.1.l]
   rfl
end
def PartsA (w : World) (base lo e : Nat) (A : Option Addr) (n c : Nat) (M : List Att) : Prop := ∃ S : List Seg, w.ownsRow base e 1 (.slice A n c) n (S.map Seg.v) ∧ PSegs w lo (Value.slice A n c).ownBlock S M
section
variable {w w' : World} {base lo e n c : Nat} {A : Option Addr} {M : List Att}
theorem PartsA.len (h : PartsA w base lo e A n c M) : M.length = n := by
 obtain ⟨S, h1, h2⟩ := h
 have := h1.1
 rw [List.length_map, h2.length] at this
 omega
theorem PartsA.nc (h : PartsA w base lo e A n c M) : n ≤ c ∧ c ≤ maxLen ∧ (A = none → c = 0) := by
 obtain ⟨S, h1, h2⟩ := h
 obtain ⟨A', c', e1, k1, k2, k3, _⟩ := own_sl h1
 injection e1 with e1 _ e2
 subst e1 e2
 exact ⟨k1, k2, k3⟩
theorem PartsA.lt (h : PartsA w base lo e A n c M) : ∀ k, (Value.slice A n c).ownBlock = some k → base ≤ k ∧ k < w.heap.size := let ⟨_, h1, _⟩ := h; World.ownsRow.lt h1
theorem PartsA.cells (h : PartsA w base lo e A n c M) {k : Nat} (hk : (Value.slice A n c).ownBlock = some k) : ∃ o : Obj, w.heap[k]? = some o ∧ o.isCells = true := by
 obtain ⟨S, h1, h2⟩ := h
 rcases h1.2 with ⟨e0, _⟩ | ⟨g, cap, cur, e0, _, hg, _⟩
 ·injection e0 with e1
  subst e1
  cases hk
 ·injection e0 with e1
  subst e1
  have : g = k := by simpa [Value.ownBlock] using hk
  subst this
  exact ⟨_, hg, rfl⟩
theorem PartsA.chg {T : List Nat} (h : PartsA w base lo e A n c M) (ch : Chg T w w') (hlo : lo ≤ base) (ho : ∀ q, lo ≤ q → q < w.heap.size → (∃ o : Obj, w.heap[q]? = some o ∧ o.isCells = true) → Off q T) : PartsA w' base lo e A n c M := by
 have hc := fun k hk => h.cells (k := k) hk
 obtain ⟨S, h1, h2⟩ := h
 exact ⟨S, own_chg h1 ch fun g hg k1 k2 => ho g (by omega) k2 (hc g hg), PSegs.imp ch (fun q k1 k2 k3 k4 => ⟨ho q k1 k2 k4, k3⟩) h2⟩
end
section
variable {P : Program} {w : World} {a : Act} {o : Oper}
end
def sumL (p : List UInt8) (L : List Att) : List UInt8 := if isPre p then sha (rowL (belowL p L)) else z32
end Mur
namespace Go.Proofs.YtgbadghjnpbiaaaGreatDoor
open Mur (attC z32)
end Go.Proofs.YtgbadghjnpbiaaaGreatDoor
namespace Mur
open Go Go.RowKit Go.Lib
structure Msg where
 kind : UInt8
 pre : List UInt8
 sum : List UInt8
 cnt : Int
 items : List Att
 ans : Bool
def mayM (m : Msg) : Prop := isPre m.pre = true ∧ 0 ≤ m.cnt ∧ m.cnt ≤ 200 ∧ m.items.length ≤ 8 ∧ ((m.kind = 1 ∧ m.items = [] ∧ m.ans = false) ∨ (m.kind = 2 ∧ (∀ x, x ∈ m.items → may x.n ∧ under m.pre x.k = true) ∧ Sorted m.items ∧ m.sum = z32 ∧ m.cnt = 0))
def cntL (p : List UInt8) (L : List Att) : Nat := (belowL p L).length
def chunks (l : List Att) : List (List Att) := (List.range ((l.length + 7) / 8)).map fun i => (l.drop (8 * i)).take 8
-- chunks
-- counts
end Mur
namespace Mur
open Go Go.RowKit
theorem nat_wf {V : Nat} (h : V ≤ 5000) : (Lit.int .i64 ((V : Nat) : Int)).wf = true := by
 have h3 : IntKind.i64.min = -9223372036854775808 := by decide
 have h4 : IntKind.i64.max = 9223372036854775807 := by decide
 simp only [Lit.wf, h3, h4, Bool.and_eq_true, decide_eq_true_eq]
 omega
def attOf (c : List UInt8) (hc : c.length = 104) (hV : be8 ((c.take 72).drop 64) ≤ 5000) : Att where
 k := (c.take 32).drop 0
 r := (c.take 64).drop 32
 t := (c.take 104).drop 72
 n := ((be8 ((c.take 72).drop 64) : Nat) : Int)
 hk := sub_len hc (by omega) rfl
 hr := sub_len hc (by omega) rfl
 ht := sub_len hc (by omega) rfl
 hn := nat_wf hV
def readA : Prs Att := fun b => if hc : (b.take 104).length = 104 then (if hV : 1 ≤ be8 (((b.take 104).take 72).drop 64) ∧ be8 (((b.take 104).take 72).drop 64) ≤ 5000 then some (attOf (b.take 104) hc hV.2, b.drop 104) else none) else none
theorem att_ext {x y : Att} (hk : x.k = y.k) (hr : x.r = y.r) (ht : x.t = y.t) (hn : x.n = y.n) : x = y := (Att.eq_iff x y).2 ⟨hk, hr, hn, ht⟩
theorem att_raw_len (x : Att) : x.raw.length = 104 := raw_len x.hk x.hr x.ht
theorem codecA : Codec Att.raw (fun x => may x.n) readA := by
 refine ⟨fun x r hx => ?_, fun b x r hb => ?_⟩
 ·have hl := att_raw_len x
  have e1 : (x.raw ++ r).take 104 = x.raw := List.take_left' hl
  have e2 : (x.raw ++ r).drop 104 = r := List.drop_left' hl
  have e3 : be8 ((x.raw.take 72).drop 64) = u64n x.n := by
   show be8 (((rawL x.k x.r x.n x.t).take 72).drop 64) = _
   rw [raw_e x.hk x.hr, e8_be' _ (u64n_lt _)]
  have hm := may_u64 hx
  have hV : 1 ≤ be8 ((x.raw.take 72).drop 64) ∧ be8 ((x.raw.take 72).drop 64) ≤ 5000 := by
   rw [e3]
   unfold may at hx
   omega
  unfold readA
  simp only [e1, e2]
  rw [dif_pos hl, dif_pos hV]
  congr 2
  refine att_ext (raw_k x.hk) (raw_r x.hk x.hr) (raw_t x.hk x.hr x.ht) ?_
  show ((be8 ((x.raw.take 72).drop 64) : Nat) : Int) = x.n
  rw [e3]
  exact hm.2
 ·unfold readA at hb
  split at hb
  ·rename_i hc
   split at hb
   ·rename_i hV
    cases hb
    refine ⟨?_, ?_⟩
    ·have h1 := raw_back hc rfl rfl rfl rfl rfl hV.2
     show b = rawL _ _ _ _ ++ _
     exact (List.take_append_drop 104 b).symm.trans (congrArg (· ++ b.drop 104) h1.symm)
    ·show 1 ≤ ((be8 (((b.take 104).take 72).drop 64) : Nat) : Int) ∧ ((be8 (((b.take 104).take 72).drop 64) : Nat) : Int) ≤ 5000
     omega
   ·cases hb
  ·cases hb
structure Upd where
 node : Nat
 st : Nat
 inc : Nat
def encU (u : Upd) : List UInt8 := formN u.node ++ (formN u.st ++ formN u.inc)
def readU : Prs Upd := fun b => (pSeq readI (pSeq readK readN) b).map fun y => (⟨y.1.1, y.1.2.1, y.1.2.2⟩, y.2)
theorem codecU : Codec encU (fun u => u.node ≤ 2 ^ 30 ∧ u.st ≤ 255 ∧ u.inc < 2 ^ 64) readU :=
 (codecI.seq (codecK.seq codecN)).iso (fun y => (⟨y.1, y.2.1, y.2.2⟩ : Upd)) (fun u : Upd => (u.node, u.st, u.inc)) (fun _ hu => ⟨hu, rfl⟩) fun _ hx => ⟨hx, rfl⟩
inductive Cont
 | probe (kind seq about : Nat) (l : List Upd)
 | sum (pre d : List UInt8) (cnt : Nat)
 | items (kind : Nat) (pre : List UInt8) (l : List Att) (ans : Bool)
 | claim (key : List UInt8) (inc cnt : Nat) (gone : Bool)
 | result (a : Att)
 | want (root : List UInt8) (chunk : Nat)
 | chunk (root : List UInt8) (chunk : Nat) (byt : List UInt8) (prf : List (List UInt8))
def Cont.kind : Cont → Nat
 | .probe .. => 1
 | .sum .. => 2
 | .items .. => 2
 | .claim .. => 3
 | .result .. => 4
 | .want .. => 5
 | .chunk .. => 6
def encC : Cont → List UInt8
 | .probe k s a l => formN k ++ (formN s ++ (formN a ++ (formN l.length ++ (l.map encU).flatten)))
 | .sum p d n => formN 1 ++ ((formN p.length ++ p) ++ (d ++ formN n))
 | .items k p l a => formN k ++ ((formN p.length ++ p) ++ ((formN l.length ++ (l.map Att.raw).flatten) ++ formN (flagN a)))
 | .claim k i n g => k ++ (formN i ++ (formN n ++ formN (flagN g)))
 | .result a => a.raw
 | .want r c => r ++ formN c
 | .chunk r c b p => r ++ (formN c ++ ((formN b.length ++ b) ++ (formN p.length ++ (p.map fun x => x).flatten)))
def domC : Cont → Prop
 | .probe k s a l => k ≤ 255 ∧ s < 2 ^ 64 ∧ a ≤ 2 ^ 30 ∧ l.length ≤ 2 ^ 30 ∧ ∀ u, u ∈ l → u.node ≤ 2 ^ 30 ∧ u.st ≤ 255 ∧ u.inc < 2 ^ 64
 | .sum p d n => p.length < 2 ^ 64 ∧ d.length = 32 ∧ n ≤ 2 ^ 30
 | .items k p l _ => (k ≤ 255 ∧ k ≠ 1) ∧ p.length < 2 ^ 64 ∧ (l.length ≤ 2 ^ 30 ∧ ∀ x, x ∈ l → may x.n)
 | .claim k i n _ => k.length = 32 ∧ i < 2 ^ 64 ∧ n < 2 ^ 64
 | .result a => may a.n
 | .want r c => r.length = 32 ∧ c ≤ 2 ^ 30
 | .chunk r c b p => r.length = 32 ∧ c ≤ 2 ^ 30 ∧ b.length < 2 ^ 64 ∧ (p.length ≤ 2 ^ 30 ∧ ∀ x, x ∈ p → x.length = 32)
def readPr : Prs Cont := fun b => (pSeq readK (pSeq readN (pSeq readI (readL readU))) b).map fun y => (.probe y.1.1 y.1.2.1 y.1.2.2.1 y.1.2.2.2, y.2)
def readSm : Prs Cont := fun b => (pSeq readB (pSeq (readS 32) readI) b).map fun y => (.sum y.1.1 y.1.2.1 y.1.2.2, y.2)
def readIt (k : Nat) : Prs Cont := fun b => (pSeq readB (pSeq (readL readA) readFlag) b).map fun y => (.items k y.1.1 y.1.2.1 y.1.2.2, y.2)
def readGo : Prs Cont := fun b => (readK b).bind fun y => if y.1 = 1 then readSm y.2 else readIt y.1 y.2
def readCl : Prs Cont := fun b => (pSeq (readS 32) (pSeq readN (pSeq readN readFlag)) b).map fun y => (.claim y.1.1 y.1.2.1 y.1.2.2.1 y.1.2.2.2, y.2)
def readRe : Prs Cont := fun b => (readA b).map fun y => (.result y.1, y.2)
def readWa : Prs Cont := fun b => (pSeq (readS 32) readI b).map fun y => (.want y.1.1 y.1.2, y.2)
def readCh : Prs Cont := fun b => (pSeq (readS 32) (pSeq readI (pSeq readB (readL (readS 32)))) b).map fun y => (.chunk y.1.1 y.1.2.1 y.1.2.2.1 y.1.2.2.2, y.2)
def readC (k : Nat) : Prs Cont := if k = 1 then readPr else if k = 2 then readGo else if k = 3 then readCl else if k = 4 then readRe else if k = 5 then readWa else if k = 6 then readCh else fun _ => none
theorem map_rt {α : Type} {enc : α → List UInt8} {dom : α → Prop} {p : Prs α} (h : Codec enc dom p) (f : α → Cont) {x : α} (hx : dom x) (r : List UInt8) : (p (enc x ++ r)).map (fun y => (f y.1, y.2)) = some (f x, r) := by
 rw [h.rt x r hx]
 rfl
theorem map_un {α : Type} {enc : α → List UInt8} {dom : α → Prop} {p : Prs α} (h : Codec enc dom p) {f : α → Cont} {b r : List UInt8} {c : Cont} (hb : (p b).map (fun y => (f y.1, y.2)) = some (c, r)) : ∃ x, c = f x ∧ b = enc x ++ r ∧ dom x := by
 obtain ⟨⟨x, r1⟩, h1, h2⟩ := Option.map_eq_some_iff.1 hb
 simp only [Prod.mk.injEq] at h2
 obtain ⟨rfl, rfl⟩ := h2
 obtain ⟨e1, d1⟩ := h.un b x r1 h1
 exact ⟨x, rfl, e1, d1⟩
theorem readC_rt {c : Cont} (hc : domC c) (r : List UInt8) : readC c.kind (encC c ++ r) = some (c, r) := by
 cases c with
 | probe k s a l => exact map_rt (codecK.seq (codecN.seq (codecI.seq (codecL codecU)))) (fun y => .probe y.1 y.2.1 y.2.2.1 y.2.2.2) (x := (k, s, a, l)) hc r
 | sum p d n =>
  show readGo (formN 1 ++ _ ++ r) = _
  unfold readGo
  rw [List.append_assoc, codecK.rt 1 _ (by decide), Option.bind_some, if_pos rfl]
  exact map_rt (codecB.seq ((codecS 32).seq codecI)) (fun y => .sum y.1 y.2.1 y.2.2) (x := (p, d, n)) hc r
 | items k p l a =>
  show readGo (formN k ++ _ ++ r) = _
  unfold readGo
  rw [List.append_assoc, codecK.rt k _ hc.1.1, Option.bind_some, if_neg hc.1.2]
  exact map_rt (codecB.seq ((codecL codecA).seq codecFlag)) (fun y => .items k y.1 y.2.1 y.2.2) (x := (p, l, a)) ⟨hc.2.1, hc.2.2, trivial⟩ r
 | claim k i n g => exact map_rt ((codecS 32).seq (codecN.seq (codecN.seq codecFlag))) (fun y => .claim y.1 y.2.1 y.2.2.1 y.2.2.2) (x := (k, i, n, g)) ⟨hc.1, hc.2.1, hc.2.2, trivial⟩ r
 | result a => exact map_rt codecA (fun y => .result y) (x := a) hc r
 | want x c => exact map_rt ((codecS 32).seq codecI) (fun y => .want y.1 y.2) (x := (x, c)) hc r
 | chunk x c b p => exact map_rt ((codecS 32).seq (codecI.seq (codecB.seq (codecL (codecS 32))))) (fun y => .chunk y.1 y.2.1 y.2.2.1 y.2.2.2) (x := (x, c, b, p)) hc r
theorem readC_un {k : Nat} {b r : List UInt8} {c : Cont} (h : readC k b = some (c, r)) : c.kind = k ∧ b = encC c ++ r ∧ domC c := by
 unfold readC at h
 split at h
 ·obtain ⟨x, rfl, e, d⟩ := map_un (codecK.seq (codecN.seq (codecI.seq (codecL codecU)))) (f := fun y => .probe y.1 y.2.1 y.2.2.1 y.2.2.2) h
  exact ⟨by simp [Cont.kind, *], e, d⟩
 split at h
 ·unfold readGo at h
  obtain ⟨⟨k1, r1⟩, h1, h2⟩ := Option.bind_eq_some_iff.1 h
  obtain ⟨e1, d1⟩ := codecK.un b k1 r1 h1
  split at h2
  ·rename_i hk
   simp only at hk
   obtain ⟨x, rfl, e, d⟩ := map_un (codecB.seq ((codecS 32).seq codecI)) (f := fun y => .sum y.1 y.2.1 y.2.2) h2
   refine ⟨by simp [Cont.kind, *], ?_, d⟩
   show b = formN 1 ++ _ ++ r
   rw [e1, hk, List.append_assoc]
   exact congrArg _ e
  ·rename_i hk
   obtain ⟨x, rfl, e, d⟩ := map_un (codecB.seq ((codecL codecA).seq codecFlag)) (f := fun y => .items k1 y.1 y.2.1 y.2.2) h2
   refine ⟨by simp [Cont.kind, *], ?_, ⟨d1, hk⟩, d.1, d.2.1⟩
   show b = formN k1 ++ _ ++ r
   rw [e1, List.append_assoc]
   exact congrArg _ e
 split at h
 ·obtain ⟨x, rfl, e, d⟩ := map_un ((codecS 32).seq (codecN.seq (codecN.seq codecFlag))) (f := fun y => .claim y.1 y.2.1 y.2.2.1 y.2.2.2) h
  exact ⟨by simp [Cont.kind, *], e, d.1, d.2.1, d.2.2.1⟩
 split at h
 ·obtain ⟨x, rfl, e, d⟩ := map_un codecA (f := fun y => .result y) h
  exact ⟨by simp [Cont.kind, *], e, d⟩
 split at h
 ·obtain ⟨x, rfl, e, d⟩ := map_un ((codecS 32).seq codecI) (f := fun y => .want y.1 y.2) h
  exact ⟨by simp [Cont.kind, *], e, d⟩
 split at h
 ·obtain ⟨x, rfl, e, d⟩ := map_un ((codecS 32).seq (codecI.seq (codecB.seq (codecL (codecS 32))))) (f := fun y => .chunk y.1 y.2.1 y.2.2.1 y.2.2.2) h
  exact ⟨by simp [Cont.kind, *], e, d⟩
 ·cases h
structure Fra where
 frm : Nat
 dst : Nat
 con : Cont
def bodyF (f : Fra) : List UInt8 := formN f.con.kind ++ (formN f.frm ++ (formN f.dst ++ encC f.con))
def readF : Prs Fra := fun b => (pSeq readK (pSeq readI readI) b).bind fun y => (readC y.1.1 y.2).map fun z => (⟨y.1.2.1, y.1.2.2, z.1⟩, z.2)
theorem codecF : Codec bodyF (fun f => f.frm ≤ 2 ^ 30 ∧ f.dst ≤ 2 ^ 30 ∧ domC f.con) readF := by
 refine ⟨fun f r hf => ?_, fun b f r hb => ?_⟩
 ·have hk : f.con.kind ≤ 255 := by cases f.con <;> simp [Cont.kind]
  have h1 := (codecK.seq (codecI.seq codecI)).rt (f.con.kind, f.frm, f.dst) (encC f.con ++ r) ⟨hk, hf.1, hf.2.1⟩
  unfold readF bodyF
  simp only [List.append_assoc] at h1 ⊢
  rw [h1, Option.bind_some, readC_rt hf.2.2]
  rfl
 ·unfold readF at hb
  obtain ⟨⟨⟨k, a, d⟩, r1⟩, h1, h2⟩ := Option.bind_eq_some_iff.1 hb
  obtain ⟨⟨c, r2⟩, h3, h4⟩ := Option.map_eq_some_iff.1 h2
  simp only [Prod.mk.injEq] at h4
  obtain ⟨rfl, rfl⟩ := h4
  obtain ⟨e1, d1⟩ := (codecK.seq (codecI.seq codecI)).un b (k, a, d) r1 h1
  obtain ⟨hk, e2, d2⟩ := readC_un h3
  refine ⟨?_, d1.2.1, d1.2.2, d2⟩
  unfold bodyF
  rw [e1, hk]
  simp only at e2 ⊢
  rw [e2]
  simp only [List.append_assoc]
end Mur
namespace Mur
open Go Go.RowKit
structure Frm where
 kind : UInt8
 frm : Int
 dst : Int
 pTo : Int
 pKind : UInt8
 pSeq : Nat
 pAbout : Int
 pUpd : List (Int × UInt8 × Nat)
 gos : Msg
 cKey : List UInt8
 cNode : Int
 cInc : Nat
 cCnt : Nat
 cGone : Bool
 att : Att
 root : List UInt8
 chunk : Int
 byt : List UInt8
 prf : List (List UInt8)
def msgNone : Msg := ⟨0, [], z32, 0, [], false⟩
def attNone : Att := ⟨z32, z32, z32, 0, rfl, rfl, rfl, by decide⟩
def headM (k : UInt8) (a b : Int) : Frm := ⟨k, a, b, 0, 0, 0, 0, [], msgNone, z32, 0, 0, 0, false, attNone, z32, 0, [], []⟩
def bareM (f : Frm) : Frm :=
 if f.kind = 1 then { headM f.kind f.frm f.dst with pTo := f.pTo, pKind := f.pKind, pSeq := f.pSeq, pAbout := f.pAbout, pUpd := f.pUpd }
 else if f.kind = 2 then { headM f.kind f.frm f.dst with gos := f.gos }
 else if f.kind = 3 then { headM f.kind f.frm f.dst with cKey := f.cKey, cNode := f.cNode, cInc := f.cInc, cCnt := f.cCnt, cGone := f.cGone }
 else if f.kind = 4 then { headM f.kind f.frm f.dst with att := f.att }
 else if f.kind = 5 then { headM f.kind f.frm f.dst with root := f.root, chunk := f.chunk }
 else if f.kind = 6 then { headM f.kind f.frm f.dst with root := f.root, chunk := f.chunk, byt := f.byt, prf := f.prf }
 else headM f.kind f.frm f.dst
def nodeM (n : Int) : Prop := 0 ≤ n ∧ n < 16
def mayFM (f : Frm) : Prop := nodeM f.frm ∧ nodeM f.dst ∧ f.frm ≠ f.dst ∧ f = bareM f ∧
 ((f.kind = 1 ∧ f.pTo = f.dst ∧ (1 ≤ f.pKind.toNat ∧ f.pKind.toNat ≤ 3) ∧ nodeM f.pAbout ∧ f.pUpd.length ≤ 8 ∧ ∀ u, u ∈ f.pUpd → nodeM u.1 ∧ (1 ≤ u.2.1.toNat ∧ u.2.1.toNat ≤ 3) ∧ u.2.2 ≤ 2 ^ 40) ∨
  (f.kind = 2 ∧ mayM f.gos) ∨ (f.kind = 3 ∧ f.cNode = f.frm ∧ f.cInc ≤ 2 ^ 40 ∧ f.cCnt ≤ 2 ^ 40) ∨ (f.kind = 4 ∧ may f.att.n) ∨ (f.kind = 5 ∧ 0 ≤ f.chunk ∧ f.chunk < 100) ∨
  (f.kind = 6 ∧ (0 ≤ f.chunk ∧ f.chunk < 100) ∧ f.byt.length ≤ 64 ∧ f.prf.length ≤ 10))
def ofCon (a b : Nat) : Cont → Frm
 | .probe k s m l => { headM 1 a b with pTo := b, pKind := UInt8.ofNat k, pSeq := s, pAbout := m, pUpd := l.map fun u => (((u.node : Nat) : Int), UInt8.ofNat u.st, u.inc) }
 | .sum p d n => { headM 2 a b with gos := ⟨1, p, d, n, [], false⟩ }
 | .items k p l s => { headM 2 a b with gos := ⟨UInt8.ofNat k, p, z32, 0, l, s⟩ }
 | .claim k i n g => { headM 3 a b with cKey := k, cNode := a, cInc := i, cCnt := n, cGone := g }
 | .result x => { headM 4 a b with att := x }
 | .want r c => { headM 5 a b with root := r, chunk := c }
 | .chunk r c y p => { headM 6 a b with root := r, chunk := c, byt := y, prf := p }
def ofFra (x : Fra) : Frm := ofCon x.frm x.dst x.con
def conM (f : Frm) : Cont :=
 if f.kind = 1 then .probe f.pKind.toNat f.pSeq f.pAbout.toNat (f.pUpd.map fun u => ⟨u.1.toNat, u.2.1.toNat, u.2.2⟩)
 else if f.kind = 2 then (if f.gos.kind = 1 then .sum f.gos.pre f.gos.sum f.gos.cnt.toNat else .items f.gos.kind.toNat f.gos.pre f.gos.items f.gos.ans)
 else if f.kind = 3 then .claim f.cKey f.cInc f.cCnt f.cGone
 else if f.kind = 4 then .result f.att
 else if f.kind = 5 then .want f.root f.chunk.toNat
 else .chunk f.root f.chunk.toNat f.byt f.prf
def fraM (f : Frm) : Fra := ⟨f.frm.toNat, f.dst.toNat, conM f⟩
structure FrmOk (f : Frm) : Prop where
 seq : f.pSeq < 2 ^ 64
 inc : f.cInc < 2 ^ 64
 cnt : f.cCnt < 2 ^ 64
 upd : ∀ u, u ∈ f.pUpd → u.2.2 < 2 ^ 64
 sum : f.gos.sum.length = 32
 key : f.cKey.length = 32
 root : f.root.length = 32
 prf : ∀ x, x ∈ f.prf → x.length = 32
theorem u8_back (x : UInt8) : UInt8.ofNat x.toNat = x := by simp
theorem of_may {f : Frm} (h : mayFM f) : ofFra (fraM f) = f := by
 rcases f with ⟨kind, frm, dst, pTo, pKind, pSeq, pAbout, pUpd, gos, cKey, cNode, cInc, cCnt, cGone, att, root, chunk, byt, prf⟩
 obtain ⟨⟨a1, _⟩, ⟨b1, _⟩, _, he, hk⟩ := h
 simp only at a1 b1 hk
 have ea : ((frm.toNat : Nat) : Int) = frm := Int.toNat_of_nonneg a1
 have eb : ((dst.toNat : Nat) : Int) = dst := Int.toNat_of_nonneg b1
 rcases hk with ⟨k, hto, _, hab, _, hu⟩ | ⟨k, hm⟩ | ⟨k, hn, _⟩ | ⟨k, _⟩ | ⟨k, hc, _⟩ | ⟨k, ⟨hc, _⟩, _⟩
 ·subst k
  have hl : (pUpd.map fun u => (⟨u.1.toNat, u.2.1.toNat, u.2.2⟩ : Upd)).map (fun u => (((u.node : Nat) : Int), UInt8.ofNat u.st, u.inc)) = pUpd := by
   rw [List.map_map]
   refine (List.map_congr_left fun u hu' => ?_).trans (List.map_id _)
   show (((u.1.toNat : Nat) : Int), UInt8.ofNat u.2.1.toNat, u.2.2) = u
   rw [u8_back, Int.toNat_of_nonneg (hu u hu').1.1]
  have hx : ((pAbout.toNat : Nat) : Int) = pAbout := Int.toNat_of_nonneg hab.1
  refine Eq.trans ?_ he.symm
  show ofCon frm.toNat dst.toNat (.probe pKind.toNat pSeq pAbout.toNat (pUpd.map fun u => ⟨u.1.toNat, u.2.1.toNat, u.2.2⟩)) = _
  simp only [ofCon, hl, hx, ea, eb, u8_back, hto]
  rfl
 ·subst k
  obtain ⟨gk, gp, gs, gn, gi, ga⟩ := gos
  obtain ⟨_, g0, _, _, hg⟩ := hm
  refine Eq.trans ?_ he.symm
  rcases hg with ⟨rfl, hi, hs⟩ | ⟨rfl, _, _, hz, hc⟩
  ·simp only at hi hs g0
   subst hi hs
   show ofCon frm.toNat dst.toNat (.sum gp gs gn.toNat) = _
   simp only [ofCon, ea, eb, Int.toNat_of_nonneg g0]
   rfl
  ·simp only at hz hc
   subst hz hc
   show ofCon frm.toNat dst.toNat (.items 2 gp gi ga) = _
   simp only [ofCon, ea, eb]
   rfl
 ·subst k
  refine Eq.trans ?_ he.symm
  show ofCon frm.toNat dst.toNat (.claim cKey cInc cCnt cGone) = _
  simp only [ofCon, ea, eb, hn]
  rfl
 ·subst k
  refine Eq.trans ?_ he.symm
  show ofCon frm.toNat dst.toNat (.result att) = _
  simp only [ofCon, ea, eb]
  rfl
 ·subst k
  refine Eq.trans ?_ he.symm
  show ofCon frm.toNat dst.toNat (.want root chunk.toNat) = _
  simp only [ofCon, ea, eb, Int.toNat_of_nonneg hc]
  rfl
 ·subst k
  refine Eq.trans ?_ he.symm
  show ofCon frm.toNat dst.toNat (.chunk root chunk.toNat byt prf) = _
  simp only [ofCon, ea, eb, Int.toNat_of_nonneg hc]
  rfl
theorem dom_may {f : Frm} (h : mayFM f) (o : FrmOk f) : (fraM f).frm ≤ 2 ^ 30 ∧ (fraM f).dst ≤ 2 ^ 30 ∧ domC (fraM f).con := by
 obtain ⟨⟨a1, a2⟩, ⟨b1, b2⟩, _, _, hk⟩ := h
 refine ⟨show f.frm.toNat ≤ 2 ^ 30 by omega, show f.dst.toNat ≤ 2 ^ 30 by omega, ?_⟩
 show domC (conM f)
 unfold conM
 rcases hk with ⟨k, _, hpk, hab, hl, hu⟩ | ⟨k, hm⟩ | ⟨k, _⟩ | ⟨k, hr⟩ | ⟨k, hc, hc2⟩ | ⟨k, ⟨hc, hc2⟩, hb, hp⟩
 ·rw [if_pos k]
  refine ⟨by omega, o.seq, ?_, ?_, fun u hu' => ?_⟩
  ·have := hab.2
   omega
  ·rw [List.length_map]
   omega
  ·obtain ⟨v, hv, rfl⟩ := List.mem_map.1 hu'
   obtain ⟨⟨_, q1⟩, ⟨_, q2⟩, _⟩ := hu v hv
   exact ⟨show v.1.toNat ≤ 2 ^ 30 by omega, show v.2.1.toNat ≤ 255 by omega, o.upd v hv⟩
 ·rw [if_neg (by rw [k]; decide), if_pos k]
  obtain ⟨hp, g0, g2, hi8, hg⟩ := hm
  have hpl := pre_len hp
  split
  ·exact ⟨by omega, o.sum, by omega⟩
  ·rename_i hk1
   refine ⟨⟨?_, fun e => hk1 (UInt8.toNat_inj.1 e)⟩, by omega, by omega, fun x hx => ?_⟩
   ·have := f.gos.kind.toNat_lt
    omega
   ·rcases hg with ⟨e, _⟩ | ⟨_, hx2, _⟩
    ·exact absurd e hk1
    ·exact (hx2 x hx).1
 ·rw [if_neg (by rw [k]; decide), if_neg (by rw [k]; decide), if_pos k]
  exact ⟨o.key, o.inc, o.cnt⟩
 ·rw [if_neg (by rw [k]; decide), if_neg (by rw [k]; decide), if_neg (by rw [k]; decide), if_pos k]
  exact hr
 ·rw [if_neg (by rw [k]; decide), if_neg (by rw [k]; decide), if_neg (by rw [k]; decide), if_neg (by rw [k]; decide), if_pos k]
  exact ⟨o.root, by omega⟩
 ·rw [if_neg (by rw [k]; decide), if_neg (by rw [k]; decide), if_neg (by rw [k]; decide), if_neg (by rw [k]; decide), if_neg (by rw [k]; decide)]
  exact ⟨o.root, by omega, by omega, by omega, o.prf⟩
theorem fra_of {x : Fra} (d : x.frm ≤ 2 ^ 30 ∧ x.dst ≤ 2 ^ 30 ∧ domC x.con) (h : mayFM (ofFra x)) : fraM (ofFra x) = x := by
 obtain ⟨a, b, c⟩ := x
 obtain ⟨_, _, d⟩ := d
 have u8 : ∀ k : Nat, k ≤ 255 → (UInt8.ofNat k).toNat = k := fun k hk => by simp; omega
 cases c with
 | probe k s m l =>
  have hl : (l.map fun u => (((u.node : Nat) : Int), UInt8.ofNat u.st, u.inc)).map (fun u => (⟨u.1.toNat, u.2.1.toNat, u.2.2⟩ : Upd)) = l := by
   rw [List.map_map]
   refine (List.map_congr_left fun u hu => ?_).trans (List.map_id _)
   show (⟨((u.node : Nat) : Int).toNat, (UInt8.ofNat u.st).toNat, u.inc⟩ : Upd) = u
   rw [u8 _ (d.2.2.2.2 u hu).2.1, Int.toNat_natCast]
  show (⟨((a : Nat) : Int).toNat, ((b : Nat) : Int).toNat, .probe (UInt8.ofNat k).toNat s ((m : Nat) : Int).toNat ((l.map fun u => (((u.node : Nat) : Int), UInt8.ofNat u.st, u.inc)).map (fun u => (⟨u.1.toNat, u.2.1.toNat, u.2.2⟩ : Upd)))⟩ : Fra) = _
  rw [hl, u8 _ d.1, Int.toNat_natCast, Int.toNat_natCast, Int.toNat_natCast]
 | sum p e n =>
  show (⟨((a : Nat) : Int).toNat, ((b : Nat) : Int).toNat, .sum p e ((n : Nat) : Int).toNat⟩ : Fra) = _
  rw [Int.toNat_natCast, Int.toNat_natCast, Int.toNat_natCast]
 | items k p l s =>
  have hk : UInt8.ofNat k ≠ 1 := fun e => d.1.2 (by
   have := congrArg UInt8.toNat e
   rw [u8 _ d.1.1] at this
   exact this)
  show (⟨((a : Nat) : Int).toNat, ((b : Nat) : Int).toNat, if UInt8.ofNat k = 1 then _ else .items (UInt8.ofNat k).toNat p l s⟩ : Fra) = _
  rw [if_neg hk, u8 _ d.1.1, Int.toNat_natCast, Int.toNat_natCast]
 | claim k i n g =>
  show (⟨((a : Nat) : Int).toNat, ((b : Nat) : Int).toNat, .claim k i n g⟩ : Fra) = _
  rw [Int.toNat_natCast, Int.toNat_natCast]
 | result x =>
  show (⟨((a : Nat) : Int).toNat, ((b : Nat) : Int).toNat, .result x⟩ : Fra) = _
  rw [Int.toNat_natCast, Int.toNat_natCast]
 | want r c =>
  show (⟨((a : Nat) : Int).toNat, ((b : Nat) : Int).toNat, .want r ((c : Nat) : Int).toNat⟩ : Fra) = _
  rw [Int.toNat_natCast, Int.toNat_natCast, Int.toNat_natCast]
 | chunk r c y p =>
  show (⟨((a : Nat) : Int).toNat, ((b : Nat) : Int).toNat, .chunk r ((c : Nat) : Int).toNat y p⟩ : Fra) = _
  rw [Int.toNat_natCast, Int.toNat_natCast, Int.toNat_natCast]
def bodyFM (f : Frm) : List UInt8 := bodyF (fraM f)
theorem read_body {f : Frm} (h : mayFM f) (o : FrmOk f) (r : List UInt8) : readF (bodyFM f ++ r) = some (fraM f, r) := codecF.rt _ r (dom_may h o)
end Mur
namespace Mur
open Go Go.RowKit
inductive Told
 | ok (f : Frm)
 | long
 | form
 | tag
section
variable (T : List UInt8 → List UInt8)
def bytesFM (f : Frm) : List UInt8 := bodyFM f ++ (if f.kind.toNat ≤ 4 then T (bodyFM f) else [])
open Classical in
noncomputable def told (b : List UInt8) (f : Frm) (k : Nat) (r : List UInt8) : Told :=
 if mayFM f ∧ r.length = (if k ≤ 4 then 32 else 0) then (if k ≤ 4 ∧ r ≠ T (b.take (b.length - 32)) then .tag else .ok f) else .form
noncomputable def readAll (b : List UInt8) : Told :=
 if 2000 < b.length then .long
 else match readF b with
  | none => .form
  | some (x, r) => told T b (ofFra x) x.con.kind r
theorem readAll_some {b r : List UInt8} {x : Fra} (hl : b.length ≤ 2000) (h : readF b = some (x, r)) : readAll T b = told T b (ofFra x) x.con.kind r := by
 unfold readAll
 rw [if_neg (by omega), h]
theorem kind_con {f : Frm} (h : mayFM f) : (fraM f).con.kind = f.kind.toNat := by
 obtain ⟨_, _, _, _, hk⟩ := h
 show (conM f).kind = _
 unfold conM
 rcases hk with ⟨k, _⟩ | ⟨k, _⟩ | ⟨k, _⟩ | ⟨k, _⟩ | ⟨k, _⟩ | ⟨k, _⟩
 ·rw [if_pos k, k]
  rfl
 ·rw [if_neg (by rw [k]; decide), if_pos k, k]
  split <;> rfl
 ·rw [if_neg (by rw [k]; decide), if_neg (by rw [k]; decide), if_pos k, k]
  rfl
 ·rw [if_neg (by rw [k]; decide), if_neg (by rw [k]; decide), if_neg (by rw [k]; decide), if_pos k, k]
  rfl
 ·rw [if_neg (by rw [k]; decide), if_neg (by rw [k]; decide), if_neg (by rw [k]; decide), if_neg (by rw [k]; decide), if_pos k, k]
  rfl
 ·rw [if_neg (by rw [k]; decide), if_neg (by rw [k]; decide), if_neg (by rw [k]; decide), if_neg (by rw [k]; decide), if_neg (by rw [k]; decide), k]
  rfl
theorem kind_of (x : Fra) : (ofFra x).kind.toNat = x.con.kind := by
 obtain ⟨a, b, c⟩ := x
 cases c <;> rfl
variable {T}
theorem read_bytes {f : Frm} (T' : List UInt8 → List UInt8) (h : mayFM f) (o : FrmOk f) (hT : ∀ b, (T b).length = 32) (hl : (bytesFM T f).length ≤ 2000) :
  readAll T' (bytesFM T f) = if f.kind.toNat ≤ 4 ∧ T (bodyFM f) ≠ T' (bodyFM f) then .tag else .ok f := by
 rw [readAll_some T' hl (show readF (bytesFM T f) = some (fraM f, if f.kind.toNat ≤ 4 then T (bodyFM f) else []) from read_body h o _), of_may h, kind_con h]
 unfold told
 by_cases hk : f.kind.toNat ≤ 4
 ·rw [if_pos hk, if_pos ⟨h, by rw [if_pos hk]; exact hT _⟩]
  have e0 : bytesFM T f = bodyFM f ++ T (bodyFM f) := by
   unfold bytesFM
   rw [if_pos hk]
  have e : (bytesFM T f).take ((bytesFM T f).length - 32) = bodyFM f := by
   rw [e0, List.length_append, hT, Nat.add_sub_cancel]
   exact List.take_left' rfl
  rw [e]
 ·rw [if_neg hk, if_pos ⟨h, by rw [if_neg hk]; rfl⟩, if_neg fun q => hk q.1, if_neg fun q => hk q.1]
theorem bytes_read {b : List UInt8} {f : Frm} (h : readAll T b = .ok f) : mayFM f ∧ bytesFM T f = b ∧ ∃ x r, readF b = some (x, r) ∧ f = ofFra x ∧ fraM f = x := by
 by_cases hl : 2000 < b.length
 ·unfold readAll at h
  rw [if_pos hl] at h
  cases h
 cases hr : readF b with
 | none =>
  unfold readAll at h
  rw [if_neg hl, hr] at h
  cases h
 | some y =>
  obtain ⟨x, r⟩ := y
  rw [readAll_some T (by omega) hr] at h
  unfold told at h
  by_cases hm : mayFM (ofFra x) ∧ r.length = (if x.con.kind ≤ 4 then 32 else 0)
  ·rw [if_pos hm] at h
   by_cases ht : x.con.kind ≤ 4 ∧ r ≠ T (b.take (b.length - 32))
   ·rw [if_pos ht] at h
    cases h
   ·rw [if_neg ht] at h
    injection h with h
    subst h
    obtain ⟨e, d⟩ := codecF.un b x r hr
    have hx : fraM (ofFra x) = x := fra_of d hm.1
    refine ⟨hm.1, ?_, x, r, rfl, rfl, hx⟩
    unfold bytesFM bodyFM
    rw [hx, kind_of]
    by_cases hk : x.con.kind ≤ 4
    ·rw [if_pos hk] at hm ⊢
     have h2 : r = T (b.take (b.length - 32)) := Classical.byContradiction fun q => ht ⟨hk, q⟩
     have h3 : b.take (b.length - 32) = bodyF x := by
      rw [e, List.length_append, hm.2, Nat.add_sub_cancel]
      exact List.take_left' rfl
     rw [h3] at h2
     rw [← h2, ← e]
    ·rw [if_neg hk] at hm ⊢
     rw [e, List.eq_nil_of_length_eq_zero hm.2]
  ·rw [if_neg hm] at h
   cases h
end
end Mur
namespace Mur
open Go Go.RowKit
variable {T : List UInt8 → List UInt8}
theorem readAll_none {b : List UInt8} (hl : b.length ≤ 2000) (h : readF b = none) : readAll T b = .form := by
 unfold readAll
 rw [if_neg (by omega), h]
theorem readAll_long {b : List UInt8} (hl : 2000 < b.length) : readAll T b = .long := by
 unfold readAll
 rw [if_pos hl]
-- how long
theorem flat_le {α : Type} (f : α → List UInt8) (k : Nat) : ∀ l : List α, (∀ x, x ∈ l → (f x).length ≤ k) → (l.map f).flatten.length ≤ l.length * k
 | [], _ => by simp
 | x :: l, h => by
  have h1 := h x (by simp)
  have h2 := flat_le f k l fun y hy => h y (List.mem_cons_of_mem _ hy)
  rw [List.map_cons, List.flatten_cons, List.length_append, List.length_cons, Nat.add_mul]
  omega
theorem formN_le {n : Nat} (h : n < 2 ^ 64) : (formN n).length ≤ 9 := formN_len h
theorem body_le {f : Frm} (h : mayFM f) (o : FrmOk f) : (bodyFM f).length ≤ 1900 := by
 have hd := dom_may h o
 obtain ⟨⟨a1, a2⟩, ⟨b1, b2⟩, _, _, hk⟩ := h
 have n1 : (formN (fraM f).con.kind).length ≤ 9 := formN_le (by cases (fraM f).con <;> simp [Cont.kind])
 have n2 := formN_le (show (fraM f).frm < 2 ^ 64 by omega)
 have n3 := formN_le (show (fraM f).dst < 2 ^ 64 by omega)
 have key : (encC (fraM f).con).length ≤ 1200 := by
  have hc : (fraM f).con = conM f := rfl
  rw [hc] at hd ⊢
  have hD := hd.2.2
  unfold conM at hD ⊢
  rcases hk with ⟨k, _, hpk, hab, hl, hu⟩ | ⟨k, hm⟩ | ⟨k, _⟩ | ⟨k, hr⟩ | ⟨k, hc, hc2⟩ | ⟨k, ⟨hc, hc2⟩, hb, hp⟩
  ·rw [if_pos k] at hD ⊢
   have e := flat_le encU 27 (f.pUpd.map fun u => (⟨u.1.toNat, u.2.1.toNat, u.2.2⟩ : Upd)) fun u hu' => by
    have h3 := hD.2.2.2.2 u hu'
    have q1 := formN_le (show u.node < 2 ^ 64 by omega)
    have q2 := formN_le (show u.st < 2 ^ 64 by omega)
    have q3 := formN_le h3.2.2
    simp only [encU, List.length_append]
    omega
   rw [List.length_map] at e
   have q1 := formN_le (show f.pKind.toNat < 2 ^ 64 by omega)
   have q2 := formN_le hD.2.1
   have q3 := formN_le (show f.pAbout.toNat < 2 ^ 64 by have := hD.2.2.1; omega)
   have q4 := formN_le (show (f.pUpd.map fun u => (⟨u.1.toNat, u.2.1.toNat, u.2.2⟩ : Upd)).length < 2 ^ 64 by rw [List.length_map]; omega)
   simp only [encC, List.length_append]
   omega
  ·rw [if_neg (by rw [k]; decide), if_pos k] at hD ⊢
   obtain ⟨hp, g0, g2, hi8, _⟩ := hm
   have hpl := pre_len hp
   have q1 := formN_le (show f.gos.pre.length < 2 ^ 64 by omega)
   split
   ·have q2 := formN_le (show f.gos.cnt.toNat < 2 ^ 64 by omega)
    have q3 := formN_le (show 1 < 2 ^ 64 by decide)
    have q4 := o.sum
    simp only [encC, List.length_append]
    omega
   ·have q2 := formN_le (show f.gos.kind.toNat < 2 ^ 64 by have := f.gos.kind.toNat_lt; omega)
    have q3 := formN_le (show f.gos.items.length < 2 ^ 64 by omega)
    have q4 := formN_le (show flagN f.gos.ans < 2 ^ 64 by cases f.gos.ans <;> decide)
    have e := flat_le Att.raw 104 f.gos.items fun x _ => by rw [att_raw_len]; exact Nat.le_refl _
    simp only [encC, List.length_append]
    omega
  ·rw [if_neg (by rw [k]; decide), if_neg (by rw [k]; decide), if_pos k] at hD ⊢
   have q1 := formN_le hD.2.1
   have q2 := formN_le hD.2.2
   have q3 := formN_le (show flagN f.cGone < 2 ^ 64 by cases f.cGone <;> decide)
   have q4 := o.key
   simp only [encC, List.length_append]
   omega
  ·rw [if_neg (by rw [k]; decide), if_neg (by rw [k]; decide), if_neg (by rw [k]; decide), if_pos k]
   have := att_raw_len f.att
   simp only [encC]
   omega
  ·rw [if_neg (by rw [k]; decide), if_neg (by rw [k]; decide), if_neg (by rw [k]; decide), if_neg (by rw [k]; decide), if_pos k]
   have q1 := formN_le (show f.chunk.toNat < 2 ^ 64 by omega)
   have q4 := o.root
   simp only [encC, List.length_append]
   omega
  ·rw [if_neg (by rw [k]; decide), if_neg (by rw [k]; decide), if_neg (by rw [k]; decide), if_neg (by rw [k]; decide), if_neg (by rw [k]; decide)]
   have q1 := formN_le (show f.chunk.toNat < 2 ^ 64 by omega)
   have q2 := formN_le (show f.byt.length < 2 ^ 64 by omega)
   have q3 := formN_le (show f.prf.length < 2 ^ 64 by omega)
   have q4 := o.root
   have e := flat_le (fun x : List UInt8 => x) 32 f.prf fun x hx => by rw [o.prf x hx]; exact Nat.le_refl _
   simp only [encC, List.length_append]
   omega
 unfold bodyFM bodyF
 simp only [List.length_append]
 omega
end Mur
namespace Mur
open Go Go.RowKit
section
variable {α β : Type}
structure Step (p : Prs α) (b : List UInt8) (at_ : Nat) (bad : Bool) (at2 : Nat) (bad2 : Bool) (x : α) : Prop where
 ok : bad2 = false → bad = false ∧ p (b.drop at_) = some (x, b.drop at2)
 no : bad2 = true → bad = true ∨ p (b.drop at_) = none
variable {p : Prs α} {q : Prs β} {b : List UInt8} {at_ at1 at2 : Nat} {bad bad1 bad2 : Bool} {x : α} {y : β}
theorem Step.of_ok (h : p (b.drop at_) = some (x, b.drop at1)) : Step p b at_ bad at1 bad x := ⟨fun e => ⟨e, h⟩, fun e => .inl e⟩
theorem Step.of_no (h : p (b.drop at_) = none) (x : α) : Step p b at_ bad at_ true x := ⟨fun e => (by cases e), fun _ => .inr h⟩
theorem Step.if_ok {ok : α → Bool} (h : Step p b at_ bad at1 bad1 x) (hk : ok x = true) : Step (pIf p ok) b at_ bad at1 bad1 x := by
 refine ⟨fun e => ⟨(h.ok e).1, ?_⟩, fun e => (h.no e).imp id fun h2 => ?_⟩
 ·unfold pIf
  rw [(h.ok e).2, Option.bind_some, if_pos hk]
 ·unfold pIf
  rw [h2]
  rfl
theorem Step.if_no {ok : α → Bool} (h : Step p b at_ bad at1 bad1 x) (hk : ok x = false) (z : α) : Step (pIf p ok) b at_ bad at1 true z := by
 refine ⟨fun e => (by cases e), fun _ => ?_⟩
 cases bad1 with
 | true => exact (h.no rfl).imp id fun h2 => by unfold pIf; rw [h2]; rfl
 | false =>
  refine .inr ?_
  unfold pIf
  rw [(h.ok rfl).2, Option.bind_some]
  simp [hk]
theorem Step.seq (h : Step p b at_ bad at1 bad1 x) (k : Step q b at1 bad1 at2 bad2 y) : Step (pSeq p q) b at_ bad at2 bad2 (x, y) := by
 refine ⟨fun e => ?_, fun e => ?_⟩
 ·have h1 := k.ok e
  have h2 := h.ok h1.1
  refine ⟨h2.1, ?_⟩
  unfold pSeq
  rw [h2.2, Option.bind_some, h1.2]
  rfl
 ·cases bad1 with
  | true => exact (h.no rfl).imp id fun h2 => by unfold pSeq; rw [h2]; rfl
  | false =>
   refine .inr ?_
   have h2 := h.ok rfl
   rcases k.no e with h3 | h3
   ·cases h3
   ·unfold pSeq
    rw [h2.2, Option.bind_some, h3]
    rfl
theorem Step.map (h : Step p b at_ bad at1 bad1 x) (f : α → β) : Step (fun c => (p c).map fun y => (f y.1, y.2)) b at_ bad at1 bad1 (f x) :=
 ⟨fun e => ⟨(h.ok e).1, by rw [(h.ok e).2]; rfl⟩, fun e => (h.no e).imp id fun h2 => by rw [h2]; rfl⟩
theorem Step.map' (h : Step p b at_ bad at1 bad1 x) (f : α → β) {z : β} (hz : f x = z) : Step (fun c => (p c).map fun y => (f y.1, y.2)) b at_ bad at1 bad1 z := hz ▸ h.map f
-- so many of them
theorem pMany_none {k : Nat} {c : List UInt8} (h : pMany p k c = none) : ∀ N, k ≤ N → pMany p N c = none := by
 induction k generalizing c with
 | zero => cases h
 | succ k ih =>
  intro N hN
  obtain ⟨M, rfl⟩ : ∃ M, N = M + 1 := ⟨N - 1, by omega⟩
  unfold pMany at h ⊢
  cases hp : p c with
  | none => rfl
  | some y =>
   rw [hp, Option.bind_some] at h
   rw [Option.bind_some, ih (Option.map_eq_none_iff.1 h) M (by omega)]
   rfl
theorem pMany_snoc : ∀ {k : Nat} {c r : List UInt8} {l : List α}, pMany p k c = some (l, r) → pMany p (k + 1) c = (p r).map fun y => (l ++ [y.1], y.2)
 | 0, c, r, l, h => by
  cases h
  unfold pMany
  cases hp : p c <;> rfl
 | k + 1, c, r, l, h => by
  unfold pMany at h
  obtain ⟨⟨x1, r1⟩, h1, h2⟩ := Option.bind_eq_some_iff.1 h
  obtain ⟨⟨l2, r2⟩, h3, h4⟩ := Option.map_eq_some_iff.1 h2
  simp only [Prod.mk.injEq] at h4
  obtain ⟨rfl, rfl⟩ := h4
  have h5 := pMany_snoc h3
  show (p c).bind _ = _
  rw [h1, Option.bind_some]
  show (pMany p (k + 1) r1).map _ = _
  rw [h5]
  cases hp : p r2 <;> rfl
theorem pMany_le (hp : ∀ c x r, p c = some (x, r) → r.length < c.length) : ∀ {k : Nat} {c r : List UInt8} {l : List α}, pMany p k c = some (l, r) → k ≤ c.length
 | 0, _, _, _, _ => Nat.zero_le _
 | k + 1, c, r, l, h => by
  unfold pMany at h
  obtain ⟨⟨x1, r1⟩, h1, h2⟩ := Option.bind_eq_some_iff.1 h
  obtain ⟨⟨l2, r2⟩, h3, _⟩ := Option.map_eq_some_iff.1 h2
  have h5 : k ≤ r1.length := pMany_le hp h3
  have h6 := hp _ _ _ h1
  omega
structure Some_ (p : Prs α) (b : List UInt8) (at_ at2 : Nat) (bad2 : Bool) (l : List α) : Prop where
 ok : bad2 = false → pMany p l.length (b.drop at_) = some (l, b.drop at2)
 no : bad2 = true → ∀ N, l.length ≤ N → pMany p N (b.drop at_) = none
theorem Some_.nil : Some_ p b at_ at_ false [] := ⟨fun _ => rfl, fun e => (by cases e)⟩
theorem Some_.snoc {l : List α} (h : Some_ p b at_ at1 false l) (k : Step p b at1 false at2 bad2 x) : Some_ p b at_ at2 bad2 (l ++ [x]) := by
 have h1 := h.ok rfl
 have h2 := pMany_snoc h1
 refine ⟨fun e => ?_, fun e N hN => ?_⟩
 ·rw [List.length_append]
  show pMany p (l.length + 1) _ = _
  rw [h2, (k.ok e).2]
  rfl
 ·rw [List.length_append] at hN
  refine pMany_none (k := l.length + 1) ?_ N hN
  rw [h2]
  rcases k.no e with h3 | h3
  ·cases h3
  ·rw [h3]
   rfl
theorem Step.many {l : List α} {N : Nat} (h : Step readI b at_ bad at1 false N) (k : Some_ p b at1 at2 bad2 l) (hl : l.length ≤ N) (hf : bad2 = false → l.length = N) : Step (readL p) b at_ bad at2 bad2 l := by
 have h1 := h.ok rfl
 refine ⟨fun e => ⟨h1.1, ?_⟩, fun e => .inr ?_⟩
 ·unfold readL
  rw [h1.2, Option.bind_some]
  show pMany p N _ = _
  rw [← hf e]
  exact k.ok e
 ·unfold readL
  rw [h1.2, Option.bind_some]
  exact k.no e N hl
theorem Step.many_bad {N : Nat} (h : Step readI b at_ bad at1 true N) (l : List α) : Step (readL p) b at_ bad at1 true l := ⟨fun e => (by cases e), fun _ => (h.no rfl).imp id fun h2 => by unfold readL; rw [h2]; rfl⟩
theorem Step.many_big (hp : ∀ c x r, p c = some (x, r) → r.length < c.length) {N : Nat} (h : Step readI b at_ bad at1 bad1 N) (hN : b.length < N) (l : List α) : Step (readL p) b at_ bad at1 true l := by
 cases bad1 with
 | true => exact h.many_bad l
 | false =>
  refine ⟨fun e => (by cases e), fun _ => .inr ?_⟩
  unfold readL
  rw [(h.ok rfl).2, Option.bind_some]
  show pMany p N _ = none
  cases hm : pMany p N (b.drop at1) with
  | none => rfl
  | some y =>
   have := pMany_le hp hm
   rw [List.length_drop] at this
   omega
end
-- bytes
variable {b x : List UInt8} {at_ at1 nx v : Nat} {bad bad1 : Bool}
theorem readB_ok (h : readN (b.drop at_) = some (v, b.drop nx)) (hv : nx + v ≤ b.length) : readB (b.drop at_) = some ((b.take (nx + v)).drop nx, b.drop (nx + v)) := by
 unfold readB
 rw [h, Option.bind_some]
 show readS v (b.drop nx) = _
 unfold readS
 rw [if_neg (by rw [List.length_drop]; omega), List.drop_drop, List.take_drop, Nat.add_comm]
theorem readB_no (h : readN (b.drop at_) = none) : readB (b.drop at_) = none := by
 unfold readB
 rw [h]
 rfl
theorem readB_short (h : readN (b.drop at_) = some (v, b.drop nx)) (hn : nx ≤ b.length) (hv : b.length < nx + v) : readB (b.drop at_) = none := by
 unfold readB
 rw [h, Option.bind_some]
 show readS v (b.drop nx) = _
 unfold readS
 rw [if_pos (by rw [List.length_drop]; omega)]
theorem readS_ok {k : Nat} (h : at_ + k ≤ b.length) : readS k (b.drop at_) = some ((b.take (at_ + k)).drop at_, b.drop (at_ + k)) := by
 unfold readS
 rw [if_neg (by rw [List.length_drop]; omega), List.drop_drop, List.take_drop]
theorem readS_no {k : Nat} (h : b.length < at_ + k) (h2 : at_ ≤ b.length) : readS k (b.drop at_) = none := by
 unfold readS
 rw [if_pos (by rw [List.length_drop]; omega)]
theorem Step.att_ok (h : Step (readS 104) b at_ bad at1 bad1 x) (hx : x.length = 104) (hV : 1 ≤ be8 ((x.take 72).drop 64) ∧ be8 ((x.take 72).drop 64) ≤ 5000) : Step readA b at_ bad at1 bad1 (attOf x hx hV.2) := by
 refine ⟨fun e => ⟨(h.ok e).1, ?_⟩, fun e => (h.no e).imp id fun h2 => ?_⟩
 ·have h1 := (codecS 104).un _ _ _ (h.ok e).2
  have e1 : (b.drop at_).take 104 = x := by rw [h1.1, List.take_left' hx]
  have e2 : (b.drop at_).drop 104 = b.drop at1 := by rw [h1.1, List.drop_left' hx]
  unfold readA
  rw [e2]
  subst e1
  rw [dif_pos hx, dif_pos hV]
 ·unfold readS at h2
  split at h2
  ·rename_i hl
   unfold readA
   rw [dif_neg (by rw [List.length_take]; omega)]
  ·cases h2
theorem Step.att_no (h : Step (readS 104) b at_ bad at1 bad1 x) (hx : x.length = 104) (hV : ¬ (1 ≤ be8 ((x.take 72).drop 64) ∧ be8 ((x.take 72).drop 64) ≤ 5000)) (z : Att) : Step readA b at_ bad at1 true z := by
 refine ⟨fun e => (by cases e), fun _ => ?_⟩
 cases bad1 with
 | true =>
  refine (h.no rfl).imp id fun h2 => ?_
  unfold readS at h2
  split at h2
  ·rename_i hl
   unfold readA
   rw [dif_neg (by rw [List.length_take]; omega)]
  ·cases h2
 | false =>
  refine .inr ?_
  have h1 := (codecS 104).un _ _ _ (h.ok rfl).2
  have e1 : (b.drop at_).take 104 = x := by rw [h1.1, List.take_left' hx]
  unfold readA
  subst e1
  rw [dif_pos hx, dif_neg hV]
-- each takes a byte at least
theorem readA_less (c : List UInt8) (x : Att) (r : List UInt8) (h : readA c = some (x, r)) : r.length < c.length := by
 have h1 := (codecA.un c x r h).1
 have h2 := att_raw_len x
 rw [h1, List.length_append]
 omega
theorem formN_pos (n : Nat) : 0 < (formN n).length := by simp [formN]
theorem readU_less (c : List UInt8) (x : Upd) (r : List UInt8) (h : readU c = some (x, r)) : r.length < c.length := by
 have h1 := (codecU.un c x r h).1
 have h2 := formN_pos x.node
 rw [h1, List.length_append]
 unfold encU
 rw [List.length_append]
 omega
theorem readD_less (c : List UInt8) (x : List UInt8) (r : List UInt8) (h : readS 32 c = some (x, r)) : r.length < c.length := by
 have h1 := (codecS 32).un c x r h
 rw [h1.1, List.length_append, h1.2]
 omega
end Mur
namespace Mur
open Go Go.RowKit
def FormAt (N m i : Nat) (tl : List UInt8) : Prop := digs N = digs m ++ tl ∧ tl.length = i
theorem formAt_zero (N : Nat) : FormAt N N 0 [] := ⟨by simp, rfl⟩
theorem formAt_step {N m i : Nat} {tl : List UInt8} (h : FormAt N m i tl) (hm : m ≠ 0) : FormAt N (m / 256) (i + 1) (UInt8.ofNat (m % 256) :: tl) := by
 refine ⟨?_, by rw [List.length_cons, h.2]⟩
 rw [h.1, digs_pos hm, List.append_assoc]
 rfl
theorem formAt_end {N i : Nat} {tl : List UInt8} (h : FormAt N 0 i tl) : formN N = UInt8.ofNat i :: tl := by
 have e : digs N = tl := by rw [h.1, digs_zero, List.nil_append]
 unfold formN
 rw [e, h.2]
theorem formAt_le {N m i : Nat} {tl : List UInt8} (h : FormAt N m i tl) (hN : N < 2 ^ 64) : i ≤ 8 ∧ (m ≠ 0 → i < 8) := by
 have h1 := digs_len (n := N) (k := 8) (by simpa using hN)
 rw [h.1, List.length_append, h.2] at h1
 refine ⟨by omega, fun hm => ?_⟩
 rw [digs_pos hm, List.length_append] at h1
 simp at h1
 omega
def nineF (i : Nat) (tl : List UInt8) : List UInt8 := List.replicate (9 - i) 0 ++ tl
theorem nineF_len {i : Nat} {tl : List UInt8} (h : tl.length = i) (hi : i ≤ 9) : (nineF i tl).length = 9 := by
 simp [nineF, h]
 omega
theorem nineF_set {i : Nat} {tl : List UInt8} (x : UInt8) (hi : i < 9) : (nineF i tl).set (9 - (i + 1)) x = nineF (i + 1) (x :: tl) := by
 unfold nineF
 have e : List.replicate (9 - i) (0 : UInt8) = List.replicate (9 - (i + 1)) 0 ++ [0] := by
  rw [show 9 - i = (9 - (i + 1)) + 1 by omega, List.replicate_succ']
 rw [e, List.append_assoc, List.set_append_right _ _ (by simp)]
 simp
theorem nineF_drop {i : Nat} {tl : List UInt8} : (nineF i tl).drop (9 - i) = tl := by
 unfold nineF
 exact List.drop_left' (by simp)
theorem beN_take {l : List UInt8} {i : Nat} {x : UInt8} (h : l[i]? = some x) : beN (l.take (i + 1)) = beN (l.take i) * 256 + x.toNat := by
 obtain ⟨hi, rfl⟩ := List.getElem?_eq_some_iff.1 h
 rw [List.take_succ_eq_append_getElem hi, beN_snoc]
end Mur
namespace Mur
open Go Go.RowKit Go.Lib
def Inc (p q : List UInt8) : Prop := ¬ p <+: q ∧ ¬ q <+: p
theorem Inc.symm {p q : List UInt8} (h : Inc p q) : Inc q p := ⟨h.2, h.1⟩
theorem Inc.snoc {p q : List UInt8} (h : Inc p q) (x : UInt8) : Inc (p ++ [x]) q := ⟨fun k => h.1 ((List.prefix_append p [x]).trans k), fun k => by
 rcases List.prefix_concat_iff.1 k with e | e
 ·exact h.1 (by rw [e]; exact List.prefix_append p [x])
 ·exact h.2 e⟩
structure Two (I : Bool → List Att) (U : List Att) : Prop where
 us : Sorted U
 ul : U.length ≤ 200
 uok : ∀ y, y ∈ U → may y.n
 is : ∀ b, Sorted (I b)
 iu : ∀ b x, x ∈ I b → x ∈ U
 ui : ∀ x, x ∈ U → x ∈ I false ∨ x ∈ I true
structure Inv (I : Bool → List Att) (U : List Att) (S : Bool → List Att) (post : List (Bool × Msg)) : Prop where
 srt : ∀ b, Sorted (S b)
 sub : ∀ b x, x ∈ S b → x ∈ U
 may_ : ∀ y, y ∈ post → mayM y.2
 sumd : ∀ y, y ∈ post → y.2.kind = 1 → y.2.sum = sumL y.2.pre (I !y.1) ∧ y.2.cnt = ((cntL y.2.pre (I !y.1) : Nat) : Int) ∧ ∀ b, belowL y.2.pre (S b) = belowL y.2.pre (I b)
 inc : post.Pairwise (fun x y => x.2.kind = 1 ∨ y.2.kind = 1 → Inc x.2.pre y.2.pre)
 its : ∀ y, y ∈ post → ∀ x, x ∈ y.2.items → x ∈ U
section
variable {I S : Bool → List Att} {U : List Att} {post post' rest : List (Bool × Msg)} {b : Bool} {m : Msg}
theorem Inv.len (h : Inv I U S post) (T : Two I U) (b : Bool) : (S b).length ≤ 200 := Nat.le_trans (nodup_le (h.srt b).nodup (h.sub b)) T.ul
theorem Inv.put (h : Inv I U S ((b, m) :: rest)) (M : List Msg) (hm : ∀ n, n ∈ M → mayM n) (hi : ∀ n, n ∈ M → ∀ x, x ∈ n.items → x ∈ U)
  (hs : ∀ n, n ∈ M → n.kind = 1 → n.sum = sumL n.pre (I b) ∧ n.cnt = ((cntL n.pre (I b) : Nat) : Int) ∧ ∀ c, belowL n.pre (S c) = belowL n.pre (I c))
  (hp : M.Pairwise (fun x y => x.kind = 1 ∨ y.kind = 1 → Inc x.pre y.pre)) (hq : ∀ n, n ∈ M → ∀ y, y ∈ rest → n.kind = 1 ∨ y.2.kind = 1 → Inc y.2.pre n.pre) : Inv I U S (rest ++ M.map fun n => (!b, n)) := by
 have hin := List.pairwise_cons.1 h.inc
 have hmem : ∀ y, y ∈ rest ++ (M.map fun n => (!b, n)) → y ∈ rest ∨ ∃ n, n ∈ M ∧ y = (!b, n) := fun y hy => (List.mem_append.1 hy).imp id fun k => by
  obtain ⟨n, hn, rfl⟩ := List.mem_map.1 k
  exact ⟨n, hn, rfl⟩
 refine ⟨h.srt, h.sub, fun y hy => ?_, fun y hy hk => ?_, ?_, fun y hy => ?_⟩
 ·rcases hmem y hy with k | ⟨n, hn, rfl⟩
  ·exact h.may_ y (List.mem_cons_of_mem _ k)
  ·exact hm n hn
 ·rcases hmem y hy with k | ⟨n, hn, rfl⟩
  ·exact h.sumd y (List.mem_cons_of_mem _ k) hk
  ·have := hs n hn hk
   simpa using this
 ·refine List.pairwise_append.2 ⟨hin.2, List.pairwise_map.2 hp, fun y hy z hz => ?_⟩
  obtain ⟨n, hn, rfl⟩ := List.mem_map.1 hz
  exact fun q => hq n hn y hy q.symm
 ·rcases hmem y hy with k | ⟨n, hn, rfl⟩
  ·exact h.its y (List.mem_cons_of_mem _ k)
  ·exact hi n hn
end
end Mur
namespace Mur
open Go Go.RowKit Go.Lib
section
variable {I S : Bool → List Att} {U : List Att} {rest : List (Bool × Msg)} {b : Bool} {m : Msg}
def upd (S : Bool → List Att) (b : Bool) (L : List Att) : Bool → List Att := fun c => if c = b then L else S c
end
end Mur
namespace Mur
open Go Go.RowKit Go.Lib
theorem take_snoc {l : List Att} {i : Nat} {y : Att} (h : l[i]? = some y) : l.take (i + 1) = l.take i ++ [y] := by
 obtain ⟨h1, rfl⟩ := List.getElem?_eq_some_iff.1 h
 exact List.take_succ_eq_append_getElem h1
end Mur
namespace Mur
open Go Go.RowKit Wk
section
variable {P : Program} {w : World} {a : Act} {o : Oper}
theorem quo8_16 (t ty : TypeId) (x y : Operand) (ho : o.op = .binOp .quo t x y ty) (b : UInt8) (hx : a.eval x = .int .u8 ((b.toNat : Nat) : Int)) (hy : a.eval y = .int .u8 16) : (execOp a.eval o).run P w = .ok (.value (.int .u8 (((b >>> 4).toNat : Nat) : Int))) w := by
 have hb := b.toNat_lt
 have h0 : ((b >>> 4).toNat : Nat) = b.toNat / 16 := by
  rw [UInt8.toNat_shiftRight]
  show b.toNat >>> 4 = _
  rw [Nat.shiftRight_eq_div_pow]
 have h1 : Int.tdiv ((b.toNat : Nat) : Int) 16 = ((b.toNat / 16 : Nat) : Int) := by
  rw [Int.tdiv_eq_ediv_of_nonneg (by omega)]
  exact_mod_cast rfl
 have h2 : IntKind.u8.wrap ((b.toNat / 16 : Nat) : Int) = ((b.toNat / 16 : Nat) : Int) := by
  show ((b.toNat / 16 : Nat) : Int) % 256 = _
  omega
 have key : (binOp .quo t (.int .u8 ((b.toNat : Nat) : Int)) (.int .u8 16)).run P w = .ok (.int .u8 (IntKind.u8.wrap (Int.tdiv ((b.toNat : Nat) : Int) 16))) w := rfl
 have hg : (eqGuard .quo t x y (.int .u8 ((b.toNat : Nat) : Int)) (.int .u8 16)).run P w = .ok () w := rfl
 rw [h1, h2] at key
 unfold execOp
 simp only [ho, hx, hy]
 simp only [Sem.run_bind, Sem.run_pure, hg, Result.andThen_ok, key, h0]
theorem rem8_16 (t ty : TypeId) (x y : Operand) (ho : o.op = .binOp .rem t x y ty) (b : UInt8) (hx : a.eval x = .int .u8 ((b.toNat : Nat) : Int)) (hy : a.eval y = .int .u8 16) : (execOp a.eval o).run P w = .ok (.value (.int .u8 (((b &&& 15).toNat : Nat) : Int))) w := by
 have h0 : ((b &&& 15).toNat : Nat) = b.toNat % 16 := by
  rw [UInt8.toNat_and]
  exact Nat.and_two_pow_sub_one_eq_mod b.toNat 4
 have h1 : Int.tmod ((b.toNat : Nat) : Int) 16 = ((b.toNat % 16 : Nat) : Int) := by
  rw [Int.tmod_eq_emod_of_nonneg (by omega)]
  exact_mod_cast rfl
 have key : (binOp .rem t (.int .u8 ((b.toNat : Nat) : Int)) (.int .u8 16)).run P w = .ok (.int .u8 (Int.tmod ((b.toNat : Nat) : Int) 16)) w := rfl
 have hg : (eqGuard .rem t x y (.int .u8 ((b.toNat : Nat) : Int)) (.int .u8 16)).run P w = .ok () w := rfl
 rw [h1] at key
 unfold execOp
 simp only [ho, hx, hy]
 simp only [Sem.run_bind, Sem.run_pure, hg, Result.andThen_ok, key, h0]
theorem SlA.kcell {n : Nat} {L : List Att} {g off : Nat} (h : SlA w (some ⟨g, off, none⟩) n L) {i : Nat} {x : Att} (hx : L[i]? = some x) {j : Nat} (hj : j < 32) : w.cell? ⟨g, off + i * 97 + j * 1, none⟩ = some (.int .u8 (((x.k.getD j 0).toNat : Nat) : Int)) := by
 have h1 := h.key hx
 have hk := x.hk
 have h2 := h1 j (.int .u8 (((x.k.getD j 0).toNat : Nat) : Int)) (by
  have hj' : j < x.k.length := by omega
  simp [b8s, List.getElem?_eq_getElem hj'])
 rw [Nat.mul_one]
 exact h2
end
theorem under_run {p k : List UInt8} {n j : Nat} (hl : p.length = n) (hj : n ≤ j) {b : Bool} (h : b = true ↔ ∀ i, i < j → i < n → nib k i = p.getD i 0) : under p k = b := by
 rw [Bool.eq_iff_iff, h, under_iff]
 exact ⟨fun q i _ hi => q i (by omega), fun q i hi => q i (by omega) (by omega)⟩
end Mur
namespace Mur
end Mur
namespace Mur
open Go Go.RowKit Wk
def msgC (kd : UInt8) (P : Option Addr) (pn pc : Nat) (s : List UInt8) (n : Int) (A : Option Addr) (an ac : Nat) (b : Bool) : List Value := .int .u8 ((kd.toNat : Nat) : Int) :: .slice P pn pc :: (b8s s ++ [.int .i64 n, .slice A an ac, .bool b])
section
variable {kd : UInt8} {P A : Option Addr} {pn pc an ac : Nat} {s : List UInt8} {n : Int} {b : Bool}
theorem msgC_length (hs : s.length = 32) : (msgC kd P pn pc s n A an ac b).length = 37 := by simp [msgC, b8s_length, hs]
theorem msgC_size (hs : s.length = 32) : (msgC kd P pn pc s n A an ac b).toArray.size = 37 := msgC_length hs
theorem msgC_one : ∀ v ∈ msgC kd P pn pc s n A an ac b, v.oneCell' = true := by
 intro v hv
 simp only [msgC, List.mem_cons, List.mem_append, List.not_mem_nil, or_false] at hv
 rcases hv with rfl | rfl | h | rfl | rfl | rfl
 ·rfl
 ·rfl
 ·obtain ⟨x, _, rfl⟩ := List.mem_map.1 h
  rfl
 ·rfl
 ·rfl
 ·rfl
theorem msgC_all : (msgC kd P pn pc s n A an ac b).toArray.all (·.oneCell') = true := Array.all_eq_true_iff_forall_mem.2 fun v hv => msgC_one v (by simpa using hv)
variable {w : World} {g o : Nat}
theorem msg_kind (h : w.rangeAt g o (msgC kd P pn pc s n A an ac b)) : w.cell? ⟨g, o, none⟩ = some (.int .u8 ((kd.toNat : Nat) : Int)) := h 0 _ rfl
theorem msg_pre (h : w.rangeAt g o (msgC kd P pn pc s n A an ac b)) : w.cell? ⟨g, o + 1, none⟩ = some (.slice P pn pc) := h 1 _ rfl
theorem msg_at (hs : s.length = 32) (i : Nat) : (msgC kd P pn pc s n A an ac b)[34 + i]? = [Value.int .i64 n, .slice A an ac, .bool b][i]? := by
 unfold msgC
 rw [show 34 + i = 32 + i + 1 + 1 by omega, List.getElem?_cons_succ, List.getElem?_cons_succ, List.getElem?_append_right (by rw [b8s_length, hs]; omega), b8s_length, hs]
 congr 1
 omega
theorem msg_cnt (hs : s.length = 32) (h : w.rangeAt g o (msgC kd P pn pc s n A an ac b)) : w.cell? ⟨g, o + 34, none⟩ = some (.int .i64 n) := h 34 _ (msg_at hs 0)
theorem msg_items (hs : s.length = 32) (h : w.rangeAt g o (msgC kd P pn pc s n A an ac b)) : w.cell? ⟨g, o + 35, none⟩ = some (.slice A an ac) := h 35 _ (msg_at hs 1)
theorem msg_ans (hs : s.length = 32) (h : w.rangeAt g o (msgC kd P pn pc s n A an ac b)) : w.cell? ⟨g, o + 36, none⟩ = some (.bool b) := h 36 _ (msg_at hs 2)
theorem msg_sum (h : w.rangeAt g o (msgC kd P pn pc s n A an ac b)) : w.rangeAt g (o + 2) (b8s s) := fun j v hv => by
 have := h (2 + j) v (by
  unfold msgC
  rw [show 2 + j = j + 1 + 1 by omega, List.getElem?_cons_succ, List.getElem?_cons_succ, List.getElem?_append_left (List.getElem?_eq_some_iff.1 hv).1]
  exact hv)
 rw [← Nat.add_assoc] at this
 exact this
end
-- halves of a key's bytes, as within takes them
def shn (b : UInt8) (i : Nat) : UInt8 := if i % 2 = 0 then b >>> 4 else b
theorem nib_shn (k : List UInt8) (i : Nat) : nib k i = shn (k.getD (i / 2) 0) i &&& 15 := by
 unfold nib shn
 split
 ·apply UInt8.toNat_inj.1
  rw [u8_and15, u8_shr4]
  have := (k.getD (i / 2) 0).toNat_lt
  omega
 ·rfl
section
variable {P : Program} {w : World} {a : Act} {o : Oper}
theorem shr8_n (t ty : TypeId) (x y : Operand) (ho : o.op = .binOp .shr t x y ty) (b : UInt8) (i : Nat) (hx : a.eval x = .int .u8 ((b.toNat : Nat) : Int)) (hy : a.eval y = .int .i64 ((4 - 4 * (i % 2) : Nat) : Int)) : (execOp a.eval o).run P w = .ok (.value (.int .u8 (((shn b i).toNat : Nat) : Int))) w := by
 have hb' := b.toNat_lt
 have key : (binOp .shr t (.int .u8 ((b.toNat : Nat) : Int)) (.int .i64 ((4 - 4 * (i % 2) : Nat) : Int))).run P w = .ok (.int .u8 (((shn b i).toNat : Nat) : Int)) w := by
  have : (Op.shift .shr .u8 ((b.toNat : Nat) : Int) .i64 ((4 - 4 * (i % 2) : Nat) : Int)).run P w = .ok (.int .u8 (((shn b i).toNat : Nat) : Int)) w := by
   unfold Op.shift
   rw [if_neg (by omega)]
   have hb : IntKind.u8.bits = 8 := rfl
   unfold shn
   rcases Nat.mod_two_eq_zero_or_one i with e | e
   ·rw [e]
    have h1 : min (((4 - 4 * 0 : Nat) : Int).toNat) IntKind.u8.bits = 4 := by rw [hb]; rfl
    have h2 : Int.fdiv ((b.toNat : Nat) : Int) (2 ^ 4) = ((b.toNat / 16 : Nat) : Int) := by
     rw [Int.fdiv_eq_ediv_of_nonneg _ (by decide)]
     exact_mod_cast rfl
    simp only [h1, h2, Sem.run_pure, if_true, u8_shr4]
   ·rw [e]
    have h1 : min (((4 - 4 * 1 : Nat) : Int).toNat) IntKind.u8.bits = 0 := by rw [hb]; rfl
    have h2 : Int.fdiv ((b.toNat : Nat) : Int) (2 ^ 0) = ((b.toNat : Nat) : Int) := by simp
    simp only [h1, h2, Sem.run_pure]
    simp
  exact this
 have hg : (eqGuard .shr t x y (.int .u8 ((b.toNat : Nat) : Int)) (.int .i64 ((4 - 4 * (i % 2) : Nat) : Int))).run P w = .ok () w := rfl
 unfold execOp
 simp only [ho, hx, hy]
 simp only [Sem.run_bind, Sem.run_pure, hg, Result.andThen_ok, key]
end
-- what is built
section
variable {kd : UInt8} {P A : Option Addr} {pn pc an ac : Nat} {s : List UInt8} {n : Int} {b : Bool} {R : Option (Array Value)} {rest : List (Nat × Value)}
end
theorem own8_low {w : World} {base base' e n c : Nat} {A : Option Addr} {l : List UInt8} (h : Own8 w base e A n c l) (hb : base' ≤ base) : Own8 w base' e A n c l := own8 (own_le h.own hb)
def msgZ : List Value := msgC 0 none 0 0 z32 0 none 0 0 false
end Mur
namespace Go.Proofs.YtgbadghjnpbiaaaGreatDoor
open Go.RowKit Wk
open Mur (b8s msgC z32)
end Go.Proofs.YtgbadghjnpbiaaaGreatDoor
