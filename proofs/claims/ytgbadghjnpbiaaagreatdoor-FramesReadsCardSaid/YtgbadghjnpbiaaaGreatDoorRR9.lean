/- What the row rests on, part 9. -/
import Derived.Test.YtgbadghjnpbiaaaGreatDoorRR5
import Derived.Test.YtgbadghjnpbiaaaGreatDoorRR8
import Derived.Test.YtgbadghjnpbiaaaGreatDoorRR7
import Derived.Test.YtgbadghjnpbiaaaGreatDoorRR6
namespace Wk
open Go Go.RowKit
section
variable {P : Program} {w : World} {a : Act} {o : Oper}
theorem run_callm (c : Operand) (f : FuncId) (fst : Array Value) (xs : List Operand) (ts : Array TypeId) (vals : List Value) (ho : o.op = .call { callee := .value c, args := xs.toArray, argTypes := ts }) (hc : a.eval c = .func (.func f) fst #[]) (hv : xs.map a.eval = vals)
  (hrun : (callFunc f (fst ++ vals.toArray)).run P w = .ok (.enter f (fst ++ vals.toArray)) w) : (execOp a.eval o).run P w = .ok (.enter f (fst ++ vals.toArray)) w := by
 obtain ⟨dst, op, ty, pos, after, guard⟩ := o
 simp only at ho
 subst ho
 unfold execOp
 simp only [resolve, hc]
 simp [go_sem, invoke, hv, hrun]
end
section
variable {P : Program} {ops : Array Oper} {Q : Exit → Act → World → Prop} {a : Act} {w : World} {o : Oper}
theorem rCallM (i : Nat) (d : Option Tmp) (c : Operand) (f : FuncId) (fst : Array Value) (xs : List Operand) (ts : Array TypeId) (vals : List Value) (hi : ops[i]? = some o) (hd : o.dst = d) (hw : Region.wanted o (yielded ops a.tmps) = true)
  (ho : o.op = .call { callee := .value c, args := xs.toArray, argTypes := ts }) (hc : a.eval c = .func (.func f) fst #[]) (hv : xs.map a.eval = vals) (hrun : (callFunc f (fst ++ vals.toArray)).run P w = .ok (.enter f (fst ++ vals.toArray)) w)
  (hq : Calls P f (fst ++ vals.toArray) w fun e w' => ∃ v, e = .returned v ∧ From P ops Q (i + 1) (a.put d v) w') : From P ops Q i a w := by
 subst hd
 refine from_step hi ?_
 unfold wpOp
 simp only [hi]
 rw [if_pos hw]
 refine .inl ?_
 unfold Oper.wp
 rw [run_callm c f fst xs ts vals ho hc hv hrun, Oper.upon_enter]
 refine hq.mono ?_
 rintro e w' ⟨v, rfl, h1⟩
 exact h1
end
end Wk
namespace Wk
open Go Go.RowKit
def nf (n : Nat) (kn : List (Nat × Value)) (b : Array Value) : Act := ⟨((List.range n).map fun j => (kn.lookup j).getD (b.getD j undef)).toArray, []⟩
structure Agree (n : Nat) (kn : List (Nat × Value)) (a : Act) : Prop where
 size : a.tmps.size = n
 defers : a.defers = []
 at_ : ∀ d v, kn.lookup d = some v → a.tmps[d]? = some v
theorem Agree.nf {n : Nat} {kn : List (Nat × Value)} {a : Act} (h : Agree n kn a) : a = nf n kn a.tmps := by
 obtain ⟨t, df⟩ := a
 obtain ⟨h1, h2, h3⟩ := h
 simp only at h1 h2 h3
 subst h2
 unfold Wk.nf
 congr 1
 apply Array.ext
 ·simp [h1]
 ·intro i hi hi2
  have hin : i < n := by omega
  simp only [List.getElem_toArray, List.getElem_map, List.getElem_range]
  cases hl : kn.lookup i with
  | none => simp [Array.getD, hi]
  | some v =>
   have := h3 i v hl
   rw [Array.getElem?_eq_getElem hi] at this
   exact Option.some.inj this
theorem lookup_of {α : Type} : ∀ {kn : List (Nat × α)} {d : Nat} {v : α}, kn.lookup d = some v → (d, v) ∈ kn
 | [], _, _, h => by cases h
 | (e, u) :: kn, d, v, h => by
  rw [List.lookup_cons] at h
  by_cases hd : d = e
  ·subst hd
   simp at h
   subst h
   exact List.mem_cons_self
  ·have : (d == e) = false := by simpa using hd
   rw [this] at h
   exact List.mem_cons_of_mem _ (lookup_of h)
theorem Agree.of {n : Nat} {kn : List (Nat × Value)} {a : Act} (h1 : a.tmps.size = n) (h2 : a.defers = []) (h3 : (kn.map fun p => a.tmps[p.1]?) = kn.map fun p => some p.2) : Agree n kn a := ⟨h1, h2, fun d v h => by
 have hm := lookup_of h
 have := List.map_inj_left.1 h3 (d, v) hm
 exact this⟩
theorem norm {P : Program} {ops : Array Oper} {Q : Exit → Act → World → Prop} {i : Nat} {a : Act} {w : World} (n : Nat) (kn : List (Nat × Value)) (h1 : a.tmps.size = n) (h2 : a.defers = []) (h3 : (kn.map fun p => a.tmps[p.1]?) = kn.map fun p => some p.2) (hF : ∀ b, From P ops Q i (nf n kn b) w) : From P ops Q i a w := by
 rw [(Agree.of h1 h2 h3).nf]
 exact hF _
-- many operations passed over, by what is known of few slots
def kget (kn : List (Nat × Value)) : Operand → Option Value
 | .tmp d => kn.lookup d
 | .const v => some v
 | _ => none
def kskip (ops : Array Oper) (kn : List (Nat × Value)) (o : Oper) : Option Bool :=
 match o.guard with
 | none => some false
 | some (j, b) => match (ops[j]?).bind (·.dst) with
  | none => none
  | some d => match kn.lookup d with
   | some v => some (match v with | .bool c => c != b | _ => true)
   | none => none
def kset (n : Nat) (kn : List (Nat × Value)) (d : Option Tmp) (v : Value) : Option (List (Nat × Value)) :=
 match d with
 | none => some kn
 | some d => if d < n then some ((d, v) :: kn) else none
def kstep (n : Nat) (ops : Array Oper) (i : Nat) (kn : List (Nat × Value)) : Option (List (Nat × Value)) :=
 match ops[i]? with
 | none => none
 | some o => match kskip ops kn o with
  | none => none
  | some true => kset n kn o.dst undef
  | some false => match o.op with
   | .move x => (kget kn x).bind fun v => kset n kn o.dst v
   | .pick c x y => match kget kn c with
    | some (.bool true) => (kget kn x).bind fun v => kset n kn o.dst v
    | some (.bool false) => (kget kn y).bind fun v => kset n kn o.dst v
    | _ => none
   | _ => none
def kmany (n : Nat) (ops : Array Oper) : Nat → Nat → List (Nat × Value) → Option (List (Nat × Value))
 | 0, _, kn => some kn
 | k + 1, i, kn => (kstep n ops i kn).bind fun kn' => kmany n ops k (i + 1) kn'
theorem kget_eval {n : Nat} {kn : List (Nat × Value)} {a : Act} (h : Agree n kn a) {x : Operand} {v : Value} (hx : kget kn x = some v) : a.eval x = v := by
 cases x with
 | tmp d =>
  have := h.at_ d v hx
  show a.tmps.getD d undef = v
  rw [Array.getD_eq_getD_getElem?, this]
  rfl
 | const u =>
  cases hx
  rfl
 | _ => cases hx
theorem kset_agree {n : Nat} {kn kn' : List (Nat × Value)} {a : Act} (h : Agree n kn a) {d : Option Tmp} {v : Value} (hs : kset n kn d v = some kn') : Agree n kn' (a.put d v) := by
 unfold kset at hs
 cases d with
 | none =>
  cases hs
  exact h
 | some d =>
  simp only at hs
  split at hs
  ·rename_i hd
   cases hs
   refine ⟨?_, h.defers, fun e u he => ?_⟩
   ·show (a.tmps.setIfInBounds d v).size = n
    rw [Array.size_setIfInBounds, h.size]
   ·show (a.tmps.setIfInBounds d v)[e]? = some u
    rw [List.lookup_cons] at he
    by_cases hde : e = d
    ·subst hde
     simp at he
     subst he
     rw [Array.getElem?_setIfInBounds, if_pos rfl, if_pos (by rw [h.size]; exact hd)]
    ·have : (e == d) = false := by simpa using hde
     rw [this] at he
     rw [Array.getElem?_setIfInBounds, if_neg (fun q => hde q.symm)]
     exact h.at_ e u he
  ·cases hs
theorem kskip_wanted {n : Nat} {ops : Array Oper} {kn : List (Nat × Value)} {a : Act} (h : Agree n kn a) {o : Oper} {t : Bool} (hk : kskip ops kn o = some t) : Region.wanted o (yielded ops a.tmps) = !t := by
 unfold kskip at hk
 unfold Region.wanted
 cases hg : o.guard with
 | none =>
  rw [hg] at hk
  cases hk
  rfl
 | some g =>
  obtain ⟨j, b⟩ := g
  rw [hg] at hk
  simp only at hk ⊢
  unfold yielded
  cases hd : (ops[j]?).bind (·.dst) with
  | none => rw [hd] at hk; cases hk
  | some d =>
   rw [hd] at hk
   simp only at hk
   cases hl : kn.lookup d with
   | none => rw [hl] at hk; cases hk
   | some v =>
    rw [hl] at hk
    simp only at hk
    have := h.at_ d _ hl
    simp only [Option.bind_some, this]
    cases v <;> cases hk <;> first | rfl | (rename_i c; cases c <;> cases b <;> rfl)
theorem kmany_from {P : Program} {n : Nat} {ops : Array Oper} {Q : Exit → Act → World → Prop} {w : World} : ∀ (k i : Nat) (kn kn' : List (Nat × Value)) (a : Act), Agree n kn a → kmany n ops k i kn = some kn' → (∀ a', Agree n kn' a' → From P ops Q (i + k) a' w) → From P ops Q i a w
 | 0, i, kn, kn', a, h, hm, hF => by
  cases hm
  exact hF a h
 | k + 1, i, kn, kn', a, h, hm, hF => by
  unfold kmany at hm
  obtain ⟨kn1, hs, hm⟩ := Option.bind_eq_some_iff.1 hm
  have key : ∀ a1, Agree n kn1 a1 → From P ops Q (i + 1) a1 w := fun a1 h1 => kmany_from k (i + 1) kn1 kn' a1 h1 hm (by rw [show i + 1 + k = i + (k + 1) by omega]; exact hF)
  unfold kstep at hs
  cases ho : ops[i]? with
  | none => rw [ho] at hs; cases hs
  | some o =>
   rw [ho] at hs
   simp only at hs
   cases hk : kskip ops kn o with
   | none => rw [hk] at hs; cases hs
   | some t =>
    rw [hk] at hs
    have hw := kskip_wanted h hk
    cases t with
    | true => exact rPass i o.dst ho rfl hw (key _ (kset_agree h hs))
    | false =>
     simp only at hs
     split at hs
     ·rename_i x hop
      obtain ⟨v, hv, hs⟩ := Option.bind_eq_some_iff.1 hs
      refine rPure i o.dst v ho rfl hw ?_ (key _ (kset_agree h hs))
      unfold execOp
      simp only [hop, kget_eval h hv]
      rfl
     ·rename_i c x y hop
      split at hs
      ·rename_i hc
       obtain ⟨v, hv, hs⟩ := Option.bind_eq_some_iff.1 hs
       refine rPure i o.dst v ho rfl hw ?_ (key _ (kset_agree h hs))
       unfold execOp
       simp only [hop, kget_eval h hc, kget_eval h hv]
       rfl
      ·rename_i hc
       obtain ⟨v, hv, hs⟩ := Option.bind_eq_some_iff.1 hs
       refine rPure i o.dst v ho rfl hw ?_ (key _ (kset_agree h hs))
       unfold execOp
       simp only [hop, kget_eval h hc, kget_eval h hv]
       rfl
      ·cases hs
     ·cases hs
theorem many {P : Program} {ops : Array Oper} {Q : Exit → Act → World → Prop} {a : Act} {w : World} (n k i : Nat) (kn : List (Nat × Value)) (d : Nat) (v : Value) (h1 : a.tmps.size = n) (h2 : a.defers = []) (h3 : (kn.map fun p => a.tmps[p.1]?) = kn.map fun p => some p.2) (hm : (kmany n ops k i kn).bind (fun q => q.lookup d) = some v)
  (hF : ∀ b, From P ops Q (i + k) (nf n [(d, v)] b) w) : From P ops Q i a w := by
 obtain ⟨kn', h4, h5⟩ := Option.bind_eq_some_iff.1 hm
 refine kmany_from k i kn kn' a (Agree.of h1 h2 h3) h4 fun a' ha => ?_
 have hA : Agree n [(d, v)] a' := ⟨ha.size, ha.defers, fun e u he => by
  have := lookup_of he
  simp at this
  obtain ⟨rfl, rfl⟩ := this
  exact ha.at_ _ _ h5⟩
 rw [hA.nf]
 exact hF _
end Wk
namespace Go
open Wk
section
variable {P : Program} {ops : Array Oper} {Q : Exit → Act → World → Prop} {a : Act} {w : World}
theorem mV (n k i : Nat) (kn : List (Nat × Value)) (d : Nat) (v : Value) (hF : ∀ b, From P ops Q (i + k) (nf n [(d, v)] b) w) (h1 : a.tmps.size = n := by kernel_rfl) (h2 : a.defers = [] := by kernel_rfl) (h3 : (kn.map fun p => a.tmps[p.1]?) = kn.map fun p => some p.2 := by kernel_rfl) (hm : (kmany n ops k i kn).bind (fun q => q.lookup d) = some v := by kernel_rfl) : From P ops Q i a w := many n k i kn d v h1 h2 h3 hm hF
theorem mN {i : Nat} (n : Nat) (kn : List (Nat × Value)) (hF : ∀ b, From P ops Q i (nf n kn b) w) (h1 : a.tmps.size = n := by kernel_rfl) (h2 : a.defers = [] := by kernel_rfl) (h3 : (kn.map fun p => a.tmps[p.1]?) = kn.map fun p => some p.2 := by kernel_rfl) : From P ops Q i a w := norm n kn h1 h2 h3 hF
end
end Go
namespace Go.Proofs.YtgbadghjnpbiaaaGreatDoor
open Go.RowKit Wk
open Mur (b8s Byt Own8 Seg Segs flat cutA attC Att SlA OwnA rowA msgC updC formN u64n map_at updC_size flat_sn own8_low u64n_of attL z32 attC_size newOr_own)
set_option maxRecDepth 100000
set_option maxHeartbeats 4000000
def WlU_F1 (b : Array Value) (u2 u13 u14 u15 : Value) : Act := sg 23 [(2, u2), (13, u13), (14, u14), (15, u15)] b
def WlA_F1 (b : Array Value) (u2 u13 u14 u15 : Value) : Act := sg 23 [(2, u2), (13, u13), (14, u14), (15, u15)] b
def WlD_F1 (b : Array Value) (u2 u13 u14 u15 : Value) : Act := sg 23 [(2, u2), (13, u13), (14, u14), (15, u15)] b
theorem WListU_any (g base : Nat) (A : Option Addr) (n c : Nat) (b : List UInt8) (l : List (Int × UInt8 × Nat)) (C : Option Addr) (k d : Nat) (w : World) (hg : w.heap[g]? = some (.cells #[.slice A n c] 79 (0, 0))) (hbs : g < base ∧ base ≤ w.heap.size) (ho : Own8 w base 5 A n c b) (hn : n ≤ 2000000) (hl : Mur.SlR w 3 C k (l.map updC)) (hq : ∀ x, x ∈ l → x.2.2 < 18446744073709551616) (hk : k ≤ 1000) (hCg : ∀ g2 off, C = some ⟨g2, off, none⟩ → 0 < k → g2 ≠ g) : Calls Tryz.prog 43 #[pt g 0, .slice C k d, .func (.func 44) #[pt g 0] #[]] w fun e w' => ∃ A1 n1 c1, e = .returned (.tuple #[]) ∧ w'.heap[g]? = some (.cells #[.slice A1 n1 c1] 79 (0, 0)) ∧ Own8 w' w.heap.size 5 A1 n1 c1 (b ++ (formN l.length ++ (l.map Mur.enc3).flatten)) ∧ n1 ≤ n + 9 + 104 * k ∧ Chg [g] w w' := by
 have hll_ := hl.len
 rw [List.length_map] at hll_
 rw [hll_]
 have hgl_ := (Array.getElem?_eq_some_iff.1 hg).1
 have hon_ := ho.nc
 have hoc_ := ho.cm
 have hol_ := ho.byt.1
 have hn_ := hn
 have hbs_ := hbs
 have holt_ := ho.lt
 refine calls_of_wp Tryz.func43 rfl ?_
 refine sR<|rP 0 8 (pt g 0)<|rP 1 9 (.slice C k d)<|rP 2 10 (vI k)<|nS 3 11 1 #[vI k] 3 fun W1 hb1 ch1 sz1 => rK 4 12 (Wint1_any g base A n c b w.heap.size (k : Int) W1 (qT ch1 hg) ⟨by omega, by omega⟩ (oA ho ch1) (by omega) hb1 (by omega)) ?_
 rintro _ W2 ⟨AA1, nn1, cc1, rfl, hgw1, ow2, hle1, ch2⟩
 have zz2 := ch2.size
 have hq1 := ow2.nc
 have hq2 := ow2.cm
 have hq3 := ow2.byt.1
 refine eN<|sR<|rP 0 13 (.slice C k d)<|rP 1 14 (vI k)<|rP 2 15 (vI 0)<|eN<|wp_block<|?_
 refine Wk.loop (fun m_ a wr => ∃ (i : Nat) (A1 : Option Addr) (N1 : Nat) (c1 : Nat), m_ = k - i ∧ a = WlU_F1 a.tmps (.func (.func 44) #[pt g 0] #[]) (.slice C k d) (vI k) (vI i) ∧ i ≤ k ∧ Own8 wr W1.heap.size 5 A1 N1 c1 (b ++ formN (u64n (k : Int)) ++ ((l.take i).map Mur.enc3).flatten) ∧ wr.heap[g]? = some (.cells #[.slice A1 N1 c1] 79 (0, 0)) ∧ N1 ≤ nn1 + 104 * i ∧ W1.heap.size ≤ wr.heap.size ∧ Chg [g] w wr) (k - 0) ?_ ?_
 ·have kk1 : Chg [g] (w) W1 := zA ch1
  refine ⟨0, AA1, nn1, cc1, rfl, by kernel_rfl, (by omega), (by rw [List.take_zero]; simp only [List.map_nil, List.flatten_nil, List.append_nil]; exact ow2), hgw1, (by omega), (by omega), (kC kk1 ch2)⟩
 rintro mm1 aa1 W3 ⟨i, A1, N1, c1, hmm1, hF1, hi, hO, hgc, hN, hbz, HB⟩
 generalize aa1.tmps = bb1 at hF1
 subst hF1
 have hzB := HB.size
 have hOn := hO.nc
 have hOc := hO.cm
 by_cases hlt : i < k
 ·obtain ⟨x, hx⟩ : ∃ x_, l[i]? = some x_ := ⟨_, List.getElem?_eq_getElem (by omega)⟩
  obtain ⟨g1, o1, hA_, hr1⟩ := hl.row (map_at updC hx) (by decide)
  have hg1_ := hCg g1 o1 hA_ (by omega)
  subst hA_
  have hqx_ := hq x (List.mem_of_getElem? hx)
  refine sR<|bT 0 16 ((i : Int) < (k : Int))<|eN<|wp_seq<|cT<|wp_skip<|nxt<|wp_seq<|wp_block<|sR<|rq 0 17 (pt g1 (o1 + i * 3)) rfl (iS 3 g1 o1 k d i)<|rq 1 18 _ rfl (lR (o1 + i * 3) (updC x) (Chg.range HB hr1 ⟨by omega, trivial⟩))<|nW 2 7 #[vI 0, vB 0, vU 0] 61 fun W4 hb2 ch3 sz2 => rU 3 rfl (sB (updC x).toArray (updC_size x) (Mur.updC_all x) hb2 (by kernel_rfl)) fun W5 hb3 ch4 zz4 => eN<|reg<|rP 0 19 (.func (.func 44) #[pt g 0] #[])<|rq 1 20 _ rfl (lA hb3 (updC_size x)) ?_
  refine Wk.rCallM 2 (some 21) (.tmp 19) 44 #[pt g 0] [.tmp 20] #[61] [.agg ((updC x).toArray)] rfl rfl (by kernel_rfl) rfl (by kernel_rfl) (by kernel_rfl) (by kernel_rfl) ?_
  refine (Wupdate_any g W1.heap.size A1 N1 c1 (b ++ formN (u64n (k : Int)) ++ ((l.take i).map Mur.enc3).flatten) x W5 (qO ch4 (qT ch3 hgc)) ⟨by omega, by omega⟩ (oB (oA hO ch3) ch4 hO.lt) (by omega) hqx_).mono ?_
  rintro _ W6 ⟨AA2, nn2, cc2, rfl, hgw2, ow5, hle2, ch5⟩
  have zz5 := ch5.size
  have hq4 := ow5.nc
  have hq5 := ow5.cm
  have hq6 := ow5.byt.1
  refine ⟨_, rfl, ?_⟩
  refine rE<|inN<|nxt<|reg<|rI 0 22 ((i : Int) + 1) (((i + 1 : Nat) : Int))<|rP 1 15 (vI (i + 1 : Nat))<|eN<|?_
  refine ⟨_, ?_, i + 1, AA2, nn2, cc2, rfl, by kernel_rfl, (by omega), (by rw [flat_sn Mur.enc3 hx, ← List.append_assoc]; exact own8_low ow5 (by omega)), hgw2, (by omega), (by omega), (kC (kB (kA HB ch3) ch4) ch5)⟩
  omega
 refine sR<|bF 0 16 ((i : Int) < (k : Int))<|eN<|wp_seq<|cF<|xX<|?_
 have hH_ := hO
 rw [List.take_of_length_le (show l.length ≤ i by omega), u64n_of (by omega), List.append_assoc] at hH_
 exact Wk.retN (.tuple #[]) rfl (by kernel_rfl) ⟨A1, N1, c1, rfl, hgc, own8_low hH_ (by omega), by omega, HB⟩
theorem WListA_any (g base : Nat) (A : Option Addr) (n c : Nat) (b : List UInt8) (l : List (Att)) (C : Option Addr) (k d : Nat) (w : World) (hg : w.heap[g]? = some (.cells #[.slice A n c] 79 (0, 0))) (hbs : g < base ∧ base ≤ w.heap.size) (ho : Own8 w base 5 A n c b) (hn : n ≤ 2000000) (hl : Mur.SlR w 97 C k (l.map attL)) (hq : ∀ x, x ∈ l → Mur.may x.n) (hk : k ≤ 1000) (hCg : ∀ g2 off, C = some ⟨g2, off, none⟩ → 0 < k → g2 ≠ g) : Calls Tryz.prog 47 #[pt g 0, .slice C k d, .func (.func 48) #[pt g 0] #[]] w fun e w' => ∃ A1 n1 c1, e = .returned (.tuple #[]) ∧ w'.heap[g]? = some (.cells #[.slice A1 n1 c1] 79 (0, 0)) ∧ Own8 w' w.heap.size 5 A1 n1 c1 (b ++ (formN l.length ++ (l.map Att.raw).flatten)) ∧ n1 ≤ n + 9 + 104 * k ∧ Chg [g] w w' := by
 have hll_ := hl.len
 rw [List.length_map] at hll_
 rw [hll_]
 have hgl_ := (Array.getElem?_eq_some_iff.1 hg).1
 have hon_ := ho.nc
 have hoc_ := ho.cm
 have hol_ := ho.byt.1
 have hn_ := hn
 have hbs_ := hbs
 have holt_ := ho.lt
 refine calls_of_wp Tryz.func47 rfl ?_
 refine sR<|rP 0 8 (pt g 0)<|rP 1 9 (.slice C k d)<|rP 2 10 (vI k)<|nS 3 11 1 #[vI k] 3 fun W1 hb1 ch1 sz1 => rK 4 12 (Wint1_any g base A n c b w.heap.size (k : Int) W1 (qT ch1 hg) ⟨by omega, by omega⟩ (oA ho ch1) (by omega) hb1 (by omega)) ?_
 rintro _ W2 ⟨AA1, nn1, cc1, rfl, hgw1, ow2, hle1, ch2⟩
 have zz2 := ch2.size
 have hq1 := ow2.nc
 have hq2 := ow2.cm
 have hq3 := ow2.byt.1
 refine eN<|sR<|rP 0 13 (.slice C k d)<|rP 1 14 (vI k)<|rP 2 15 (vI 0)<|eN<|wp_block<|?_
 refine Wk.loop (fun m_ a wr => ∃ (i : Nat) (A1 : Option Addr) (N1 : Nat) (c1 : Nat), m_ = k - i ∧ a = WlA_F1 a.tmps (.func (.func 48) #[pt g 0] #[]) (.slice C k d) (vI k) (vI i) ∧ i ≤ k ∧ Own8 wr W1.heap.size 5 A1 N1 c1 (b ++ formN (u64n (k : Int)) ++ ((l.take i).map Att.raw).flatten) ∧ wr.heap[g]? = some (.cells #[.slice A1 N1 c1] 79 (0, 0)) ∧ N1 ≤ nn1 + 104 * i ∧ W1.heap.size ≤ wr.heap.size ∧ Chg [g] w wr) (k - 0) ?_ ?_
 ·have kk1 : Chg [g] (w) W1 := zA ch1
  refine ⟨0, AA1, nn1, cc1, rfl, by kernel_rfl, (by omega), (by rw [List.take_zero]; simp only [List.map_nil, List.flatten_nil, List.append_nil]; exact ow2), hgw1, (by omega), (by omega), (kC kk1 ch2)⟩
 rintro mm1 aa1 W3 ⟨i, A1, N1, c1, hmm1, hF1, hi, hO, hgc, hN, hbz, HB⟩
 generalize aa1.tmps = bb1 at hF1
 subst hF1
 have hzB := HB.size
 have hOn := hO.nc
 have hOc := hO.cm
 by_cases hlt : i < k
 ·obtain ⟨x, hx⟩ : ∃ x_, l[i]? = some x_ := ⟨_, List.getElem?_eq_getElem (by omega)⟩
  obtain ⟨g1, o1, hA_, hr1⟩ := hl.row (map_at attL hx) (by decide)
  have hg1_ := hCg g1 o1 hA_ (by omega)
  subst hA_
  have hqx_ := hq x (List.mem_of_getElem? hx)
  refine sR<|bT 0 16 ((i : Int) < (k : Int))<|eN<|wp_seq<|cT<|wp_skip<|nxt<|wp_seq<|wp_block<|sR<|rq 0 17 (pt g1 (o1 + i * 97)) rfl (iS 97 g1 o1 k d i)<|rq 1 18 _ rfl (lR (o1 + i * 97) (Mur.attC x.k x.r x.n x.t) (Chg.range HB hr1 ⟨by omega, trivial⟩) (by rw [Mur.attC_length x.hk x.hr x.ht]; kernel_rfl))<|nW 2 7 (Mur.attC z32 z32 0 z32).toArray 35 fun W4 hb2 ch3 sz2 => rU 3 rfl (sB (Mur.attC x.k x.r x.n x.t).toArray (attC_size x.hk x.hr x.ht) Mur.attC_all hb2 (attC_size rfl rfl rfl)) fun W5 hb3 ch4 zz4 => eN<|reg<|rP 0 19 (.func (.func 48) #[pt g 0] #[])<|rq 1 20 _ rfl (lA hb3 (attC_size x.hk x.hr x.ht)) ?_
  refine Wk.rCallM 2 (some 21) (.tmp 19) 48 #[pt g 0] [.tmp 20] #[35] [.agg ((Mur.attC x.k x.r x.n x.t).toArray)] rfl rfl (by kernel_rfl) rfl (by kernel_rfl) (by kernel_rfl) (by kernel_rfl) ?_
  have ow4 := oB (oA hO ch3) ch4 hO.lt
  refine (Wattest_any g W1.heap.size A1 N1 c1 (b ++ formN (u64n (k : Int)) ++ ((l.take i).map Att.raw).flatten) x W5 (qO ch4 (qT ch3 hgc)) ⟨by omega, by omega⟩ ow4 (by omega) hqx_).mono ?_
  rintro _ W6 ⟨AA2, nn2, cc2, rfl, hgw2, ow5, hle2, ch5⟩
  have lto1 := ow4.lt
  have zz5 := ch5.size
  have hq4 := ow5.nc
  have hq5 := ow5.cm
  have hq6 := ow5.byt.1
  refine ⟨_, rfl, ?_⟩
  refine rE<|inN<|nxt<|reg<|rI 0 22 ((i : Int) + 1) (((i + 1 : Nat) : Int))<|rP 1 15 (vI (i + 1 : Nat))<|eN<|?_
  refine ⟨_, ?_, i + 1, AA2, nn2, cc2, rfl, by kernel_rfl, (by omega), (by rw [flat_sn Att.raw hx, ← List.append_assoc]; exact own8_low ow5 (by omega)), hgw2, (by omega), (by omega), (Chg.step (kB (kA HB ch3) ch4) ch5 (newOr_own (.inl (by simp)) (fun gz hgz => by have := lto1 gz hgz; omega)))⟩
  omega
 refine sR<|bF 0 16 ((i : Int) < (k : Int))<|eN<|wp_seq<|cF<|xX<|?_
 have hH_ := hO
 rw [List.take_of_length_le (show l.length ≤ i by omega), u64n_of (by omega), List.append_assoc] at hH_
 exact Wk.retN (.tuple #[]) rfl (by kernel_rfl) ⟨A1, N1, c1, rfl, hgc, own8_low hH_ (by omega), by omega, HB⟩
theorem WListD_any (g base : Nat) (A : Option Addr) (n c : Nat) (b : List UInt8) (l : List (List UInt8)) (C : Option Addr) (k d : Nat) (w : World) (hg : w.heap[g]? = some (.cells #[.slice A n c] 79 (0, 0))) (hbs : g < base ∧ base ≤ w.heap.size) (ho : Own8 w base 5 A n c b) (hn : n ≤ 2000000) (hl : Mur.SlR w 32 C k (l.map b8s)) (hq : ∀ x, x ∈ l → x.length = 32) (hk : k ≤ 1000) (hCg : ∀ g2 off, C = some ⟨g2, off, none⟩ → 0 < k → g2 ≠ g) : Calls Tryz.prog 50 #[pt g 0, .slice C k d, .func (.func 46) #[pt g 0] #[]] w fun e w' => ∃ A1 n1 c1, e = .returned (.tuple #[]) ∧ w'.heap[g]? = some (.cells #[.slice A1 n1 c1] 79 (0, 0)) ∧ Own8 w' w.heap.size 5 A1 n1 c1 (b ++ (formN l.length ++ (l.map (fun x : List UInt8 => x)).flatten)) ∧ n1 ≤ n + 9 + 104 * k ∧ Chg [g] w w' := by
 have hll_ := hl.len
 rw [List.length_map] at hll_
 rw [hll_]
 have hgl_ := (Array.getElem?_eq_some_iff.1 hg).1
 have hon_ := ho.nc
 have hoc_ := ho.cm
 have hol_ := ho.byt.1
 have hn_ := hn
 have hbs_ := hbs
 have holt_ := ho.lt
 refine calls_of_wp Tryz.func50 rfl ?_
 refine sR<|rP 0 8 (pt g 0)<|rP 1 9 (.slice C k d)<|rP 2 10 (vI k)<|nS 3 11 1 #[vI k] 3 fun W1 hb1 ch1 sz1 => rK 4 12 (Wint1_any g base A n c b w.heap.size (k : Int) W1 (qT ch1 hg) ⟨by omega, by omega⟩ (oA ho ch1) (by omega) hb1 (by omega)) ?_
 rintro _ W2 ⟨AA1, nn1, cc1, rfl, hgw1, ow2, hle1, ch2⟩
 have zz2 := ch2.size
 have hq1 := ow2.nc
 have hq2 := ow2.cm
 have hq3 := ow2.byt.1
 refine eN<|sR<|rP 0 13 (.slice C k d)<|rP 1 14 (vI k)<|rP 2 15 (vI 0)<|eN<|wp_block<|?_
 refine Wk.loop (fun m_ a wr => ∃ (i : Nat) (A1 : Option Addr) (N1 : Nat) (c1 : Nat), m_ = k - i ∧ a = WlD_F1 a.tmps (.func (.func 46) #[pt g 0] #[]) (.slice C k d) (vI k) (vI i) ∧ i ≤ k ∧ Own8 wr W1.heap.size 5 A1 N1 c1 (b ++ formN (u64n (k : Int)) ++ ((l.take i).map (fun x : List UInt8 => x)).flatten) ∧ wr.heap[g]? = some (.cells #[.slice A1 N1 c1] 79 (0, 0)) ∧ N1 ≤ nn1 + 104 * i ∧ W1.heap.size ≤ wr.heap.size ∧ Chg [g] w wr) (k - 0) ?_ ?_
 ·have kk1 : Chg [g] (w) W1 := zA ch1
  refine ⟨0, AA1, nn1, cc1, rfl, by kernel_rfl, (by omega), (by rw [List.take_zero]; simp only [List.map_nil, List.flatten_nil, List.append_nil]; exact ow2), hgw1, (by omega), (by omega), (kC kk1 ch2)⟩
 rintro mm1 aa1 W3 ⟨i, A1, N1, c1, hmm1, hF1, hi, hO, hgc, hN, hbz, HB⟩
 generalize aa1.tmps = bb1 at hF1
 subst hF1
 have hzB := HB.size
 have hOn := hO.nc
 have hOc := hO.cm
 by_cases hlt : i < k
 ·obtain ⟨x, hx⟩ : ∃ x_, l[i]? = some x_ := ⟨_, List.getElem?_eq_getElem (by omega)⟩
  obtain ⟨g1, o1, hA_, hr1⟩ := hl.row (map_at b8s hx) (by decide)
  have hg1_ := hCg g1 o1 hA_ (by omega)
  subst hA_
  have hqx_ := hq x (List.mem_of_getElem? hx)
  refine sR<|bT 0 16 ((i : Int) < (k : Int))<|eN<|wp_seq<|cT<|wp_skip<|nxt<|wp_seq<|wp_block<|sR<|rq 0 17 (pt g1 (o1 + i * 32)) rfl (iS 32 g1 o1 k d i)<|rq 1 18 _ rfl (lR (o1 + i * 32) (b8s x) (Chg.range HB hr1 ⟨by omega, trivial⟩) (by rw [Mur.b8s_length, hqx_]; kernel_rfl))<|nW 2 7 Z32 28 fun W4 hb2 ch3 sz2 => rU 3 rfl (sC x hqx_ hb2) fun W5 hb3 ch4 zz4 => eN<|reg<|rP 0 19 (.func (.func 46) #[pt g 0] #[])<|rq 1 20 _ rfl (lB x hqx_ hb3) ?_
  refine Wk.rCallM 2 (some 21) (.tmp 19) 46 #[pt g 0] [.tmp 20] #[28] [.agg ((b8s x).toArray)] rfl rfl (by kernel_rfl) rfl (by kernel_rfl) (by kernel_rfl) (by kernel_rfl) ?_
  have ow4 := oB (oA hO ch3) ch4 hO.lt
  refine (Wdigest_any g W1.heap.size A1 N1 c1 (b ++ formN (u64n (k : Int)) ++ ((l.take i).map (fun x : List UInt8 => x)).flatten) x W5 (qO ch4 (qT ch3 hgc)) ⟨by omega, by omega⟩ ow4 (by omega) hqx_).mono ?_
  rintro _ W6 ⟨AA2, nn2, cc2, rfl, hgw2, ow5, hle2, ch5⟩
  have lto1 := ow4.lt
  have zz5 := ch5.size
  have hq4 := ow5.nc
  have hq5 := ow5.cm
  have hq6 := ow5.byt.1
  refine ⟨_, rfl, ?_⟩
  refine rE<|inN<|nxt<|reg<|rI 0 22 ((i : Int) + 1) (((i + 1 : Nat) : Int))<|rP 1 15 (vI (i + 1 : Nat))<|eN<|?_
  refine ⟨_, ?_, i + 1, AA2, nn2, cc2, rfl, by kernel_rfl, (by omega), (by rw [flat_sn (fun x : List UInt8 => x) hx, ← List.append_assoc]; exact own8_low ow5 (by omega)), hgw2, (by omega), (by omega), (Chg.step (kB (kA HB ch3) ch4) ch5 (newOr_own (.inl (by simp)) (fun gz hgz => by have := lto1 gz hgz; omega)))⟩
  omega
 refine sR<|bF 0 16 ((i : Int) < (k : Int))<|eN<|wp_seq<|cF<|xX<|?_
 have hH_ := hO
 rw [List.take_of_length_le (show l.length ≤ i by omega), u64n_of (by omega), List.append_assoc] at hH_
 exact Wk.retN (.tuple #[]) rfl (by kernel_rfl) ⟨A1, N1, c1, rfl, hgc, own8_low hH_ (by omega), by omega, HB⟩
end Go.Proofs.YtgbadghjnpbiaaaGreatDoor
namespace Go.Proofs.YtgbadghjnpbiaaaGreatDoor
open Go.RowKit Wk
open Mur (b8s Byt Own8 Seg Segs flat cutA attC Att SlA OwnA rowA msgC run_str updC map_at take_sn attL attL_len b8s_length run_neq_dg)
set_option maxRecDepth 100000
set_option maxHeartbeats 4000000
def EqU_F1 (b : Array Value) (u0 u1 u12 u13 : Value) : Act := sg 26 [(0, u0), (1, u1), (12, u12), (13, u13)] b
def EqA_F1 (b : Array Value) (u0 u1 u12 u13 : Value) : Act := sg 26 [(0, u0), (1, u1), (12, u12), (13, u13)] b
def EqD_F1 (b : Array Value) (u0 u1 u12 u13 : Value) : Act := sg 26 [(0, u0), (1, u1), (12, u12), (13, u13)] b
def IdxU_F1 (b : Array Value) (u0 u1 u7 u8 : Value) : Act := sg 19 [(0, u0), (1, u1), (7, u7), (8, u8)] b
theorem Node_any (n : Int) (w : World) : Calls Tryz.prog 19 #[vI n] w fun e w' => e = .returned (.bool (decide (0 ≤ n ∧ n < 16))) ∧ Chg [] w w' := by
 refine calls_of_wp Tryz.func19 rfl ?_
 refine sR<|rP 0 2 vF<|eN<|sR<|rP 0 3 (vI n) ?_
 by_cases hx1 : n ≥ (0 : Int)
 ·refine bT 1 4 (n ≥ (0 : Int))<|rP 2 5 vT<|rP 3 6 (vI n) ?_
  by_cases hx2 : n < (16 : Int)
  ·exact bT 4 7 (n < (16 : Int))<|rP 5 8 vT<|rP 6 2 vT<|eN<|wp_ret<|rt vT ⟨by rw [decide_eq_true (by omega)], (Chg.refl _)⟩
  exact bF 4 7 (n < (16 : Int))<|rP 5 8 vF<|rP 6 2 vF<|eN<|wp_ret<|rt vF ⟨by rw [decide_eq_false (by omega)], (Chg.refl _)⟩
 exact bF 1 4 (n ≥ (0 : Int))<|rP 2 5 vF<|rZ 3 6<|rZ 4 7<|rP 5 8 vF<|rP 6 2 vF<|eN<|wp_ret<|rt vF ⟨by rw [decide_eq_false (by omega)], (Chg.refl _)⟩
theorem Tagged_any (x : UInt8) (w : World) : Calls Tryz.prog 17 #[vB x.toNat] w fun e w' => e = .returned (.bool (decide (x.toNat ≤ 4))) ∧ Chg [] w w' := by
 refine calls_of_wp Tryz.func17 rfl ?_
 refine sR<|rP 0 2 vF<|eN<|sR<|rP 0 3 (vB x.toNat) ?_
 by_cases hx1 : (x.toNat : Int) ≤ (4 : Int)
 ·exact bT 1 4 ((x.toNat : Int) ≤ (4 : Int))<|rP 2 2 vT<|eN<|wp_ret<|rt vT ⟨by rw [decide_eq_true (by omega)], (Chg.refl _)⟩
 exact bF 1 4 ((x.toNat : Int) ≤ (4 : Int))<|rP 2 2 vF<|eN<|wp_ret<|rt vF ⟨by rw [decide_eq_false (by omega)], (Chg.refl _)⟩
theorem BEqual_any (A : Option Addr) (n c : Nat) (B : Option Addr) (m d : Nat) (l x : List UInt8) (w : World) (hb : Byt w A n l) (hb2 : Byt w B m x) : Calls Tryz.prog 30 #[.slice A n c, .slice B m d] w fun e w' => e = .returned (.bool (decide (l = x))) ∧ Chg [] w w' := by
 refine calls_of_wp Tryz.func30 rfl ?_
 refine sR<|rP 0 4 vF<|eN<|sR<|rP 0 5 (.slice A n c)<|rq 1 6 (.string (Mur.str l)) rfl (run_str 22 9 (.tmp 5) 5 rfl Tryz.underlying22 Tryz.underlying5 Tryz.underlying9 A n c l (by kernel_rfl) hb)<|rP 2 7 (.slice B m d)<|rq 3 8 (.string (Mur.str x)) rfl (run_str 22 9 (.tmp 7) 5 rfl Tryz.underlying22 Tryz.underlying5 Tryz.underlying9 B m d x (by kernel_rfl) hb2) ?_
 by_cases hx1 : l = x
 ·exact rq 4 9 _ rfl (dqT (hx1) (Mur.streq 9 9 (.tmp 6) (.tmp 8) rfl l x (by kernel_rfl) (by kernel_rfl)))<|rP 5 4 vT<|eN<|wp_ret<|rt vT ⟨by rw [decide_eq_true hx1], (Chg.refl _)⟩
 exact rq 4 9 _ rfl (dqF (hx1) (Mur.streq 9 9 (.tmp 6) (.tmp 8) rfl l x (by kernel_rfl) (by kernel_rfl)))<|rP 5 4 vF<|eN<|wp_ret<|rt vF ⟨by rw [decide_eq_false hx1], (Chg.refl _)⟩
theorem EqualU_any (A : Option Addr) (n c : Nat) (B : Option Addr) (m d : Nat) (l l2 : List (Int × UInt8 × Nat)) (w : World) (hl : Mur.SlR w 3 A n (l.map updC)) (hl2 : Mur.SlR w 3 B m (l2.map updC)) (hq : ∀ x, x ∈ l → ((-9223372036854775808 ≤ x.1 ∧ x.1 ≤ 9223372036854775807) ∧ x.2.2 < 18446744073709551616)) (hq2 : ∀ x, x ∈ l2 → ((-9223372036854775808 ≤ x.1 ∧ x.1 ≤ 9223372036854775807) ∧ x.2.2 < 18446744073709551616)) (hn : n ≤ 9223372036854775807) : Calls Tryz.prog 29 #[.slice A n c, .slice B m d] w fun e w' => e = .returned (.bool (decide (l = l2))) ∧ Chg [] w w' := by
 have hll := hl.len
 have hll2 := hl2.len
 rw [List.length_map] at hll hll2
 refine calls_of_wp Tryz.func29 rfl ?_
 refine sR<|rP 0 4 vF<|eN<|wp_seq<|sR<|rP 0 6 (.slice A n c)<|rP 1 7 (vI n)<|rP 2 8 (.slice B m d)<|rP 3 9 (vI m) ?_
 by_cases hx1 : (n : Int) ≠ (m : Int)
 ·exact nT 4 10 (n : Int) (m : Int)<|eN<|cT<|sR<|rP 0 4 vF<|eN<|tR<|rt vF ⟨by rw [decide_eq_false (fun e_ => by have h_ := congrArg List.length e_; omega)], (Chg.refl _)⟩
 refine nF 4 10 (n : Int) (m : Int)<|eN<|cF<|wp_skip<|nxt<|wp_seq<|sR<|rP 0 11 (.slice A n c)<|rP 1 12 (vI n)<|rP 2 13 (vI 0)<|eN<|wp_block<|?_
 refine Wk.loop (fun m_ a wr => ∃ (i : Nat), m_ = n - i ∧ a = EqU_F1 a.tmps (.slice A n c) (.slice B m d) (vI n) (vI i) ∧ i ≤ n ∧ l.take i = l2.take i ∧ Chg [] w wr) (n - 0) ?_ ?_
 ·refine ⟨0, rfl, by kernel_rfl, (by omega), rfl, (Chg.refl _)⟩
 rintro mm1 aa1 W1 ⟨i, hmm1, hF1, hi, htk, HB⟩
 generalize aa1.tmps = bb1 at hF1
 subst hF1
 have hzB := HB.size
 by_cases hlt : i < n
 ·obtain ⟨x, hx⟩ : ∃ x_, l[i]? = some x_ := ⟨_, List.getElem?_eq_getElem (by omega)⟩
  obtain ⟨g1, o1, hA_, hr1⟩ := hl.row (map_at updC hx) (by decide)
  subst hA_
  obtain ⟨y, hy⟩ : ∃ x_, l2[i]? = some x_ := ⟨_, List.getElem?_eq_getElem (by omega)⟩
  obtain ⟨g2, o2, hA_, hr2⟩ := hl2.row (map_at updC hy) (by decide)
  subst hA_
  refine sR<|bT 0 14 ((i : Int) < (n : Int))<|eN<|wp_seq<|cT<|wp_skip<|nxt<|wp_seq<|wp_block<|sR<|rP 0 15 (vI i)<|rP 1 5 (vI i)<|eN<|wp_seq<|?_
  refine dReg ([]) (by kernel_rfl) ?_
  intro W2 ch1 sz1
  have zz1 := ch1.size
  have sS1 : Chg ([]) W2 W2 := (Chg.refl _).more (by simp)
  refine dW 0 16 (.slice (some ⟨g1, o1, none⟩) n c) sS1<|dW 1 17 (vI i) sS1<|dV 2 18 (pt g1 (o1 + i * 3)) rfl rfl (fun w' hw' => iS 3 g1 o1 n c i) sS1 ?_
  have kk1 := kA HB ch1
  refine dV 3 19 _ rfl rfl (fun w' hw' => lR (o1 + i * 3) (updC x) (Chg.range hw' (Chg.range kk1 hr1 trivial) trivial)) sS1<|dW 4 20 (.slice (some ⟨g2, o2, none⟩) m d) sS1<|dW 5 21 (vI i) sS1<|dV 6 22 (pt g2 (o2 + i * 3)) rfl rfl (fun w' hw' => iS 3 g2 o2 m d i) sS1<|dV 7 23 _ rfl rfl (fun w' hw' => lR (o2 + i * 3) (updC y) (Chg.range hw' (Chg.range kk1 hr2 trivial) trivial)) sS1 ?_
  by_cases hxy : x = y
  ·refine dV 8 24 vF rfl rfl (fun w' hw' => nqF (hxy) (run_neq_upd (.tmp 19) (.tmp 23) 61 rfl (wf64 (hq x (List.mem_of_getElem? hx)).1.1 (hq x (List.mem_of_getElem? hx)).1.2) (wf64 (hq2 y (List.mem_of_getElem? hy)).1.1 (hq2 y (List.mem_of_getElem? hy)).1.2) (hq x (List.mem_of_getElem? hx)).2 (hq2 y (List.mem_of_getElem? hy)).2 (by kernel_rfl) (by kernel_rfl))) sS1<|dN<|cF<|wp_skip<|inN<|nxt<|reg<|rI 0 25 ((i : Int) + 1) (((i + 1 : Nat) : Int))<|rP 1 13 (vI (i + 1 : Nat))<|eN<|?_
   refine ⟨_, ?_, i + 1, rfl, by kernel_rfl, (by omega), (by rw [take_sn hx, take_sn hy, htk, hxy]), kk1⟩
   omega
  exact dV 8 24 vT rfl rfl (fun w' hw' => nqT (hxy) (run_neq_upd (.tmp 19) (.tmp 23) 61 rfl (wf64 (hq x (List.mem_of_getElem? hx)).1.1 (hq x (List.mem_of_getElem? hx)).1.2) (wf64 (hq2 y (List.mem_of_getElem? hy)).1.1 (hq2 y (List.mem_of_getElem? hy)).1.2) (hq x (List.mem_of_getElem? hx)).2 (hq2 y (List.mem_of_getElem? hy)).2 (by kernel_rfl) (by kernel_rfl))) sS1<|dN<|cT<|sR<|rP 0 4 vF<|eN<|tI<|thR<|inR<|thR<|rt vF ⟨by rw [decide_eq_false (fun e_ => hxy (Option.some.inj (by rw [← hx, ← hy, e_])))], kk1⟩
 rw [List.take_of_length_le (show l.length ≤ i by omega), List.take_of_length_le (show l2.length ≤ i by omega)] at htk
 exact sR<|bF 0 14 ((i : Int) < (n : Int))<|eN<|wp_seq<|cF<|xX<|nxt<|sR<|rP 0 4 vT<|eN<|wp_ret<|rt vT ⟨by rw [decide_eq_true htk], HB⟩
theorem EqualA_any (A : Option Addr) (n c : Nat) (B : Option Addr) (m d : Nat) (l l2 : List (Att)) (w : World) (hl : Mur.SlR w 97 A n (l.map attL)) (hl2 : Mur.SlR w 97 B m (l2.map attL)) (_hq : ∀ x, x ∈ l → True) (_hq2 : ∀ x, x ∈ l2 → True) (hn : n ≤ 9223372036854775807) : Calls Tryz.prog 31 #[.slice A n c, .slice B m d] w fun e w' => e = .returned (.bool (decide (l = l2))) ∧ Chg [] w w' := by
 have hll := hl.len
 have hll2 := hl2.len
 rw [List.length_map] at hll hll2
 refine calls_of_wp Tryz.func31 rfl ?_
 refine sR<|rP 0 4 vF<|eN<|wp_seq<|sR<|rP 0 6 (.slice A n c)<|rP 1 7 (vI n)<|rP 2 8 (.slice B m d)<|rP 3 9 (vI m) ?_
 by_cases hx1 : (n : Int) ≠ (m : Int)
 ·exact nT 4 10 (n : Int) (m : Int)<|eN<|cT<|sR<|rP 0 4 vF<|eN<|tR<|rt vF ⟨by rw [decide_eq_false (fun e_ => by have h_ := congrArg List.length e_; omega)], (Chg.refl _)⟩
 refine nF 4 10 (n : Int) (m : Int)<|eN<|cF<|wp_skip<|nxt<|wp_seq<|sR<|rP 0 11 (.slice A n c)<|rP 1 12 (vI n)<|rP 2 13 (vI 0)<|eN<|wp_block<|?_
 refine Wk.loop (fun m_ a wr => ∃ (i : Nat), m_ = n - i ∧ a = EqA_F1 a.tmps (.slice A n c) (.slice B m d) (vI n) (vI i) ∧ i ≤ n ∧ l.take i = l2.take i ∧ Chg [] w wr) (n - 0) ?_ ?_
 ·refine ⟨0, rfl, by kernel_rfl, (by omega), rfl, (Chg.refl _)⟩
 rintro mm1 aa1 W1 ⟨i, hmm1, hF1, hi, htk, HB⟩
 generalize aa1.tmps = bb1 at hF1
 subst hF1
 have hzB := HB.size
 by_cases hlt : i < n
 ·obtain ⟨x, hx⟩ : ∃ x_, l[i]? = some x_ := ⟨_, List.getElem?_eq_getElem (by omega)⟩
  obtain ⟨g1, o1, hA_, hr1⟩ := hl.row (map_at attL hx) (by decide)
  subst hA_
  obtain ⟨y, hy⟩ : ∃ x_, l2[i]? = some x_ := ⟨_, List.getElem?_eq_getElem (by omega)⟩
  obtain ⟨g2, o2, hA_, hr2⟩ := hl2.row (map_at attL hy) (by decide)
  subst hA_
  refine sR<|bT 0 14 ((i : Int) < (n : Int))<|eN<|wp_seq<|cT<|wp_skip<|nxt<|wp_seq<|wp_block<|sR<|rP 0 15 (vI i)<|rP 1 5 (vI i)<|eN<|wp_seq<|?_
  refine dReg ([]) (by kernel_rfl) ?_
  intro W2 ch1 sz1
  have zz1 := ch1.size
  have sS1 : Chg ([]) W2 W2 := (Chg.refl _).more (by simp)
  refine dW 0 16 (.slice (some ⟨g1, o1, none⟩) n c) sS1<|dW 1 17 (vI i) sS1<|dV 2 18 (pt g1 (o1 + i * 97)) rfl rfl (fun w' hw' => iS 97 g1 o1 n c i) sS1 ?_
  have kk1 := kA HB ch1
  refine dV 3 19 _ rfl rfl (fun w' hw' => lR (o1 + i * 97) (attL x) (Chg.range hw' (Chg.range kk1 hr1 trivial) trivial) (by rw [attL_len x]; kernel_rfl)) sS1<|dW 4 20 (.slice (some ⟨g2, o2, none⟩) m d) sS1<|dW 5 21 (vI i) sS1<|dV 6 22 (pt g2 (o2 + i * 97)) rfl rfl (fun w' hw' => iS 97 g2 o2 m d i) sS1<|dV 7 23 _ rfl rfl (fun w' hw' => lR (o2 + i * 97) (attL y) (Chg.range hw' (Chg.range kk1 hr2 trivial) trivial) (by rw [attL_len y]; kernel_rfl)) sS1 ?_
  by_cases hxy : x = y
  ·refine dV 8 24 vF rfl rfl (fun w' hw' => nqF ((Mur.Att.eq_iff x y).1 hxy) (run_neq_att (.tmp 19) (.tmp 23) 35 rfl x.hk x.hr x.ht y.hk y.hr y.ht x.hn y.hn (by kernel_rfl) (by kernel_rfl))) sS1<|dN<|cF<|wp_skip<|inN<|nxt<|reg<|rI 0 25 ((i : Int) + 1) (((i + 1 : Nat) : Int))<|rP 1 13 (vI (i + 1 : Nat))<|eN<|?_
   refine ⟨_, ?_, i + 1, rfl, by kernel_rfl, (by omega), (by rw [take_sn hx, take_sn hy, htk, hxy]), kk1⟩
   omega
  exact dV 8 24 vT rfl rfl (fun w' hw' => nqT (fun q_ => hxy ((Mur.Att.eq_iff x y).2 q_)) (run_neq_att (.tmp 19) (.tmp 23) 35 rfl x.hk x.hr x.ht y.hk y.hr y.ht x.hn y.hn (by kernel_rfl) (by kernel_rfl))) sS1<|dN<|cT<|sR<|rP 0 4 vF<|eN<|tI<|thR<|inR<|thR<|rt vF ⟨by rw [decide_eq_false (fun e_ => hxy (Option.some.inj (by rw [← hx, ← hy, e_])))], kk1⟩
 rw [List.take_of_length_le (show l.length ≤ i by omega), List.take_of_length_le (show l2.length ≤ i by omega)] at htk
 exact sR<|bF 0 14 ((i : Int) < (n : Int))<|eN<|wp_seq<|cF<|xX<|nxt<|sR<|rP 0 4 vT<|eN<|wp_ret<|rt vT ⟨by rw [decide_eq_true htk], HB⟩
theorem EqualD_any (A : Option Addr) (n c : Nat) (B : Option Addr) (m d : Nat) (l l2 : List (List UInt8)) (w : World) (hl : Mur.SlR w 32 A n (l.map b8s)) (hl2 : Mur.SlR w 32 B m (l2.map b8s)) (hq : ∀ x, x ∈ l → x.length = 32) (hq2 : ∀ x, x ∈ l2 → x.length = 32) (hn : n ≤ 9223372036854775807) : Calls Tryz.prog 32 #[.slice A n c, .slice B m d] w fun e w' => e = .returned (.bool (decide (l = l2))) ∧ Chg [] w w' := by
 have hll := hl.len
 have hll2 := hl2.len
 rw [List.length_map] at hll hll2
 refine calls_of_wp Tryz.func32 rfl ?_
 refine sR<|rP 0 4 vF<|eN<|wp_seq<|sR<|rP 0 6 (.slice A n c)<|rP 1 7 (vI n)<|rP 2 8 (.slice B m d)<|rP 3 9 (vI m) ?_
 by_cases hx1 : (n : Int) ≠ (m : Int)
 ·exact nT 4 10 (n : Int) (m : Int)<|eN<|cT<|sR<|rP 0 4 vF<|eN<|tR<|rt vF ⟨by rw [decide_eq_false (fun e_ => by have h_ := congrArg List.length e_; omega)], (Chg.refl _)⟩
 refine nF 4 10 (n : Int) (m : Int)<|eN<|cF<|wp_skip<|nxt<|wp_seq<|sR<|rP 0 11 (.slice A n c)<|rP 1 12 (vI n)<|rP 2 13 (vI 0)<|eN<|wp_block<|?_
 refine Wk.loop (fun m_ a wr => ∃ (i : Nat), m_ = n - i ∧ a = EqD_F1 a.tmps (.slice A n c) (.slice B m d) (vI n) (vI i) ∧ i ≤ n ∧ l.take i = l2.take i ∧ Chg [] w wr) (n - 0) ?_ ?_
 ·refine ⟨0, rfl, by kernel_rfl, (by omega), rfl, (Chg.refl _)⟩
 rintro mm1 aa1 W1 ⟨i, hmm1, hF1, hi, htk, HB⟩
 generalize aa1.tmps = bb1 at hF1
 subst hF1
 have hzB := HB.size
 by_cases hlt : i < n
 ·obtain ⟨x, hx⟩ : ∃ x_, l[i]? = some x_ := ⟨_, List.getElem?_eq_getElem (by omega)⟩
  obtain ⟨g1, o1, hA_, hr1⟩ := hl.row (map_at b8s hx) (by decide)
  subst hA_
  obtain ⟨y, hy⟩ : ∃ x_, l2[i]? = some x_ := ⟨_, List.getElem?_eq_getElem (by omega)⟩
  obtain ⟨g2, o2, hA_, hr2⟩ := hl2.row (map_at b8s hy) (by decide)
  subst hA_
  refine sR<|bT 0 14 ((i : Int) < (n : Int))<|eN<|wp_seq<|cT<|wp_skip<|nxt<|wp_seq<|wp_block<|sR<|rP 0 15 (vI i)<|rP 1 5 (vI i)<|eN<|wp_seq<|?_
  refine dReg ([]) (by kernel_rfl) ?_
  intro W2 ch1 sz1
  have zz1 := ch1.size
  have sS1 : Chg ([]) W2 W2 := (Chg.refl _).more (by simp)
  refine dW 0 16 (.slice (some ⟨g1, o1, none⟩) n c) sS1<|dW 1 17 (vI i) sS1<|dV 2 18 (pt g1 (o1 + i * 32)) rfl rfl (fun w' hw' => iS 32 g1 o1 n c i) sS1 ?_
  have kk1 := kA HB ch1
  refine dV 3 19 _ rfl rfl (fun w' hw' => lR (o1 + i * 32) (b8s x) (Chg.range hw' (Chg.range kk1 hr1 trivial) trivial) (by rw [b8s_length, hq x (List.mem_of_getElem? hx)]; kernel_rfl)) sS1<|dW 4 20 (.slice (some ⟨g2, o2, none⟩) m d) sS1<|dW 5 21 (vI i) sS1<|dV 6 22 (pt g2 (o2 + i * 32)) rfl rfl (fun w' hw' => iS 32 g2 o2 m d i) sS1<|dV 7 23 _ rfl rfl (fun w' hw' => lR (o2 + i * 32) (b8s y) (Chg.range hw' (Chg.range kk1 hr2 trivial) trivial) (by rw [b8s_length, hq2 y (List.mem_of_getElem? hy)]; kernel_rfl)) sS1 ?_
  by_cases hxy : x = y
  ·refine dV 8 24 vF rfl rfl (fun w' hw' => nqF (hxy) (run_neq_dg digT x y (hq x (List.mem_of_getElem? hx)) (hq2 y (List.mem_of_getElem? hy)) _ (.tmp 19) (.tmp 23) 28 rfl (by kernel_rfl) (by kernel_rfl))) sS1<|dN<|cF<|wp_skip<|inN<|nxt<|reg<|rI 0 25 ((i : Int) + 1) (((i + 1 : Nat) : Int))<|rP 1 13 (vI (i + 1 : Nat))<|eN<|?_
   refine ⟨_, ?_, i + 1, rfl, by kernel_rfl, (by omega), (by rw [take_sn hx, take_sn hy, htk, hxy]), kk1⟩
   omega
  exact dV 8 24 vT rfl rfl (fun w' hw' => nqT (hxy) (run_neq_dg digT x y (hq x (List.mem_of_getElem? hx)) (hq2 y (List.mem_of_getElem? hy)) _ (.tmp 19) (.tmp 23) 28 rfl (by kernel_rfl) (by kernel_rfl))) sS1<|dN<|cT<|sR<|rP 0 4 vF<|eN<|tI<|thR<|inR<|thR<|rt vF ⟨by rw [decide_eq_false (fun e_ => hxy (Option.some.inj (by rw [← hx, ← hy, e_])))], kk1⟩
 rw [List.take_of_length_le (show l.length ≤ i by omega), List.take_of_length_le (show l2.length ≤ i by omega)] at htk
 exact sR<|bF 0 14 ((i : Int) < (n : Int))<|eN<|wp_seq<|cF<|xX<|nxt<|sR<|rP 0 4 vT<|eN<|wp_ret<|rt vT ⟨by rw [decide_eq_true htk], HB⟩
theorem Prb1_any (u : Int × UInt8 × Nat) (w : World) : Calls Tryz.prog 52 #[.agg (updC u).toArray] w fun e w' => ∃ v, e = .returned (.bool v) ∧ (v = true ↔ ¬ Mur.goodU u) ∧ Chg [] w w' := by
 have hu8_ := u.2.1.toNat_lt
 refine calls_of_wp Tryz.func52 rfl ?_
 refine sR<|nW 0 1 #[vI u.1, vB u.2.1.toNat, vU u.2.2] 61 fun W1 hb1 ch1 sz1 => rP 1 2 vF<|eN<|sR<|rP 0 3 (pw w 0)<|rL 1 4 0 (vI u.1) hb1<|rK 2 5 (Node_any u.1 W1) ?_
 by_cases hpr1 : (0 : Int) ≤ u.1 ∧ u.1 < (16 : Int)
 ·rw [decide_eq_true hpr1]
  rintro _ W2 ⟨rfl, ch2⟩
  have zz2 := ch2.size
  refine rP 3 6 vF<|rP 4 7 vF<|rP 5 8 (pw w 1)<|rL 6 9 1 (vB u.2.1.toNat) (qT ch2 hb1) ?_
  by_cases hx1 : (u.2.1.toNat : Int) < (1 : Int)
  ·exact bT 7 10 ((u.2.1.toNat : Int) < (1 : Int))<|rP 8 11 vT<|rP 9 12 vT<|rZ 10 13<|rZ 11 14<|rZ 12 15<|rP 13 16 vT<|rP 14 17 vT<|rZ 15 18<|rZ 16 19<|rZ 17 20<|rP 18 21 vT<|rP 19 2 vT<|eN<|wp_ret<|rt vT ⟨_, rfl, ⟨fun _ h_ => (by unfold Mur.goodU at h_; omega), fun _ => rfl⟩, (kA (zA ch1 : Chg [] w W1) ch2)⟩
  refine bF 7 10 ((u.2.1.toNat : Int) < (1 : Int))<|rP 8 11 vF<|rP 9 12 vF<|rP 10 13 (pw w 1)<|rL 11 14 1 (vB u.2.1.toNat) (qT ch2 hb1) ?_
  by_cases hx2 : (u.2.1.toNat : Int) > (3 : Int)
  ·exact bT 12 15 ((u.2.1.toNat : Int) > (3 : Int))<|rP 13 16 vT<|rP 14 17 vT<|rZ 15 18<|rZ 16 19<|rZ 17 20<|rP 18 21 vT<|rP 19 2 vT<|eN<|wp_ret<|rt vT ⟨_, rfl, ⟨fun _ h_ => (by unfold Mur.goodU at h_; omega), fun _ => rfl⟩, (kA (zA ch1 : Chg [] w W1) ch2)⟩
  refine bF 12 15 ((u.2.1.toNat : Int) > (3 : Int))<|rP 13 16 vF<|rP 14 17 vF<|rP 15 18 (pw w 2)<|rL 16 19 2 (vU u.2.2) (qT ch2 hb1) ?_
  by_cases hx3 : (u.2.2 : Int) > (1099511627776 : Int)
  ·exact bT 17 20 ((u.2.2 : Int) > (1099511627776 : Int))<|rP 18 21 vT<|rP 19 2 vT<|eN<|wp_ret<|rt vT ⟨_, rfl, ⟨fun _ h_ => (by unfold Mur.goodU at h_; omega), fun _ => rfl⟩, (kA (zA ch1 : Chg [] w W1) ch2)⟩
  exact bF 17 20 ((u.2.2 : Int) > (1099511627776 : Int))<|rP 18 21 vF<|rP 19 2 vF<|eN<|wp_ret<|rt vF (noB (fun h_ => absurd (show Mur.goodU u by unfold Mur.goodU; omega) h_) (kA (zA ch1 : Chg [] w W1) ch2))
 rw [decide_eq_false hpr1]
 rintro _ W3 ⟨rfl, ch3⟩
 have zz3 := ch3.size
 exact rP 3 6 vT<|rP 4 7 vT<|rZ 5 8<|rZ 6 9<|rZ 7 10<|rP 8 11 vT<|rP 9 12 vT<|rZ 10 13<|rZ 11 14<|rZ 12 15<|rP 13 16 vT<|rP 14 17 vT<|rZ 15 18<|rZ 16 19<|rZ 17 20<|rP 18 21 vT<|rP 19 2 vT<|eN<|wp_ret<|rt vT ⟨_, rfl, ⟨fun _ h_ => (by unfold Mur.goodU at h_; omega), fun _ => rfl⟩, (kA (zA ch1 : Chg [] w W1) ch3)⟩
theorem IndexU_any (A : Option Addr) (n c : Nat) (l : List (Int × UInt8 × Nat)) (w : World) (hl : Mur.SlR w 3 A n (l.map updC)) (hn : n ≤ 9223372036854775807) : Calls Tryz.prog 81 #[.slice A n c, .func (.func 52) #[] #[]] w fun e w' => ∃ r : Int, e = .returned (vI r) ∧ (0 ≤ r ↔ ∃ y, y ∈ l ∧ ¬ Mur.goodU y) ∧ Chg [] w w' := by
 have hll := hl.len
 rw [List.length_map] at hll
 refine calls_of_wp Tryz.func81 rfl ?_
 refine sR<|rP 0 4 (vI 0)<|eN<|wp_seq<|sR<|rP 0 6 (.slice A n c)<|rP 1 7 (vI n)<|rP 2 8 (vI 0)<|eN<|wp_block<|?_
 refine Wk.loop (fun m_ a wr => ∃ (i : Nat), m_ = n - i ∧ a = IdxU_F1 a.tmps (.slice A n c) (.func (.func 52) #[] #[]) (vI n) (vI i) ∧ i ≤ n ∧ (∀ y, y ∈ l.take i → Mur.goodU y) ∧ Chg [] w wr) (n - 0) ?_ ?_
 ·refine ⟨0, rfl, by kernel_rfl, (by omega), (by simp), (Chg.refl _)⟩
 rintro mm1 aa1 W1 ⟨i, hmm1, hF1, hi, hall, HB⟩
 generalize aa1.tmps = bb1 at hF1
 subst hF1
 have hzB := HB.size
 by_cases hlt : i < n
 ·obtain ⟨x, hx⟩ : ∃ x_, l[i]? = some x_ := ⟨_, List.getElem?_eq_getElem (by omega)⟩
  obtain ⟨g1, o1, hA_, hr1⟩ := hl.row (map_at updC hx) (by decide)
  subst hA_
  refine sR<|bT 0 9 ((i : Int) < (n : Int))<|eN<|wp_seq<|cT<|wp_skip<|nxt<|wp_seq<|wp_block<|sR<|rP 0 10 (vI i)<|rP 1 5 (vI i)<|eN<|sR<|rP 0 11 (.func (.func 52) #[] #[])<|rP 1 12 (.slice (some ⟨g1, o1, none⟩) n c)<|rP 2 13 (vI i)<|rq 3 14 (pt g1 (o1 + i * 3)) rfl (iS 3 g1 o1 n c i)<|rq 4 15 _ rfl (lR (o1 + i * 3) (updC x) (Chg.range HB hr1 trivial)) ?_
  refine Wk.rCallV 5 (some 16) (.tmp 11) 52 #[] [.tmp 15] #[61] [.agg ((updC x).toArray)] rfl rfl (by kernel_rfl) rfl (by kernel_rfl) (by kernel_rfl) (by kernel_rfl) ?_
  refine (Prb1_any x W1).mono ?_
  rintro _ W2 ⟨bv1, rfl, hif1, ch1⟩
  have zz1 := ch1.size
  cases bv1
  ·refine ⟨_, rfl, ?_⟩
   refine eN<|cF<|wp_skip<|inN<|nxt<|reg<|rI 0 18 ((i : Int) + 1) (((i + 1 : Nat) : Int))<|rP 1 8 (vI (i + 1 : Nat))<|eN<|?_
   refine ⟨_, ?_, i + 1, rfl, by kernel_rfl, (by omega), (fun y_ hy_ => by rw [take_sn hx] at hy_; rcases List.mem_append.1 hy_ with h1_ | h1_ <;> first | exact hall y_ h1_ | (rw [List.mem_singleton.1 h1_]; exact Classical.not_not.1 (fun q_ => Bool.noConfusion (hif1.2 q_)))), (kA HB ch1)⟩
   omega
  refine ⟨_, rfl, ?_⟩
  exact eN<|cT<|sR<|rP 0 17 (vI i)<|rP 1 4 (vI i)<|eN<|tI<|thR<|inR<|thR<|rt (vI i) ⟨_, rfl, ⟨fun _ => ⟨x, List.mem_of_getElem? hx, (hif1.1 rfl)⟩, fun _ => by omega⟩, (kA HB ch1)⟩
 rw [List.take_of_length_le (show l.length ≤ i by omega)] at hall
 exact sR<|bF 0 9 ((i : Int) < (n : Int))<|eN<|wp_seq<|cF<|xX<|nxt<|sR<|rP 0 4 (vI (-1))<|eN<|wp_ret<|rt (vI (-1)) ⟨-1, rfl, ⟨fun h_ => absurd h_ (by decide), fun h_ => (by obtain ⟨y_, h1_, h2_⟩ := h_; exact absurd (hall y_ h1_) h2_)⟩, HB⟩
theorem ContU_any (A : Option Addr) (n c : Nat) (l : List (Int × UInt8 × Nat)) (w : World) (hl : Mur.SlR w 3 A n (l.map updC)) (hn : n ≤ 9223372036854775807) : Calls Tryz.prog 53 #[.slice A n c, .func (.func 52) #[] #[]] w fun e w' => ∃ v, e = .returned (.bool v) ∧ (v = true ↔ ∃ y, y ∈ l ∧ ¬ Mur.goodU y) ∧ Chg [] w w' := by
 have hll := hl.len
 rw [List.length_map] at hll
 refine calls_of_wp Tryz.func53 rfl ?_
 refine sR<|rP 0 4 vF<|eN<|sR<|rP 0 5 (.slice A n c)<|rP 1 6 (.func (.func 52) #[] #[])<|rK 2 7 (IndexU_any A n c l w hl hn) ?_
 rintro _ W1 ⟨ri1, rfl, hri1, ch1⟩
 have zz1 := ch1.size
 by_cases hx1 : ri1 ≥ (0 : Int)
 ·exact bT 3 8 (ri1 ≥ (0 : Int))<|rP 4 4 vT<|eN<|wp_ret<|rt vT (yesB (hri1.1 (by omega)) (zA ch1 : Chg [] w W1))
 exact bF 3 8 (ri1 ≥ (0 : Int))<|rP 4 4 vF<|eN<|wp_ret<|rt vF (noB (fun h_ => absurd (hri1.2 h_) (by omega)) (zA ch1 : Chg [] w W1))
end Go.Proofs.YtgbadghjnpbiaaaGreatDoor
namespace Go.Proofs.YtgbadghjnpbiaaaGreatDoor
open Go.RowKit Wk
open Mur (b8s Byt Own8 Seg Segs flat cutA attC Att SlA OwnA rowA msgC Frm Zs FrmIn frmP segs_cell frmL_sz frmL_size frmL_all segs_rng store_segs frmL sl0 z32 bareM_1 bareZ_1 msgC_length bareM_2 bareZ_2 claimC_length bareM_3 bareZ_3 attC_length frmL_att bareM_4 bareZ_4 b8s_length segs_row b8s_one store_seg1 bareM_5 bareZ_5 bareM_6 bareZ_6 bareM_0 bareZ_0 LiesF msgC_size msgC_all msg_kind msg_pre byt_chg msg_sum run_eql_yes msg_cnt msg_items msg_ans run_eql_no)
set_option maxRecDepth 100000
set_option maxHeartbeats 4000000
def SameF_J1_1 (b : Array Value) (u2 u3 u5 u6 : Value) : Act := sg 155 [(2, u2), (3, u3), (5, u5), (6, u6)] b
def SameF_J2_2 (b : Array Value) (u2 u3 u5 u6 u7 u8 : Value) : Act := sg 155 [(2, u2), (3, u3), (5, u5), (6, u6), (7, u7), (8, u8)] b
theorem Bare_any (f : Frm) (z : Zs) (w : World) (hI : FrmIn f) : Calls Tryz.prog 20 #[.agg (frmP f z).flatten.toArray] w fun e w' => e = .returned (.agg (frmP (Mur.bareM f) (Mur.bareZ f z)).flatten.toArray) ∧ Chg [] w w' := by
 refine calls_of_wp Tryz.func20 rfl ?_
 refine sR<|nW 0 1 ((frmP f z).flatten.toArray) 38 fun W1 hb1 ch1 sz1 => nW 1 2 ((frmh 0 0 0).flatten.toArray) 38 fun W2 hb2 ch2 sz2 => eN<|sR<|rP 0 4 (pw w 0)<|rF 1 5 0 (vB f.kind.toNat) hI.sz (qT ch2 hb1) 0<|rP 2 6 (pw w 1)<|rF 3 7 1 (vI f.frm) hI.sz (qT ch2 hb1) 1<|rP 4 8 (pw w 2)<|rF 5 9 2 (vI f.dst) hI.sz (qT ch2 hb1) 2<|rq 6 10 (.agg ((frmh f.kind f.frm f.dst).flatten.toArray)) rfl (Mur.run_built 38 _ rfl [(0, vB f.kind.toNat), (1, vI f.frm), (2, vI f.dst)] (by kernel_rfl) _ (built_head3 f.kind f.frm f.dst))<|nW 7 3 ((frmh 0 0 0).flatten.toArray) 38 fun W3 hb3 ch3 sz3 => rU 8 rfl (sA (frmh f.kind f.frm f.dst).flatten.toArray (frmL_size (frmL_sz rfl rfl rfl rfl rfl rfl)) hb3 (frmL_size (frmL_sz rfl rfl rfl rfl rfl rfl))) fun W4 hb4 ch4 zz4 => eN<|wp_seq<|sR<|rP 0 11 (pw w 0)<|rF 1 12 0 (vB f.kind.toNat) hI.sz (qO ch4 (qT ch3 (qT ch2 hb1))) 0<|eN<|wp_block<|sR<|?_
 by_cases hx1 : (f.kind.toNat : Int) = (1 : Int)
 ·refine eT 0 14 (f.kind.toNat : Int) (1 : Int)<|rP 1 13 vT<|eN<|cT<|reg<|rP 0 15 (pw w 3)<|rq 1 16 _ rfl (lR 3 [vI f.pTo, vB f.pKind.toNat, vU f.pSeq, vI f.pAbout, .slice z.u.A z.u.n z.u.c] (sgR hI.sz (qO ch4 (qT ch3 (qT ch2 hb1))) 3 5 rfl))<|rP 2 17 (pw W2 3)<|rU 3 rfl (store_segs 26 (.tmp 17) (.tmp 16) rfl 3 (by kernel_rfl) [vI f.pTo, vB f.pKind.toNat, vU f.pSeq, vI f.pAbout, .slice z.u.A z.u.n z.u.c] (by kernel_rfl) (by kernel_rfl) (by intro v hv; simp only [List.mem_cons, List.not_mem_nil, or_false] at hv; rcases hv with h | h | h | h | h <;> (subst h; rfl)) 38 (frmL_sz rfl rfl rfl rfl rfl rfl) hb4 3 [[vI f.pTo], [vB f.pKind.toNat], [vU f.pSeq], [vI f.pAbout], [.slice z.u.A z.u.n z.u.c]] rfl rfl rfl (frmL f.kind f.frm f.dst f.pTo f.pKind f.pSeq f.pAbout z.u 0 sl0 z32 0 sl0 false z32 0 0 0 false z32 z32 0 z32 z32 0 sl0 sl0) rfl) fun W5 hb5 ch5 zz5 => rE<|inN<|nxt<|sR<|rq 0 55 _ rfl (lA hb5 (frmL_size (frmL_sz rfl rfl rfl rfl rfl rfl)))<|rU 1 rfl (sA (frmL f.kind f.frm f.dst f.pTo f.pKind f.pSeq f.pAbout z.u 0 sl0 z32 0 sl0 false z32 0 0 0 false z32 z32 0 z32 z32 0 sl0 sl0).flatten.toArray (frmL_size (frmL_sz rfl rfl rfl rfl rfl rfl)) (qO ch5 (qO ch4 (qT ch3 hb2))) (frmL_size (frmL_sz rfl rfl rfl rfl rfl rfl))) fun W6 hb6 ch6 zz6 => eN<|wp_ret<|?_
  have hk_ : f.kind = 1 := kI 1
  exact retC rfl hb6 (by rw [(frmL_size (frmL_sz rfl rfl rfl rfl rfl rfl))]; kernel_rfl) ⟨(by first | (rw [bareM_1 hk_, bareZ_1 hk_]; done) | (rw [bareM_1 hk_, bareZ_1 hk_]; rfl)), (kB (kB (kB (kA (kA (zA ch1 : Chg [] w W1) ch2) ch3) ch4) ch5) ch6)⟩
 refine eF 0 14 (f.kind.toNat : Int) (1 : Int)<|rP 1 13 vF<|eN<|cF<|sR<|?_
 by_cases hx2 : (f.kind.toNat : Int) = (2 : Int)
 ·refine eT 0 19 (f.kind.toNat : Int) (2 : Int)<|rP 1 18 vT<|eN<|cT<|reg<|rP 0 20 (pw w 8)<|rq 1 21 _ rfl (lR 8 (Mur.msgC f.gos.kind z.p.A z.p.n z.p.c f.gos.sum f.gos.cnt z.i.A z.i.n z.i.c f.gos.ans) (sgR hI.sz (qO ch4 (qT ch3 (qT ch2 hb1))) 8 6 rfl) (by rw [msgC_length hI.ok.sum]; kernel_rfl))<|rP 2 22 (pw W2 8)<|rU 3 rfl (store_segs 31 (.tmp 22) (.tmp 21) rfl 8 (by kernel_rfl) (Mur.msgC f.gos.kind z.p.A z.p.n z.p.c f.gos.sum f.gos.cnt z.i.A z.i.n z.i.c f.gos.ans) (by kernel_rfl) (by rw [msgC_length hI.ok.sum]; kernel_rfl) Mur.msgC_one 38 (frmL_sz rfl rfl rfl rfl rfl rfl) hb4 8 [[vB f.gos.kind.toNat], [.slice z.p.A z.p.n z.p.c], b8s f.gos.sum, [vI f.gos.cnt], [.slice z.i.A z.i.n z.i.c], [.bool f.gos.ans]] rfl rfl (by rw [msgC_length hI.ok.sum]; rfl) (frmL f.kind f.frm f.dst 0 0 0 0 sl0 f.gos.kind z.p f.gos.sum f.gos.cnt z.i f.gos.ans z32 0 0 0 false z32 z32 0 z32 z32 0 sl0 sl0) rfl) fun W7 hb7 ch7 zz7 => rE<|inN<|nxt<|sR<|rq 0 55 _ rfl (lA hb7 (frmL_size (frmL_sz hI.ok.sum rfl rfl rfl rfl rfl)))<|rU 1 rfl (sA (frmL f.kind f.frm f.dst 0 0 0 0 sl0 f.gos.kind z.p f.gos.sum f.gos.cnt z.i f.gos.ans z32 0 0 0 false z32 z32 0 z32 z32 0 sl0 sl0).flatten.toArray (frmL_size (frmL_sz hI.ok.sum rfl rfl rfl rfl rfl)) (qO ch7 (qO ch4 (qT ch3 hb2))) (frmL_size (frmL_sz rfl rfl rfl rfl rfl rfl))) fun W8 hb8 ch8 zz8 => eN<|wp_ret<|?_
  have hk_ : f.kind = 2 := kI 2
  exact retC rfl hb8 (by rw [(frmL_size (frmL_sz hI.ok.sum rfl rfl rfl rfl rfl))]; kernel_rfl) ⟨(by first | (rw [bareM_2 hk_, bareZ_2 hk_]; done) | (rw [bareM_2 hk_, bareZ_2 hk_]; rfl)), (kB (kB (kB (kA (kA (zA ch1 : Chg [] w W1) ch2) ch3) ch4) ch7) ch8)⟩
 refine eF 0 19 (f.kind.toNat : Int) (2 : Int)<|rP 1 18 vF<|eN<|cF<|sR<|?_
 by_cases hx3 : (f.kind.toNat : Int) = (3 : Int)
 ·refine eT 0 24 (f.kind.toNat : Int) (3 : Int)<|rP 1 23 vT<|eN<|cT<|reg<|rP 0 25 (pw w 45)<|rq 1 26 _ rfl (lR 45 (Mur.claimC f.cKey f.cNode f.cInc f.cCnt f.cGone) (sgR hI.sz (qO ch4 (qT ch3 (qT ch2 hb1))) 14 5 rfl) (by rw [claimC_length hI.ok.key]; kernel_rfl))<|rP 2 27 (pw W2 45)<|rU 3 rfl (store_segs 33 (.tmp 27) (.tmp 26) rfl 45 (by kernel_rfl) (Mur.claimC f.cKey f.cNode f.cInc f.cCnt f.cGone) (by kernel_rfl) (by rw [claimC_length hI.ok.key]; kernel_rfl) Mur.claimC_one 38 (frmL_sz rfl rfl rfl rfl rfl rfl) hb4 14 [b8s f.cKey, [vI f.cNode], [vU f.cInc], [vU f.cCnt], [.bool f.cGone]] rfl rfl (by rw [claimC_length hI.ok.key]; rfl) (frmL f.kind f.frm f.dst 0 0 0 0 sl0 0 sl0 z32 0 sl0 false f.cKey f.cNode f.cInc f.cCnt f.cGone z32 z32 0 z32 z32 0 sl0 sl0) rfl) fun W10 hb9 ch9 zz9 => rE<|inN<|nxt<|sR<|rq 0 55 _ rfl (lA hb9 (frmL_size (frmL_sz rfl hI.ok.key rfl rfl rfl rfl)))<|rU 1 rfl (sA (frmL f.kind f.frm f.dst 0 0 0 0 sl0 0 sl0 z32 0 sl0 false f.cKey f.cNode f.cInc f.cCnt f.cGone z32 z32 0 z32 z32 0 sl0 sl0).flatten.toArray (frmL_size (frmL_sz rfl hI.ok.key rfl rfl rfl rfl)) (qO ch9 (qO ch4 (qT ch3 hb2))) (frmL_size (frmL_sz rfl rfl rfl rfl rfl rfl))) fun W11 hb10 ch10 zz10 => eN<|wp_ret<|?_
  have hk_ : f.kind = 3 := kI 3
  exact retC rfl hb10 (by rw [(frmL_size (frmL_sz rfl hI.ok.key rfl rfl rfl rfl))]; kernel_rfl) ⟨(by first | (rw [bareM_3 hk_, bareZ_3 hk_]; done) | (rw [bareM_3 hk_, bareZ_3 hk_]; rfl)), (kB (kB (kB (kA (kA (zA ch1 : Chg [] w W1) ch2) ch3) ch4) ch9) ch10)⟩
 refine eF 0 24 (f.kind.toNat : Int) (3 : Int)<|rP 1 23 vF<|eN<|cF<|sR<|?_
 by_cases hx4 : (f.kind.toNat : Int) = (4 : Int)
 ·refine eT 0 29 (f.kind.toNat : Int) (4 : Int)<|rP 1 28 vT<|eN<|cT<|reg<|rP 0 30 (pw w 81)<|rq 1 31 _ rfl (lR 81 (Mur.attC f.att.k f.att.r f.att.n f.att.t) (sgR hI.sz (qO ch4 (qT ch3 (qT ch2 hb1))) 19 4 frmL_att) (by rw [attC_length f.att.hk f.att.hr f.att.ht]; kernel_rfl))<|rP 2 32 (pw W2 81)<|rU 3 rfl (store_segs 35 (.tmp 32) (.tmp 31) rfl 81 (by kernel_rfl) (Mur.attC f.att.k f.att.r f.att.n f.att.t) (by kernel_rfl) (by rw [attC_length f.att.hk f.att.hr f.att.ht]; kernel_rfl) Mur.attC_one 38 (frmL_sz rfl rfl rfl rfl rfl rfl) hb4 19 [b8s f.att.k, b8s f.att.r, [vI f.att.n], b8s f.att.t] (Mur.att_parts _ _ _ _) rfl (by rw [attC_length f.att.hk f.att.hr f.att.ht]; rfl) (frmL f.kind f.frm f.dst 0 0 0 0 sl0 0 sl0 z32 0 sl0 false z32 0 0 0 false f.att.k f.att.r f.att.n f.att.t z32 0 sl0 sl0) rfl) fun W12 hb11 ch11 zz11 => rE<|inN<|nxt<|sR<|rq 0 55 _ rfl (lA hb11 (frmL_size (frmL_sz rfl rfl f.att.hk f.att.hr f.att.ht rfl)))<|rU 1 rfl (sA (frmL f.kind f.frm f.dst 0 0 0 0 sl0 0 sl0 z32 0 sl0 false z32 0 0 0 false f.att.k f.att.r f.att.n f.att.t z32 0 sl0 sl0).flatten.toArray (frmL_size (frmL_sz rfl rfl f.att.hk f.att.hr f.att.ht rfl)) (qO ch11 (qO ch4 (qT ch3 hb2))) (frmL_size (frmL_sz rfl rfl rfl rfl rfl rfl))) fun W13 hb12 ch12 zz12 => eN<|wp_ret<|?_
  have hk_ : f.kind = 4 := kI 4
  exact retC rfl hb12 (by rw [(frmL_size (frmL_sz rfl rfl f.att.hk f.att.hr f.att.ht rfl))]; kernel_rfl) ⟨(by first | (rw [bareM_4 hk_, bareZ_4 hk_]; done) | (rw [bareM_4 hk_, bareZ_4 hk_]; rfl)), (kB (kB (kB (kA (kA (zA ch1 : Chg [] w W1) ch2) ch3) ch4) ch11) ch12)⟩
 refine eF 0 29 (f.kind.toNat : Int) (4 : Int)<|rP 1 28 vF<|eN<|cF<|sR<|?_
 by_cases hx5 : (f.kind.toNat : Int) = (5 : Int)
 ·refine eT 0 34 (f.kind.toNat : Int) (5 : Int)<|rP 1 33 vT<|eN<|cT<|?_
  refine dReg ([W2.heap.size]) (by kernel_rfl) ?_
  intro W14 ch13 sz4
  have zz13 := ch13.size
  have sS1 : Chg ([W2.heap.size]) W14 W14 := (Chg.refl _).more (by simp)
  refine dW 0 35 (pw w 178) sS1<|dV 1 36 _ rfl rfl (fun w' hw' => lR 178 (b8s f.root) (sgW hI.sz (qO hw' (qT ch13 (qO ch4 (qT ch3 (qT ch2 hb1))))) 23) (by rw [b8s_length, hI.ok.root]; kernel_rfl)) sS1<|dW 2 37 (pw w 210) sS1<|dV 3 38 (vI f.chunk) rfl rfl (fun w' hw' => fl 3 37 w.heap.size 210 (vI f.chunk) hI.sz (qO hw' (qT ch13 (qO ch4 (qT ch3 (qT ch2 hb1))))) 24) sS1<|dW 4 39 (pw W2 178) sS1<|dO 5<|oU rfl (store_segs 28 (.tmp 39) (.tmp 36) rfl 178 (by kernel_rfl) (b8s f.root) (by kernel_rfl) (by rw [b8s_length, hI.ok.root]; kernel_rfl) (b8s_one f.root) 38 (frmL_sz rfl rfl rfl rfl rfl rfl) (qT ch13 hb4) 23 [b8s f.root] (by simp) rfl (by rw [b8s_length, hI.ok.root]; rfl) (frmL f.kind f.frm f.dst 0 0 0 0 sl0 0 sl0 z32 0 sl0 false z32 0 0 0 false z32 z32 0 z32 f.root 0 sl0 sl0) rfl) fun W15 hb13 ch14 zz14 => ?_
  have sS2 := kC sS1 ch14
  refine aN sS2<|dW 6 40 (pw W2 210) sS2<|dO 7<|oU rfl (sG 210 (vI f.chunk) (frmL_sz rfl rfl rfl rfl rfl hI.ok.root) hb13 24 (frmL f.kind f.frm f.dst 0 0 0 0 sl0 0 sl0 z32 0 sl0 false z32 0 0 0 false z32 z32 0 z32 f.root f.chunk sl0 sl0)) fun W16 hb14 ch15 zz15 => ?_
  have sS3 := kC sS2 ch15
  refine aN sS3<|dE<|inN<|nxt<|sR<|rq 0 55 _ rfl (lA hb14 (frmL_size (frmL_sz rfl rfl rfl rfl rfl hI.ok.root)))<|rU 1 rfl (sA (frmL f.kind f.frm f.dst 0 0 0 0 sl0 0 sl0 z32 0 sl0 false z32 0 0 0 false z32 z32 0 z32 f.root f.chunk sl0 sl0).flatten.toArray (frmL_size (frmL_sz rfl rfl rfl rfl rfl hI.ok.root)) (qO ch15 (qO ch14 (qT ch13 (qO ch4 (qT ch3 hb2))))) (frmL_size (frmL_sz rfl rfl rfl rfl rfl rfl))) fun W17 hb15 ch16 zz16 => eN<|wp_ret<|?_
  have hk_ : f.kind = 5 := kI 5
  exact retC rfl hb15 (by rw [(frmL_size (frmL_sz rfl rfl rfl rfl rfl hI.ok.root))]; kernel_rfl) ⟨(by first | (rw [bareM_5 hk_, bareZ_5 hk_]; done) | (rw [bareM_5 hk_, bareZ_5 hk_]; rfl)), (kB (kB (kB (kA (kB (kA (kA (zA ch1 : Chg [] w W1) ch2) ch3) ch4) ch13) ch14) ch15) ch16)⟩
 refine eF 0 34 (f.kind.toNat : Int) (5 : Int)<|rP 1 33 vF<|eN<|cF<|sR<|?_
 by_cases hx6 : (f.kind.toNat : Int) = (6 : Int)
 ·refine eT 0 42 (f.kind.toNat : Int) (6 : Int)<|rP 1 41 vT<|eN<|cT<|?_
  refine dReg ([W2.heap.size]) (by kernel_rfl) ?_
  intro W18 ch17 sz5
  have zz17 := ch17.size
  have sS4 : Chg ([W2.heap.size]) W18 W18 := (Chg.refl _).more (by simp)
  refine dW 0 43 (pw w 178) sS4<|dV 1 44 _ rfl rfl (fun w' hw' => lR 178 (b8s f.root) (sgW hI.sz (qO hw' (qT ch17 (qO ch4 (qT ch3 (qT ch2 hb1))))) 23) (by rw [b8s_length, hI.ok.root]; kernel_rfl)) sS4<|dW 2 45 (pw w 210) sS4<|dV 3 46 (vI f.chunk) rfl rfl (fun w' hw' => fl 3 45 w.heap.size 210 (vI f.chunk) hI.sz (qO hw' (qT ch17 (qO ch4 (qT ch3 (qT ch2 hb1))))) 24) sS4<|dW 4 47 (pw w 211) sS4<|dV 5 48 (.slice z.y.A z.y.n z.y.c) rfl rfl (fun w' hw' => fl 22 47 w.heap.size 211 (.slice z.y.A z.y.n z.y.c) hI.sz (qO hw' (qT ch17 (qO ch4 (qT ch3 (qT ch2 hb1))))) 25) sS4<|dW 6 49 (pw w 212) sS4<|dV 7 50 (.slice z.f.A z.f.n z.f.c) rfl rfl (fun w' hw' => fl 36 49 w.heap.size 212 (.slice z.f.A z.f.n z.f.c) hI.sz (qO hw' (qT ch17 (qO ch4 (qT ch3 (qT ch2 hb1))))) 26) sS4<|dW 8 51 (pw W2 178) sS4<|dO 9<|oU rfl (store_segs 28 (.tmp 51) (.tmp 44) rfl 178 (by kernel_rfl) (b8s f.root) (by kernel_rfl) (by rw [b8s_length, hI.ok.root]; kernel_rfl) (b8s_one f.root) 38 (frmL_sz rfl rfl rfl rfl rfl rfl) (qT ch17 hb4) 23 [b8s f.root] (by simp) rfl (by rw [b8s_length, hI.ok.root]; rfl) (frmL f.kind f.frm f.dst 0 0 0 0 sl0 0 sl0 z32 0 sl0 false z32 0 0 0 false z32 z32 0 z32 f.root 0 sl0 sl0) rfl) fun W19 hb16 ch18 zz18 => ?_
  have sS5 := kC sS4 ch18
  refine aN sS5<|dW 10 52 (pw W2 210) sS5<|dO 11<|oU rfl (sG 210 (vI f.chunk) (frmL_sz rfl rfl rfl rfl rfl hI.ok.root) hb16 24 (frmL f.kind f.frm f.dst 0 0 0 0 sl0 0 sl0 z32 0 sl0 false z32 0 0 0 false z32 z32 0 z32 f.root f.chunk sl0 sl0)) fun W20 hb17 ch19 zz19 => ?_
  have sS6 := kC sS5 ch19
  refine aN sS6<|dW 12 53 (pw W2 211) sS6<|dO 13<|oU rfl (sG 211 (.slice z.y.A z.y.n z.y.c) (frmL_sz rfl rfl rfl rfl rfl hI.ok.root) hb17 25 (frmL f.kind f.frm f.dst 0 0 0 0 sl0 0 sl0 z32 0 sl0 false z32 0 0 0 false z32 z32 0 z32 f.root f.chunk z.y sl0)) fun W21 hb18 ch20 zz20 => ?_
  have sS7 := kC sS6 ch20
  refine aN sS7<|dW 14 54 (pw W2 212) sS7<|dO 15<|oU rfl (sG 212 (.slice z.f.A z.f.n z.f.c) (frmL_sz rfl rfl rfl rfl rfl hI.ok.root) hb18 26 (frmL f.kind f.frm f.dst 0 0 0 0 sl0 0 sl0 z32 0 sl0 false z32 0 0 0 false z32 z32 0 z32 f.root f.chunk z.y z.f)) fun W22 hb19 ch21 zz21 => ?_
  have sS8 := kC sS7 ch21
  refine aN sS8<|dE<|inN<|nxt<|sR<|rq 0 55 _ rfl (lA hb19 (frmL_size (frmL_sz rfl rfl rfl rfl rfl hI.ok.root)))<|rU 1 rfl (sA (frmL f.kind f.frm f.dst 0 0 0 0 sl0 0 sl0 z32 0 sl0 false z32 0 0 0 false z32 z32 0 z32 f.root f.chunk z.y z.f).flatten.toArray (frmL_size (frmL_sz rfl rfl rfl rfl rfl hI.ok.root)) (qO ch21 (qO ch20 (qO ch19 (qO ch18 (qT ch17 (qO ch4 (qT ch3 hb2))))))) (frmL_size (frmL_sz rfl rfl rfl rfl rfl rfl))) fun W23 hb20 ch22 zz22 => eN<|wp_ret<|?_
  have hk_ : f.kind = 6 := kI 6
  exact retC rfl hb20 (by rw [(frmL_size (frmL_sz rfl rfl rfl rfl rfl hI.ok.root))]; kernel_rfl) ⟨(by first | (rw [bareM_6 hk_, bareZ_6 hk_]; done) | (rw [bareM_6 hk_, bareZ_6 hk_]; rfl)), (kB (kB (kB (kB (kB (kA (kB (kA (kA (zA ch1 : Chg [] w W1) ch2) ch3) ch4) ch17) ch18) ch19) ch20) ch21) ch22)⟩
 refine eF 0 42 (f.kind.toNat : Int) (6 : Int)<|rP 1 41 vF<|eN<|cF<|wp_skip<|inN<|nxt<|sR<|rq 0 55 _ rfl (lA hb4 (frmL_size (frmL_sz rfl rfl rfl rfl rfl rfl)))<|rU 1 rfl (sA (frmh f.kind f.frm f.dst).flatten.toArray (frmL_size (frmL_sz rfl rfl rfl rfl rfl rfl)) (qO ch4 (qT ch3 hb2)) (frmL_size (frmL_sz rfl rfl rfl rfl rfl rfl))) fun W24 hb21 ch23 zz23 => eN<|wp_ret<|?_
 exact retC rfl hb21 (by rw [(frmL_size (frmL_sz rfl rfl rfl rfl rfl rfl))]; kernel_rfl) ⟨(by first | (rw [bareM_0 (fun e_ => by have h_ : f.kind.toNat = 1 := congrArg UInt8.toNat e_; omega) (fun e_ => by have h_ : f.kind.toNat = 2 := congrArg UInt8.toNat e_; omega) (fun e_ => by have h_ : f.kind.toNat = 3 := congrArg UInt8.toNat e_; omega) (fun e_ => by have h_ : f.kind.toNat = 4 := congrArg UInt8.toNat e_; omega) (fun e_ => by have h_ : f.kind.toNat = 5 := congrArg UInt8.toNat e_; omega) (fun e_ => by have h_ : f.kind.toNat = 6 := congrArg UInt8.toNat e_; omega), bareZ_0 (fun e_ => by have h_ : f.kind.toNat = 1 := congrArg UInt8.toNat e_; omega) (fun e_ => by have h_ : f.kind.toNat = 2 := congrArg UInt8.toNat e_; omega) (fun e_ => by have h_ : f.kind.toNat = 6 := congrArg UInt8.toNat e_; omega)]; done) | (rw [bareM_0 (fun e_ => by have h_ : f.kind.toNat = 1 := congrArg UInt8.toNat e_; omega) (fun e_ => by have h_ : f.kind.toNat = 2 := congrArg UInt8.toNat e_; omega) (fun e_ => by have h_ : f.kind.toNat = 3 := congrArg UInt8.toNat e_; omega) (fun e_ => by have h_ : f.kind.toNat = 4 := congrArg UInt8.toNat e_; omega) (fun e_ => by have h_ : f.kind.toNat = 5 := congrArg UInt8.toNat e_; omega) (fun e_ => by have h_ : f.kind.toNat = 6 := congrArg UInt8.toNat e_; omega), bareZ_0 (fun e_ => by have h_ : f.kind.toNat = 1 := congrArg UInt8.toNat e_; omega) (fun e_ => by have h_ : f.kind.toNat = 2 := congrArg UInt8.toNat e_; omega) (fun e_ => by have h_ : f.kind.toNat = 6 := congrArg UInt8.toNat e_; omega)]; rfl)), (kB (kB (kA (kA (zA ch1 : Chg [] w W1) ch2) ch3) ch4) ch23)⟩
theorem Same_any (f : Frm) (z : Zs) (g : Frm) (y : Zs) (w : World) (hL : LiesF w z f) (hI : FrmIn f) (hM : LiesF w y g) (hJ : FrmIn g) : Calls Tryz.prog 11 #[.agg (frmP f z).flatten.toArray, .agg (frmP g y).flatten.toArray] w fun e w' => ∃ v, e = .returned (.bool v) ∧ (v = true ↔ f = g) ∧ Chg [] w w' := by
 have hLin_ : z.In fun g => g < w.heap.size → Wk.Off g [] := ⟨fun _ _ _ _ => trivial, fun _ _ _ _ => trivial, fun _ _ _ _ => trivial, fun _ _ _ _ => trivial, fun _ _ _ _ => trivial⟩
 have hLunc_ := hL.nu.nc
 have hLucm_ := hL.nu.cm
 have hLpnc_ := hL.np.nc
 have hLpcm_ := hL.np.cm
 have hLinc_ := hL.ni.nc
 have hLicm_ := hL.ni.cm
 have hLync_ := hL.ny.nc
 have hLycm_ := hL.ny.cm
 have hLfnc_ := hL.nf.nc
 have hLfcm_ := hL.nf.cm
 have hMin_ : y.In fun g => g < w.heap.size → Wk.Off g [] := ⟨fun _ _ _ _ => trivial, fun _ _ _ _ => trivial, fun _ _ _ _ => trivial, fun _ _ _ _ => trivial, fun _ _ _ _ => trivial⟩
 have hMunc_ := hM.nu.nc
 have hMucm_ := hM.nu.cm
 have hMpnc_ := hM.np.nc
 have hMpcm_ := hM.np.cm
 have hMinc_ := hM.ni.nc
 have hMicm_ := hM.ni.cm
 have hMync_ := hM.ny.nc
 have hMycm_ := hM.ny.cm
 have hMfnc_ := hM.nf.nc
 have hMfcm_ := hM.nf.cm
 refine calls_of_wp Tryz.func11 rfl ?_
 refine sR<|nW 0 2 ((frmP f z).flatten.toArray) 38 fun W1 hb1 ch1 sz1 => nW 1 3 ((frmP g y).flatten.toArray) 38 fun W2 hb2 ch2 sz2 => rP 2 4 vF<|eN<|wp_seq<|?_
 refine Wk.cut (fun a wj => ∃ (q5 : Nat) (q6 : Nat), a = SameF_J1_1 a.tmps (pw w 0) (pw W1 0) (pt q5 0) (pt q6 0) ∧ Chg [] W2 wj ∧ wj.heap[q5]? = some (.cells #[vI f.pTo, vB f.pKind.toNat, vU f.pSeq, vI f.pAbout, .slice z.u.A z.u.n z.u.c] 26 (0, 0)) ∧ wj.heap[q6]? = some (.cells #[vI g.pTo, vB g.pKind.toNat, vU g.pSeq, vI g.pAbout, .slice y.u.A y.u.n y.u.c] 26 (0, 0))) ?_ ?_
 ·refine dReg ([]) (by kernel_rfl) ?_
  intro W3 ch3 sz3
  have zz3 := ch3.size
  have sS1 : Chg ([]) W3 W3 := (Chg.refl _).more (by simp)
  refine dW 0 9 (pw w 3) sS1<|dV 1 10 _ rfl rfl (fun w' hw' => lR 3 [vI f.pTo, vB f.pKind.toNat, vU f.pSeq, vI f.pAbout, .slice z.u.A z.u.n z.u.c] (sgR hI.sz (qT hw' (qT ch3 (qT ch2 hb1))) 3 5 rfl)) sS1<|dW 2 11 (pw W1 3) sS1<|dV 3 12 _ rfl rfl (fun w' hw' => lR 3 [vI g.pTo, vB g.pKind.toNat, vU g.pSeq, vI g.pAbout, .slice y.u.A y.u.n y.u.c] (sgR hJ.sz (qT hw' (qT ch3 hb2)) 3 5 rfl)) sS1 ?_
  refine dOp2 4 5 (by kernel_rfl) ?_ ?_
  ·refine oN 5 #[vI 0, vB 0, vU 0, vI 0, .slice none 0 0] 26 fun W4 hb3 ch4 sz4 => ?_
   have sS2 := kA sS1 ch4
   refine aN sS2<|dO 5<|oN 6 #[vI 0, vB 0, vU 0, vI 0, .slice none 0 0] 26 fun W5 hb4 ch5 sz5 => ?_
   have sS3 := kA sS2 ch5
   refine aN sS3<|dO 6<|oU rfl (Wk.storeR 26 (.tmp 5) (.tmp 10) rfl W3.heap.size 0 (by kernel_rfl) ([vI f.pTo, vB f.pKind.toNat, vU f.pSeq, vI f.pAbout, .slice z.u.A z.u.n z.u.c]) (by kernel_rfl) (by kernel_rfl) (by intro v hv; simp at hv; rcases hv with h | h | h | h | h <;> (subst h; rfl)) 26 ([vI 0, vB 0, vU 0, vI 0, .slice none 0 0]) (qT ch5 hb3) (by simp)) fun W6 hb5 ch6 _ => ?_
   replace hb5 : W6.heap[W3.heap.size]? = some (.cells #[vI f.pTo, vB f.pKind.toNat, vU f.pSeq, vI f.pAbout, .slice z.u.A z.u.n z.u.c] 26 (0, 0)) := hb5
   have zz6 := ch6.size
   have sS4 := kB sS3 ch6
   refine aN sS4<|dO 7<|oU rfl (Wk.storeR 26 (.tmp 6) (.tmp 12) rfl W4.heap.size 0 (by kernel_rfl) ([vI g.pTo, vB g.pKind.toNat, vU g.pSeq, vI g.pAbout, .slice y.u.A y.u.n y.u.c]) (by kernel_rfl) (by kernel_rfl) (by intro v hv; simp at hv; rcases hv with h | h | h | h | h <;> (subst h; rfl)) 26 ([vI 0, vB 0, vU 0, vI 0, .slice none 0 0]) (qO ch6 hb4) (by simp)) fun W7 hb6 ch7 _ => ?_
   replace hb6 : W7.heap[W4.heap.size]? = some (.cells #[vI g.pTo, vB g.pKind.toNat, vU g.pSeq, vI g.pAbout, .slice y.u.A y.u.n y.u.c] 26 (0, 0)) := hb6
   have zz7 := ch7.size
   have sS5 := kB sS4 ch7
   refine aN sS5<|dN<|?_
   exact ⟨W3.heap.size, W4.heap.size, by kernel_rfl, (Chg.step (Chg.step (Chg.step (Chg.step (Chg.step ((Chg.refl _).more (by simp) : Chg [] W2 W2) ch3 trivial) ch4 trivial) ch5 trivial) ch6 ⟨.inr (by omega), trivial⟩) ch7 ⟨.inr (by omega), trivial⟩), (qO ch7 hb5), hb6⟩
  refine oN 6 #[vI 0, vB 0, vU 0, vI 0, .slice none 0 0] 26 fun W8 hb7 ch8 sz6 => ?_
  have sS6 := kA sS1 ch8
  refine aN sS6<|dO 4<|oN 5 #[vI 0, vB 0, vU 0, vI 0, .slice none 0 0] 26 fun W10 hb8 ch9 sz7 => ?_
  have sS7 := kA sS6 ch9
  refine aN sS7<|dO 6<|oU rfl (Wk.storeR 26 (.tmp 5) (.tmp 10) rfl W8.heap.size 0 (by kernel_rfl) ([vI f.pTo, vB f.pKind.toNat, vU f.pSeq, vI f.pAbout, .slice z.u.A z.u.n z.u.c]) (by kernel_rfl) (by kernel_rfl) (by intro v hv; simp at hv; rcases hv with h | h | h | h | h <;> (subst h; rfl)) 26 ([vI 0, vB 0, vU 0, vI 0, .slice none 0 0]) hb8 (by simp)) fun W11 hb9 ch10 _ => ?_
  replace hb9 : W11.heap[W8.heap.size]? = some (.cells #[vI f.pTo, vB f.pKind.toNat, vU f.pSeq, vI f.pAbout, .slice z.u.A z.u.n z.u.c] 26 (0, 0)) := hb9
  have zz10 := ch10.size
  have sS8 := kB sS7 ch10
  refine aN sS8<|dO 7<|oU rfl (Wk.storeR 26 (.tmp 6) (.tmp 12) rfl W3.heap.size 0 (by kernel_rfl) ([vI g.pTo, vB g.pKind.toNat, vU g.pSeq, vI g.pAbout, .slice y.u.A y.u.n y.u.c]) (by kernel_rfl) (by kernel_rfl) (by intro v hv; simp at hv; rcases hv with h | h | h | h | h <;> (subst h; rfl)) 26 ([vI 0, vB 0, vU 0, vI 0, .slice none 0 0]) (qO ch10 (qT ch9 hb7)) (by simp)) fun W12 hb10 ch11 _ => ?_
  replace hb10 : W12.heap[W3.heap.size]? = some (.cells #[vI g.pTo, vB g.pKind.toNat, vU g.pSeq, vI g.pAbout, .slice y.u.A y.u.n y.u.c] 26 (0, 0)) := hb10
  have zz11 := ch11.size
  have sS9 := kB sS8 ch11
  refine aN sS9<|dN<|?_
  exact ⟨W8.heap.size, W3.heap.size, by kernel_rfl, (Chg.step (Chg.step (Chg.step (Chg.step (Chg.step ((Chg.refl _).more (by simp) : Chg [] W2 W2) ch3 trivial) ch8 trivial) ch9 trivial) ch10 ⟨.inr (by omega), trivial⟩) ch11 ⟨.inr (by omega), trivial⟩), (qO ch11 hb9), hb10⟩
 rintro aa1 W13 ⟨q5, q6, hF1, ch12, hq5, hq6⟩
 have zz12 := ch12.size
 generalize aa1.tmps = bb1 at hF1
 subst hF1
 refine nxt<|wp_seq<|?_
 refine Wk.cut (fun a wj => ∃ (q7 : Nat) (q8 : Nat), a = SameF_J2_2 a.tmps (pw w 0) (pw W1 0) (pt q5 0) (pt q6 0) (pt q7 0) (pt q8 0) ∧ Chg [] W13 wj ∧ wj.heap[q7]? = some (.cells (Mur.msgC f.gos.kind z.p.A z.p.n z.p.c f.gos.sum f.gos.cnt z.i.A z.i.n z.i.c f.gos.ans).toArray 31 (0, 0)) ∧ wj.heap[q8]? = some (.cells (Mur.msgC g.gos.kind y.p.A y.p.n y.p.c g.gos.sum g.gos.cnt y.i.A y.i.n y.i.c g.gos.ans).toArray 31 (0, 0))) ?_ ?_
 ·refine dReg ([]) (by kernel_rfl) ?_
  intro W14 ch13 sz8
  have zz13 := ch13.size
  have sS10 : Chg ([]) W14 W14 := (Chg.refl _).more (by simp)
  refine dW 0 13 (pw w 8) sS10<|dV 1 14 _ rfl rfl (fun w' hw' => lR 8 (Mur.msgC f.gos.kind z.p.A z.p.n z.p.c f.gos.sum f.gos.cnt z.i.A z.i.n z.i.c f.gos.ans) (sgR hI.sz (qT hw' (qT ch13 (qT ch12 (qT ch2 hb1)))) 8 6 rfl) (by rw [msgC_length hI.ok.sum]; kernel_rfl)) sS10<|dW 2 15 (pw W1 8) sS10<|dV 3 16 _ rfl rfl (fun w' hw' => lR 8 (Mur.msgC g.gos.kind y.p.A y.p.n y.p.c g.gos.sum g.gos.cnt y.i.A y.i.n y.i.c g.gos.ans) (sgR hJ.sz (qT hw' (qT ch13 (qT ch12 hb2))) 8 6 rfl) (by rw [msgC_length hJ.ok.sum]; kernel_rfl)) sS10 ?_
  refine dOp2 4 5 (by kernel_rfl) ?_ ?_
  ·refine oN 7 ZM 31 fun W15 hb11 ch14 sz9 => ?_
   have sS11 := kA sS10 ch14
   refine aN sS11<|dO 5<|oN 8 ZM 31 fun W16 hb12 ch15 sz10 => ?_
   have sS12 := kA sS11 ch15
   refine aN sS12<|dO 6<|oU rfl (sB (Mur.msgC f.gos.kind z.p.A z.p.n z.p.c f.gos.sum f.gos.cnt z.i.A z.i.n z.i.c f.gos.ans).toArray (msgC_size hI.ok.sum) msgC_all (qT ch15 hb11) (by kernel_rfl)) fun W17 hb13 ch16 zz16 => ?_
   have sS13 := kB sS12 ch16
   refine aN sS13<|dO 7<|oU rfl (sB (Mur.msgC g.gos.kind y.p.A y.p.n y.p.c g.gos.sum g.gos.cnt y.i.A y.i.n y.i.c g.gos.ans).toArray (msgC_size hJ.ok.sum) msgC_all (qO ch16 hb12) (by kernel_rfl)) fun W18 hb14 ch17 zz17 => ?_
   have sS14 := kB sS13 ch17
   refine aN sS14<|dN<|?_
   exact ⟨W14.heap.size, W15.heap.size, by kernel_rfl, (Chg.step (Chg.step (Chg.step (Chg.step (Chg.step ((Chg.refl _).more (by simp) : Chg [] W13 W13) ch13 trivial) ch14 trivial) ch15 trivial) ch16 ⟨.inr (by omega), trivial⟩) ch17 ⟨.inr (by omega), trivial⟩), (qO ch17 hb13), hb14⟩
  refine oN 8 ZM 31 fun W19 hb15 ch18 sz11 => ?_
  have sS15 := kA sS10 ch18
  refine aN sS15<|dO 4<|oN 7 ZM 31 fun W20 hb16 ch19 sz12 => ?_
  have sS16 := kA sS15 ch19
  refine aN sS16<|dO 6<|oU rfl (sB (Mur.msgC f.gos.kind z.p.A z.p.n z.p.c f.gos.sum f.gos.cnt z.i.A z.i.n z.i.c f.gos.ans).toArray (msgC_size hI.ok.sum) msgC_all hb16 (by kernel_rfl)) fun W21 hb17 ch20 zz20 => ?_
  have sS17 := kB sS16 ch20
  refine aN sS17<|dO 7<|oU rfl (sB (Mur.msgC g.gos.kind y.p.A y.p.n y.p.c g.gos.sum g.gos.cnt y.i.A y.i.n y.i.c g.gos.ans).toArray (msgC_size hJ.ok.sum) msgC_all (qO ch20 (qT ch19 hb15)) (by kernel_rfl)) fun W22 hb18 ch21 zz21 => ?_
  have sS18 := kB sS17 ch21
  refine aN sS18<|dN<|?_
  exact ⟨W19.heap.size, W14.heap.size, by kernel_rfl, (Chg.step (Chg.step (Chg.step (Chg.step (Chg.step ((Chg.refl _).more (by simp) : Chg [] W13 W13) ch13 trivial) ch18 trivial) ch19 trivial) ch20 ⟨.inr (by omega), trivial⟩) ch21 ⟨.inr (by omega), trivial⟩), (qO ch21 hb17), hb18⟩
 rintro aa2 W23 ⟨q7, q8, hF2, ch22, hq7, hq8⟩
 have zz22 := ch22.size
 generalize aa2.tmps = bb2 at hF2
 subst hF2
 refine nxt<|sR<|rP 0 17 (pw w 0)<|rF 1 18 0 (vB f.kind.toNat) hI.sz (qT ch22 (qT ch12 (qT ch2 hb1))) 0<|rP 2 19 (pw W1 0)<|rF 3 20 0 (vB g.kind.toNat) hJ.sz (qT ch22 (qT ch12 hb2)) 0 ?_
 by_cases hx1 : (f.kind.toNat : Int) = (g.kind.toNat : Int)
 ·refine eT 4 21 (f.kind.toNat : Int) (g.kind.toNat : Int)<|rP 5 22 vT<|rP 6 23 (pw w 1)<|rF 7 24 1 (vI f.frm) hI.sz (qT ch22 (qT ch12 (qT ch2 hb1))) 1<|rP 8 25 (pw W1 1)<|rF 9 26 1 (vI g.frm) hJ.sz (qT ch22 (qT ch12 hb2)) 1 ?_
  by_cases hx2 : f.frm = g.frm
  ·refine eT 10 27 f.frm g.frm<|rP 11 28 vT<|rP 12 29 vT<|rP 13 30 (pw w 2)<|mN 155 [(2, pw w 0), (3, pw W1 0), (5, pt q5 0), (6, pt q6 0), (7, pt q7 0), (8, pt q8 0), (29, vT), (30, pw w 2)] fun _ => rF 14 31 2 (vI f.dst) hI.sz (qT ch22 (qT ch12 (qT ch2 hb1))) 2<|rP 15 32 (pw W1 2)<|rF 16 33 2 (vI g.dst) hJ.sz (qT ch22 (qT ch12 hb2)) 2 ?_
   by_cases hx3 : f.dst = g.dst
   ·refine eT 17 34 f.dst g.dst<|rP 18 35 vT<|rP 19 36 vT<|rP 20 37 (pt q5 0)<|rL 21 38 0 (vI f.pTo) (qT ch22 hq5)<|rP 22 39 (pt q6 0)<|rL 23 40 0 (vI g.pTo) (qT ch22 hq6) ?_
    by_cases hx4 : f.pTo = g.pTo
    ·refine eT 24 41 f.pTo g.pTo<|rP 25 42 vT<|rP 26 43 vT<|rP 27 44 (pt q5 1)<|mN 155 [(2, pw w 0), (3, pw W1 0), (5, pt q5 0), (6, pt q6 0), (7, pt q7 0), (8, pt q8 0), (43, vT), (44, pt q5 1)] fun _ => rL 28 45 1 (vB f.pKind.toNat) (qT ch22 hq5)<|rP 29 46 (pt q6 1)<|rL 30 47 1 (vB g.pKind.toNat) (qT ch22 hq6) ?_
     by_cases hx5 : (f.pKind.toNat : Int) = (g.pKind.toNat : Int)
     ·refine eT 31 48 (f.pKind.toNat : Int) (g.pKind.toNat : Int)<|rP 32 49 vT<|rP 33 50 vT<|rP 34 51 (pt q5 2)<|rL 35 52 2 (vU f.pSeq) (qT ch22 hq5)<|rP 36 53 (pt q6 2)<|rL 37 54 2 (vU g.pSeq) (qT ch22 hq6) ?_
      by_cases hx6 : (f.pSeq : Int) = (g.pSeq : Int)
      ·refine eT 38 55 (f.pSeq : Int) (g.pSeq : Int)<|rP 39 56 vT<|rP 40 57 vT<|rP 41 58 (pt q5 3)<|mN 155 [(2, pw w 0), (3, pw W1 0), (5, pt q5 0), (6, pt q6 0), (7, pt q7 0), (8, pt q8 0), (57, vT), (58, pt q5 3)] fun _ => rL 42 59 3 (vI f.pAbout) (qT ch22 hq5)<|rP 43 60 (pt q6 3)<|rL 44 61 3 (vI g.pAbout) (qT ch22 hq6) ?_
       by_cases hx7 : f.pAbout = g.pAbout
       ·refine eT 45 62 f.pAbout g.pAbout<|rP 46 63 vT<|rP 47 64 vT<|rP 48 65 (pt q5 4)<|rL 49 66 4 (.slice z.u.A z.u.n z.u.c) (qT ch22 hq5)<|rP 50 67 (pt q6 4)<|rL 51 68 4 (.slice y.u.A y.u.n y.u.c) (qT ch22 hq6) ?_
        have kk4 := kA (kA (kA (zA ch1 : Chg [] w W1) ch2) ch12) ch22
        refine rK 52 69 (EqualU_any z.u.A z.u.n z.u.c y.u.A y.u.n y.u.c f.pUpd g.pUpd W23 (LiesF.chg hL kk4 hLin_).upd (LiesF.chg hM kk4 hMin_).upd (fun x_ h_ => ⟨hI.upd x_ h_, hI.ok.upd x_ h_⟩) (fun x_ h_ => ⟨hJ.upd x_ h_, hJ.ok.upd x_ h_⟩) (by omega)) ?_
        by_cases hpr1 : f.pUpd = g.pUpd
        ·rw [decide_eq_true hpr1]
         rintro _ W24 ⟨rfl, ch23⟩
         have zz23 := ch23.size
         refine rP 53 70 vT<|rP 54 71 vT<|rP 55 72 (pt q7 0)<|mN 155 [(2, pw w 0), (3, pw W1 0), (7, pt q7 0), (8, pt q8 0), (71, vT), (72, pt q7 0)] fun _ => rq 56 73 _ rfl (ld 5 72 q7 0 (vB f.gos.kind.toNat) (show World.cell? _ ⟨_, 0 + 0, _⟩ = _ from msg_kind (range_row (qT ch23 hq7))))<|rP 57 74 (pt q8 0)<|rq 58 75 _ rfl (ld 5 74 q8 0 (vB g.gos.kind.toNat) (show World.cell? _ ⟨_, 0 + 0, _⟩ = _ from msg_kind (range_row (qT ch23 hq8)))) ?_
         by_cases hx8 : (f.gos.kind.toNat : Int) = (g.gos.kind.toNat : Int)
         ·refine eT 59 76 (f.gos.kind.toNat : Int) (g.gos.kind.toNat : Int)<|rP 60 77 vT<|rP 61 78 vT<|rP 62 79 (pt q7 1)<|rq 63 80 _ rfl (ld 22 79 q7 1 (.slice z.p.A z.p.n z.p.c) (show World.cell? _ ⟨_, 0 + 1, _⟩ = _ from msg_pre (range_row (qT ch23 hq7))))<|rP 64 81 (pt q8 1)<|rq 65 82 _ rfl (ld 22 81 q8 1 (.slice y.p.A y.p.n y.p.c) (show World.cell? _ ⟨_, 0 + 1, _⟩ = _ from msg_pre (range_row (qT ch23 hq8)))) ?_
          have kk5 := kA kk4 ch23
          refine rK 66 83 (BEqual_any z.p.A z.p.n z.p.c y.p.A y.p.n y.p.c f.gos.pre g.gos.pre W24 (byt_chg hL.pre kk5 (fun g off e hl => trivial)) (byt_chg hM.pre kk5 (fun g off e hl => trivial))) ?_
          by_cases hpr2 : f.gos.pre = g.gos.pre
          ·rw [decide_eq_true hpr2]
           rintro _ W25 ⟨rfl, ch24⟩
           have zz24 := ch24.size
           refine rP 67 84 vT<|rP 68 85 vT<|rP 69 86 (pt q7 2)<|mN 155 [(2, pw w 0), (3, pw W1 0), (7, pt q7 0), (8, pt q8 0), (85, vT), (86, pt q7 2)] fun _ => rq 70 87 _ rfl (lR 2 (b8s f.gos.sum) (show World.rangeAt _ _ (0 + 2) _ from msg_sum (range_row (qT ch24 (qT ch23 hq7)))) (by rw [b8s_length, hI.ok.sum]; kernel_rfl))<|rP 71 88 (pt q8 2)<|rq 72 89 _ rfl (lR 2 (b8s g.gos.sum) (show World.rangeAt _ _ (0 + 2) _ from msg_sum (range_row (qT ch24 (qT ch23 hq8)))) (by rw [b8s_length, hJ.ok.sum]; kernel_rfl)) ?_
           by_cases hpr3 : f.gos.sum = g.gos.sum
           ·refine rq 73 90 vT rfl (run_eql_yes digT f.gos.sum g.gos.sum hI.ok.sum hJ.ok.sum hpr3 _ (.tmp 87) (.tmp 89) 28 rfl (by kernel_rfl) (by kernel_rfl))<|rP 74 91 vT<|rP 75 92 vT<|rP 76 93 (pt q7 34)<|rq 77 94 _ rfl (ld 3 93 q7 34 (vI f.gos.cnt) (show World.cell? _ ⟨_, 0 + 34, _⟩ = _ from msg_cnt hI.ok.sum (range_row (qT ch24 (qT ch23 hq7)))))<|rP 78 95 (pt q8 34)<|rq 79 96 _ rfl (ld 3 95 q8 34 (vI g.gos.cnt) (show World.cell? _ ⟨_, 0 + 34, _⟩ = _ from msg_cnt hJ.ok.sum (range_row (qT ch24 (qT ch23 hq8))))) ?_
            by_cases hx9 : f.gos.cnt = g.gos.cnt
            ·refine eT 80 97 f.gos.cnt g.gos.cnt<|rP 81 98 vT<|rP 82 99 vT<|rP 83 100 (pt q7 35)<|mN 155 [(2, pw w 0), (3, pw W1 0), (7, pt q7 0), (8, pt q8 0), (99, vT), (100, pt q7 35)] fun _ => rq 84 101 _ rfl (ld 29 100 q7 35 (.slice z.i.A z.i.n z.i.c) (show World.cell? _ ⟨_, 0 + 35, _⟩ = _ from msg_items hI.ok.sum (range_row (qT ch24 (qT ch23 hq7)))))<|rP 85 102 (pt q8 35)<|rq 86 103 _ rfl (ld 29 102 q8 35 (.slice y.i.A y.i.n y.i.c) (show World.cell? _ ⟨_, 0 + 35, _⟩ = _ from msg_items hJ.ok.sum (range_row (qT ch24 (qT ch23 hq8))))) ?_
             have kk6 := kA kk5 ch24
             refine rK 87 104 (EqualA_any z.i.A z.i.n z.i.c y.i.A y.i.n y.i.c f.gos.items g.gos.items W25 (LiesF.chg hL kk6 hLin_).its.slR (LiesF.chg hM kk6 hMin_).its.slR (fun _ _ => trivial) (fun _ _ => trivial) (by omega)) ?_
             by_cases hpr4 : f.gos.items = g.gos.items
             ·rw [decide_eq_true hpr4]
              rintro _ W26 ⟨rfl, ch25⟩
              have zz25 := ch25.size
              refine rP 88 105 vT<|rP 89 106 vT<|rP 90 107 (pt q7 36)<|rq 91 108 _ rfl (ld 4 107 q7 36 (.bool f.gos.ans) (show World.cell? _ ⟨_, 0 + 36, _⟩ = _ from msg_ans hI.ok.sum (range_row (qT ch25 (qT ch24 (qT ch23 hq7))))))<|rP 92 109 (pt q8 36)<|rq 93 110 _ rfl (ld 4 109 q8 36 (.bool g.gos.ans) (show World.cell? _ ⟨_, 0 + 36, _⟩ = _ from msg_ans hJ.ok.sum (range_row (qT ch25 (qT ch24 (qT ch23 hq8)))))) ?_
              by_cases hpr5 : f.gos.ans = g.gos.ans
              ·refine rq 94 111 _ rfl (dqT hpr5 (run_eql_bool (.tmp 108) (.tmp 110) 4 rfl f.gos.ans g.gos.ans (by kernel_rfl) (by kernel_rfl)))<|rP 95 112 vT<|rP 96 113 vT<|rP 97 114 (pw w 45)<|mN 155 [(2, pw w 0), (3, pw W1 0), (113, vT), (114, pw w 45)] fun _ => rq 98 115 _ rfl (lR 45 (Mur.claimC f.cKey f.cNode f.cInc f.cCnt f.cGone) (sgR hI.sz (qT ch25 (qT ch24 (qT ch23 (qT ch22 (qT ch12 (qT ch2 hb1)))))) 14 5 rfl) (by rw [claimC_length hI.ok.key]; kernel_rfl))<|rP 99 116 (pw W1 45)<|rq 100 117 _ rfl (lR 45 (Mur.claimC g.cKey g.cNode g.cInc g.cCnt g.cGone) (sgR hJ.sz (qT ch25 (qT ch24 (qT ch23 (qT ch22 (qT ch12 hb2))))) 14 5 rfl) (by rw [claimC_length hJ.ok.key]; kernel_rfl)) ?_
               by_cases hpr6 : f.cKey = g.cKey ∧ f.cNode = g.cNode ∧ f.cInc = g.cInc ∧ f.cCnt = g.cCnt ∧ f.cGone = g.cGone
               ·refine rq 101 118 _ rfl (dqT hpr6 (run_eql_claim (.tmp 115) (.tmp 117) 33 rfl hI.ok.key hJ.ok.key (wf64 hI.cNo.1 hI.cNo.2) (wf64 hJ.cNo.1 hJ.cNo.2) hI.ok.inc hJ.ok.inc hI.ok.cnt hJ.ok.cnt (by kernel_rfl) (by kernel_rfl)))<|rP 102 119 vT<|rP 103 120 vT<|rP 104 121 (pw w 81)<|rq 105 122 _ rfl (lR 81 (Mur.attC f.att.k f.att.r f.att.n f.att.t) (sgR hI.sz (qT ch25 (qT ch24 (qT ch23 (qT ch22 (qT ch12 (qT ch2 hb1)))))) 19 4 frmL_att) (by rw [attC_length f.att.hk f.att.hr f.att.ht]; kernel_rfl))<|rP 106 123 (pw W1 81)<|rq 107 124 _ rfl (lR 81 (Mur.attC g.att.k g.att.r g.att.n g.att.t) (sgR hJ.sz (qT ch25 (qT ch24 (qT ch23 (qT ch22 (qT ch12 hb2))))) 19 4 frmL_att) (by rw [attC_length g.att.hk g.att.hr g.att.ht]; kernel_rfl)) ?_
                by_cases hpr7 : f.att = g.att
                ·refine rq 108 125 _ rfl (dqT ((Mur.Att.eq_iff f.att g.att).1 hpr7) (run_eql_att (.tmp 122) (.tmp 124) 35 rfl f.att.hk f.att.hr f.att.ht g.att.hk g.att.hr g.att.ht f.att.hn g.att.hn (by kernel_rfl) (by kernel_rfl)))<|rP 109 126 vT<|rP 110 127 vT<|rP 111 128 (pw w 178)<|mN 155 [(2, pw w 0), (3, pw W1 0), (127, vT), (128, pw w 178)] fun _ => rq 112 129 _ rfl (lR 178 (b8s f.root) (sgW hI.sz (qT ch25 (qT ch24 (qT ch23 (qT ch22 (qT ch12 (qT ch2 hb1)))))) 23) (by rw [b8s_length, hI.ok.root]; kernel_rfl))<|rP 113 130 (pw W1 178)<|rq 114 131 _ rfl (lR 178 (b8s g.root) (sgW hJ.sz (qT ch25 (qT ch24 (qT ch23 (qT ch22 (qT ch12 hb2))))) 23) (by rw [b8s_length, hJ.ok.root]; kernel_rfl)) ?_
                 by_cases hpr8 : f.root = g.root
                 ·refine rq 115 132 vT rfl (run_eql_yes digT f.root g.root hI.ok.root hJ.ok.root hpr8 _ (.tmp 129) (.tmp 131) 28 rfl (by kernel_rfl) (by kernel_rfl))<|rP 116 133 vT<|rP 117 134 vT<|rP 118 135 (pw w 210)<|rF 119 136 210 (vI f.chunk) hI.sz (qT ch25 (qT ch24 (qT ch23 (qT ch22 (qT ch12 (qT ch2 hb1)))))) 24<|rP 120 137 (pw W1 210)<|rF 121 138 210 (vI g.chunk) hJ.sz (qT ch25 (qT ch24 (qT ch23 (qT ch22 (qT ch12 hb2))))) 24 ?_
                  by_cases hx10 : f.chunk = g.chunk
                  ·refine eT 122 139 f.chunk g.chunk<|rP 123 140 vT<|rP 124 141 vT<|rP 125 142 (pw w 211)<|mN 155 [(2, pw w 0), (3, pw W1 0), (141, vT), (142, pw w 211)] fun _ => rF 126 143 211 (.slice z.y.A z.y.n z.y.c) hI.sz (qT ch25 (qT ch24 (qT ch23 (qT ch22 (qT ch12 (qT ch2 hb1)))))) 25<|rP 127 144 (pw W1 211)<|rF 128 145 211 (.slice y.y.A y.y.n y.y.c) hJ.sz (qT ch25 (qT ch24 (qT ch23 (qT ch22 (qT ch12 hb2))))) 25 ?_
                   have kk7 := kA kk6 ch25
                   refine rK 129 146 (BEqual_any z.y.A z.y.n z.y.c y.y.A y.y.n y.y.c f.byt g.byt W26 (byt_chg hL.byt kk7 (fun g off e hl => trivial)) (byt_chg hM.byt kk7 (fun g off e hl => trivial))) ?_
                   by_cases hpr9 : f.byt = g.byt
                   ·rw [decide_eq_true hpr9]
                    rintro _ W27 ⟨rfl, ch26⟩
                    have zz26 := ch26.size
                    refine rP 130 147 vT<|rP 131 148 vT<|rP 132 149 (pw w 212)<|rF 133 150 212 (.slice z.f.A z.f.n z.f.c) hI.sz (qT ch26 (qT ch25 (qT ch24 (qT ch23 (qT ch22 (qT ch12 (qT ch2 hb1))))))) 26<|rP 134 151 (pw W1 212)<|rF 135 152 212 (.slice y.f.A y.f.n y.f.c) hJ.sz (qT ch26 (qT ch25 (qT ch24 (qT ch23 (qT ch22 (qT ch12 hb2)))))) 26 ?_
                    have kk8 := kA kk7 ch26
                    refine rK 136 153 (EqualD_any z.f.A z.f.n z.f.c y.f.A y.f.n y.f.c f.prf g.prf W27 (LiesF.chg hL kk8 hLin_).prf (LiesF.chg hM kk8 hMin_).prf hI.ok.prf hJ.ok.prf (by omega)) ?_
                    by_cases hpr10 : f.prf = g.prf
                    ·rw [decide_eq_true hpr10]
                     rintro _ W28 ⟨rfl, ch27⟩
                     have zz27 := ch27.size
                     exact rP 137 154 vT<|rP 138 4 vT<|eN<|wp_ret<|rt vT (yesB (Mur.frm_eq (by first | exact hx1 | omega) (by first | exact hx2 | omega) (by first | exact hx3 | omega) (by first | exact hx4 | omega) (by first | exact hx5 | omega) (by first | exact hx6 | omega) (by first | exact hx7 | omega) (hpr1) (by first | exact hx8 | omega) (hpr2) (hpr3) (by first | exact hx9 | omega) (hpr4) (hpr5) (hpr6) (hpr7) (hpr8) (by first | exact hx10 | omega) (hpr9) (hpr10)) (kA kk8 ch27))
                    rw [decide_eq_false hpr10]
                    rintro _ W29 ⟨rfl, ch28⟩
                    have zz28 := ch28.size
                    exact rP 137 154 vF<|rP 138 4 vF<|eN<|wp_ret<|rt vF (noB (fun e_ => absurd (congrArg (fun x_ : Frm => x_.prf) e_) (hpr10)) (kA kk8 ch28))
                   rw [decide_eq_false hpr9]
                   rintro _ W30 ⟨rfl, ch29⟩
                   have zz29 := ch29.size
                   exact mV 155 8 130 [(141, vT), (146, vF)] 154 vF fun _ => rP 138 4 vF<|eN<|wp_ret<|rt vF (noB (fun e_ => absurd (congrArg (fun x_ : Frm => x_.byt) e_) (hpr9)) (kA kk7 ch29))
                  exact eF 122 139 f.chunk g.chunk<|mV 155 15 123 [(134, vT), (139, vF)] 154 vF fun _ => rP 138 4 vF<|eN<|wp_ret<|rt vF (noB (fun e_ => absurd (congrArg (fun x_ : Frm => x_.chunk) e_) (by first | exact hx10 | omega)) (kA kk6 ch25))
                 exact rq 115 132 vF rfl (run_eql_no digT f.root g.root hI.ok.root hJ.ok.root hpr8 _ (.tmp 129) (.tmp 131) 28 rfl (by kernel_rfl) (by kernel_rfl))<|mV 155 22 116 [(127, vT), (132, vF)] 154 vF fun _ => rP 138 4 vF<|eN<|wp_ret<|rt vF (noB (fun e_ => absurd (congrArg (fun x_ : Frm => x_.root) e_) (hpr8)) (kA kk6 ch25))
                exact rq 108 125 _ rfl (dqF (fun q_ => hpr7 ((Mur.Att.eq_iff f.att g.att).2 q_)) (run_eql_att (.tmp 122) (.tmp 124) 35 rfl f.att.hk f.att.hr f.att.ht g.att.hk g.att.hr g.att.ht f.att.hn g.att.hn (by kernel_rfl) (by kernel_rfl)))<|mV 155 29 109 [(120, vT), (125, vF)] 154 vF fun _ => rP 138 4 vF<|eN<|wp_ret<|rt vF (noB (fun e_ => absurd (congrArg (fun x_ : Frm => x_.att) e_) (hpr7)) (kA kk6 ch25))
               exact rq 101 118 _ rfl (dqF hpr6 (run_eql_claim (.tmp 115) (.tmp 117) 33 rfl hI.ok.key hJ.ok.key (wf64 hI.cNo.1 hI.cNo.2) (wf64 hJ.cNo.1 hJ.cNo.2) hI.ok.inc hJ.ok.inc hI.ok.cnt hJ.ok.cnt (by kernel_rfl) (by kernel_rfl)))<|mV 155 36 102 [(113, vT), (118, vF)] 154 vF fun _ => rP 138 4 vF<|eN<|wp_ret<|rt vF (noB (fun e_ => absurd ⟨(congrArg (fun x_ : Frm => x_.cKey) e_), (congrArg (fun x_ : Frm => x_.cNode) e_), (congrArg (fun x_ : Frm => x_.cInc) e_), (congrArg (fun x_ : Frm => x_.cCnt) e_), (congrArg (fun x_ : Frm => x_.cGone) e_)⟩ (hpr6)) (kA kk6 ch25))
              exact rq 94 111 _ rfl (dqF hpr5 (run_eql_bool (.tmp 108) (.tmp 110) 4 rfl f.gos.ans g.gos.ans (by kernel_rfl) (by kernel_rfl)))<|mV 155 43 95 [(106, vT), (111, vF)] 154 vF fun _ => rP 138 4 vF<|eN<|wp_ret<|rt vF (noB (fun e_ => absurd (congrArg (fun x_ : Frm => x_.gos.ans) e_) (hpr5)) (kA kk6 ch25))
             rw [decide_eq_false hpr4]
             rintro _ W31 ⟨rfl, ch30⟩
             have zz30 := ch30.size
             exact mV 155 50 88 [(99, vT), (104, vF)] 154 vF fun _ => rP 138 4 vF<|eN<|wp_ret<|rt vF (noB (fun e_ => absurd (congrArg (fun x_ : Frm => x_.gos.items) e_) (hpr4)) (kA kk6 ch30))
            exact eF 80 97 f.gos.cnt g.gos.cnt<|mV 155 57 81 [(92, vT), (97, vF)] 154 vF fun _ => rP 138 4 vF<|eN<|wp_ret<|rt vF (noB (fun e_ => absurd (congrArg (fun x_ : Frm => x_.gos.cnt) e_) (by first | exact hx9 | omega)) (kA kk5 ch24))
           exact rq 73 90 vF rfl (run_eql_no digT f.gos.sum g.gos.sum hI.ok.sum hJ.ok.sum hpr3 _ (.tmp 87) (.tmp 89) 28 rfl (by kernel_rfl) (by kernel_rfl))<|mV 155 64 74 [(85, vT), (90, vF)] 154 vF fun _ => rP 138 4 vF<|eN<|wp_ret<|rt vF (noB (fun e_ => absurd (congrArg (fun x_ : Frm => x_.gos.sum) e_) (hpr3)) (kA kk5 ch24))
          rw [decide_eq_false hpr2]
          rintro _ W32 ⟨rfl, ch31⟩
          have zz31 := ch31.size
          exact mV 155 71 67 [(78, vT), (83, vF)] 154 vF fun _ => rP 138 4 vF<|eN<|wp_ret<|rt vF (noB (fun e_ => absurd (congrArg (fun x_ : Frm => x_.gos.pre) e_) (hpr2)) (kA kk5 ch31))
         exact eF 59 76 (f.gos.kind.toNat : Int) (g.gos.kind.toNat : Int)<|mV 155 78 60 [(71, vT), (76, vF)] 154 vF fun _ => rP 138 4 vF<|eN<|wp_ret<|rt vF (noB (fun e_ => absurd (congrArg (fun x_ : Frm => (x_.gos.kind.toNat : Int)) e_) (by first | exact hx8 | omega)) (kA kk4 ch23))
        rw [decide_eq_false hpr1]
        rintro _ W33 ⟨rfl, ch32⟩
        have zz32 := ch32.size
        exact mV 155 85 53 [(64, vT), (69, vF)] 154 vF fun _ => rP 138 4 vF<|eN<|wp_ret<|rt vF (noB (fun e_ => absurd (congrArg (fun x_ : Frm => x_.pUpd) e_) (hpr1)) (kA kk4 ch32))
       exact eF 45 62 f.pAbout g.pAbout<|mV 155 92 46 [(57, vT), (62, vF)] 154 vF fun _ => rP 138 4 vF<|eN<|wp_ret<|rt vF (noB (fun e_ => absurd (congrArg (fun x_ : Frm => x_.pAbout) e_) (by first | exact hx7 | omega)) (kA (kA (kA (zA ch1 : Chg [] w W1) ch2) ch12) ch22))
      exact eF 38 55 (f.pSeq : Int) (g.pSeq : Int)<|mV 155 99 39 [(50, vT), (55, vF)] 154 vF fun _ => rP 138 4 vF<|eN<|wp_ret<|rt vF (noB (fun e_ => absurd (congrArg (fun x_ : Frm => (x_.pSeq : Int)) e_) (by first | exact hx6 | omega)) (kA (kA (kA (zA ch1 : Chg [] w W1) ch2) ch12) ch22))
     exact eF 31 48 (f.pKind.toNat : Int) (g.pKind.toNat : Int)<|mV 155 106 32 [(43, vT), (48, vF)] 154 vF fun _ => rP 138 4 vF<|eN<|wp_ret<|rt vF (noB (fun e_ => absurd (congrArg (fun x_ : Frm => (x_.pKind.toNat : Int)) e_) (by first | exact hx5 | omega)) (kA (kA (kA (zA ch1 : Chg [] w W1) ch2) ch12) ch22))
    exact eF 24 41 f.pTo g.pTo<|mV 155 113 25 [(36, vT), (41, vF)] 154 vF fun _ => rP 138 4 vF<|eN<|wp_ret<|rt vF (noB (fun e_ => absurd (congrArg (fun x_ : Frm => x_.pTo) e_) (by first | exact hx4 | omega)) (kA (kA (kA (zA ch1 : Chg [] w W1) ch2) ch12) ch22))
   exact eF 17 34 f.dst g.dst<|mV 155 120 18 [(29, vT), (34, vF)] 154 vF fun _ => rP 138 4 vF<|eN<|wp_ret<|rt vF (noB (fun e_ => absurd (congrArg (fun x_ : Frm => x_.dst) e_) (by first | exact hx3 | omega)) (kA (kA (kA (zA ch1 : Chg [] w W1) ch2) ch12) ch22))
  exact eF 10 27 f.frm g.frm<|mV 155 127 11 [(22, vT), (27, vF)] 154 vF fun _ => rP 138 4 vF<|eN<|wp_ret<|rt vF (noB (fun e_ => absurd (congrArg (fun x_ : Frm => x_.frm) e_) (by first | exact hx2 | omega)) (kA (kA (kA (zA ch1 : Chg [] w W1) ch2) ch12) ch22))
 exact eF 4 21 (f.kind.toNat : Int) (g.kind.toNat : Int)<|mV 155 133 5 [(21, vF)] 154 vF fun _ => rP 138 4 vF<|eN<|wp_ret<|rt vF (noB (fun e_ => absurd (congrArg (fun x_ : Frm => (x_.kind.toNat : Int)) e_) (by first | exact hx1 | omega)) (kA (kA (kA (zA ch1 : Chg [] w W1) ch2) ch12) ch22))
end Go.Proofs.YtgbadghjnpbiaaaGreatDoor
namespace Go.Proofs.YtgbadghjnpbiaaaGreatDoor
open Go.RowKit Wk
open Mur (b8s Byt Own8 Seg Segs flat cutA attC Att SlA OwnA rowA)
set_option maxRecDepth 100000
set_option maxHeartbeats 4000000
def Idx15_F1 (b : Array Value) (u0 u1 u7 u8 : Value) : Act := sg 19 [(0, u0), (1, u1), (7, u7), (8, u8)] b
theorem over_any (x : UInt8) (w : World) : Calls Tryz.prog 83 #[vB x.toNat] w fun e w' => e = .returned (.bool (decide (15 < x))) ∧ w = w' := by
 refine calls_of_wp Tryz.func83 rfl ?_
 refine sR<|rP 0 2 vF<|eN<|sR<|rP 0 3 (vB x.toNat) ?_
 by_cases hx1 : (x.toNat : Int) > (15 : Int)
 ·exact bT 1 4 ((x.toNat : Int) > (15 : Int))<|rP 2 2 vT<|eN<|wp_ret<|rt vT ⟨by rw [decide_eq_true (show 15 < x by rw [UInt8.lt_iff_toNat_lt]; show 15 < x.toNat; omega)], rfl⟩
 exact bF 1 4 ((x.toNat : Int) > (15 : Int))<|rP 2 2 vF<|eN<|wp_ret<|rt vF ⟨by rw [decide_eq_false (show ¬ 15 < x by rw [UInt8.lt_iff_toNat_lt]; show ¬ 15 < x.toNat; omega)], rfl⟩
theorem index15_any (l : List UInt8) (A : Option Addr) (n c : Nat) (w : World) (hb : Byt w A n l) (hn : n ≤ 9223372036854775807) : Calls Tryz.prog 99 #[.slice A n c, .func (.func 83) #[] #[]] w fun e w' => ∃ r : Int, e = .returned (vI r) ∧ (0 ≤ r ↔ (l.all fun x => decide (x ≤ 15)) = false) ∧ w = w' := by
 have HB := Go.Lib.hid hb
 clear hb
 refine calls_of_wp Tryz.func99 rfl ?_
 refine sR<|rP 0 4 (vI 0)<|eN<|wp_seq<|sR<|rP 0 6 (.slice A n c)<|rP 1 7 (vI n)<|rP 2 8 (vI 0)<|eN<|wp_block<|?_
 refine Wk.loop (fun m_ a wr => ∃ (i : Nat), m_ = n - i ∧ a = Idx15_F1 a.tmps (.slice A n c) (.func (.func 83) #[] #[]) (vI n) (vI i) ∧ i ≤ n ∧ (∀ j, j < i → (l.getD j 0) ≤ 15) ∧ wr = w) (n - 0) ?_ ?_
 ·refine ⟨0, rfl, by kernel_rfl, Nat.zero_le _, (fun j h => by omega), rfl⟩
 rintro mm1 aa1 W1 ⟨i, hmm1, hF1, hi, hall, hw⟩
 generalize aa1.tmps = bb1 at hF1
 subst hF1
 subst hw
 by_cases hlt : i < n
 ·obtain ⟨q, off, rfl, hcc⟩ := HB.out.2 (by omega)
  refine sR<|bT 0 9 ((i : Int) < (n : Int))<|eN<|wp_seq<|cT<|wp_skip<|nxt<|wp_seq<|wp_block<|sR<|rP 0 10 (vI i)<|rP 1 5 (vI i)<|eN<|sR<|rP 0 11 (.func (.func 83) #[] #[])<|rP 1 12 (.slice (some ⟨q, off, none⟩) n c)<|rP 2 13 (vI i)<|rq 3 14 (pt q (off + i * 1)) rfl (iS 1 q off n c i)<|rq 4 15 _ rfl (ld 5 14 q (off + i * 1) (vB ((l.getD i 0).toNat : Nat)) (Mur.byt_cell HB.out i (by omega))) ?_
  refine Wk.rCallV 5 (some 16) (.tmp 11) 83 #[] [.tmp 15] #[5] [vB ((l.getD i 0).toNat : Nat)] rfl rfl (by kernel_rfl) rfl (by kernel_rfl) (by kernel_rfl) (by kernel_rfl) ?_
  refine (over_any (l.getD i 0) W1).mono ?_
  by_cases hov1 : 15 < (l.getD i 0)
  ·rw [decide_eq_true hov1]
   rintro _ _ ⟨rfl, rfl⟩
   refine ⟨_, rfl, ?_⟩
   exact eN<|cT<|sR<|rP 0 17 (vI i)<|rP 1 4 (vI i)<|eN<|tI<|thR<|inR<|thR<|rt (vI i) ⟨_, rfl, by rw [show (l.all fun x => decide (x ≤ 15)) = false from Mur.some15 HB.out.1 hlt hov1]; simp, rfl⟩
  rw [decide_eq_false hov1]
  rintro _ _ ⟨rfl, rfl⟩
  refine ⟨_, rfl, ?_⟩
  refine eN<|cF<|wp_skip<|inN<|nxt<|reg<|rI 0 18 ((i : Int) + 1) (((i + 1 : Nat) : Int))<|rP 1 8 (vI (i + 1 : Nat))<|eN<|?_
  refine ⟨_, ?_, i + 1, rfl, by kernel_rfl, (by omega), (fun j hj => by rcases Nat.lt_or_ge j i with h1 | h1 <;> first | exact hall j h1 | (obtain rfl : j = i := (by omega); exact UInt8.not_lt.1 hov1)), rfl⟩
  omega
 exact sR<|bF 0 9 ((i : Int) < (n : Int))<|eN<|wp_seq<|cF<|xX<|nxt<|sR<|rP 0 4 (vI (-1))<|eN<|wp_ret<|rt (vI (-1)) ⟨_, rfl, by rw [show (l.all fun x => decide (x ≤ 15)) = true from Mur.all15 HB.out.1 (fun j hj => hall j (by omega))]; simp, rfl⟩
theorem contains15_any (l : List UInt8) (A : Option Addr) (n c : Nat) (w : World) (hb : Byt w A n l) (hn : n ≤ 9223372036854775807) : Calls Tryz.prog 82 #[.slice A n c, .func (.func 83) #[] #[]] w fun e w' => e = .returned (.bool (!(l.all fun x => decide (x ≤ 15)))) ∧ w = w' := by
 refine calls_of_wp Tryz.func82 rfl ?_
 refine sR<|rP 0 4 vF<|eN<|sR<|rP 0 5 (.slice A n c)<|rP 1 6 (.func (.func 83) #[] #[])<|rK 2 7 (index15_any l A n c w hb (by omega)) ?_
 rintro _ _ ⟨r_1, rfl, hr1, rfl⟩
 by_cases hx1 : r_1 ≥ (0 : Int)
 ·exact bT 3 8 (r_1 ≥ (0 : Int))<|rP 4 4 vT<|eN<|wp_ret<|rt vT ⟨by rw [show (l.all fun x => decide (x ≤ 15)) = false from by first | exact hr1.1 (by omega) | (cases hq : (l.all fun x => decide (x ≤ 15)) <;> first | rfl | exact absurd (hr1.2 hq) (by omega))]; rfl, rfl⟩
 exact bF 3 8 (r_1 ≥ (0 : Int))<|rP 4 4 vF<|eN<|wp_ret<|rt vF ⟨by rw [show (l.all fun x => decide (x ≤ 15)) = true from by first | exact hr1.1 (by omega) | (cases hq : (l.all fun x => decide (x ≤ 15)) <;> first | rfl | exact absurd (hr1.2 hq) (by omega))]; rfl, rfl⟩
theorem IsPrefix_any (l : List UInt8) (A : Option Addr) (n c : Nat) (w : World) (hb : Byt w A n l) (hn : n ≤ 9223372036854775807) : Calls Tryz.prog 54 #[.slice A n c] w fun e w' => e = .returned (.bool (Mur.isPre l)) ∧ w = w' := by
 refine calls_of_wp Tryz.func54 rfl ?_
 refine sR<|rP 0 2 vF<|eN<|sR<|rP 0 3 (.slice A n c)<|rP 1 4 (vI n) ?_
 by_cases hx1 : (n : Int) ≤ (8 : Int)
 ·refine bT 2 5 ((n : Int) ≤ (8 : Int))<|rP 3 6 vT<|rP 4 7 (.slice A n c)<|rK 5 8 (contains15_any l A n c w hb (by omega)) ?_
  cases hal1 : (l.all fun x => decide (x ≤ 15))
  ·rintro _ _ ⟨rfl, rfl⟩
   exact rP 6 9 vF<|rP 7 10 vF<|rP 8 2 vF<|eN<|wp_ret<|rt vF ⟨by rw [show Mur.isPre l = false from by unfold Mur.isPre; rw [hal1]; rfl], rfl⟩
  rintro _ _ ⟨rfl, rfl⟩
  exact rP 6 9 vT<|rP 7 10 vT<|rP 8 2 vT<|eN<|wp_ret<|rt vT ⟨by rw [show Mur.isPre l = true from by unfold Mur.isPre; rw [hal1]; have := hb.1; simp; omega], rfl⟩
 exact bF 2 5 ((n : Int) ≤ (8 : Int))<|rP 3 6 vF<|rZ 4 7<|rZ 5 8<|rZ 6 9<|rP 7 10 vF<|rP 8 2 vF<|eN<|wp_ret<|rt vF ⟨by rw [show Mur.isPre l = false from by unfold Mur.isPre; have := hb.1; simp; omega], rfl⟩
end Go.Proofs.YtgbadghjnpbiaaaGreatDoor
namespace Go.Proofs.YtgbadghjnpbiaaaGreatDoor
open Go.RowKit Wk
open Mur (b8s Byt Own8 Seg Segs flat cutA attC Att SlA OwnA rowA msgC nib_shn)
set_option maxRecDepth 100000
set_option maxHeartbeats 4000000
def Within_F1 (b : Array Value) (u2 u7 u8 u9 : Value) : Act := sg 28 [(2, u2), (7, u7), (8, u8), (9, u9)] b
theorem within_any (x : Att) (p : List UInt8) (PA : Option Addr) (pn pc : Nat) (w : World) (hb : Byt w PA pn p) (hn : pn ≤ 64) : Calls Tryz.prog 55 #[.agg (attC x.k x.r x.n x.t).toArray, .slice PA pn pc] w fun e w' => e = .returned (.bool (Mur.under p x.k)) ∧ Chg [] w w' := by
 have hpl_ := hb.1
 refine calls_of_wp Tryz.func55 rfl ?_
 refine sR<|nW 0 2 ((Mur.attC x.k x.r x.n x.t).toArray) 35 fun W1 hb1 ch1 sz1 => rP 1 4 vF<|eN<|wp_seq<|sR<|rP 0 7 (.slice PA pn pc)<|rP 1 8 (vI pn)<|rP 2 9 (vI 0)<|eN<|wp_block<|?_
 refine Wk.loop (fun m_ a wr => ∃ (i : Nat), m_ = pn - i ∧ a = Within_F1 a.tmps (pw w 0) (.slice PA pn pc) (vI pn) (vI i) ∧ i ≤ pn ∧ (∀ j, j < i → Mur.nib x.k j = p.getD j 0) ∧ wr.heap[w.heap.size]? = some (.cells (Mur.attC x.k x.r x.n x.t).toArray 35 (0, 0)) ∧ Chg [] w wr) (pn - 0) ?_ ?_
 ·have kk1 : Chg [] w W1 := zA ch1
  refine ⟨0, rfl, by kernel_rfl, Nat.zero_le _, (fun j hj => by omega), hb1, kk1⟩
 rintro mm1 aa1 W2 ⟨i, hmm1, hF1, hi, hall, hX, HB⟩
 generalize aa1.tmps = bb1 at hF1
 subst hF1
 have hzB := HB.size
 by_cases hlt : i < pn
 ·obtain ⟨q2, off2, hA2, _⟩ := hb.2 (by omega)
  subst hA2
  refine sR<|bT 0 10 ((i : Int) < (pn : Int))<|eN<|wp_seq<|cT<|wp_skip<|nxt<|wp_seq<|wp_block<|sR<|rP 0 11 (vI i)<|rq 1 12 (pt q2 (off2 + i * 1)) rfl (iS 1 q2 off2 pn pc i)<|rq 2 13 _ rfl (ld 5 12 q2 (off2 + i * 1) (vB ((p.getD i 0).toNat : Nat)) (Mur.byt_cell (Mur.byt_chg hb HB (fun g off e hl => trivial)) i (by omega)))<|rP 3 5 (vI i)<|rP 4 6 (vB ((p.getD i 0).toNat : Nat))<|eN<|sR<|rP 0 14 (vI i)<|rq 1 15 (vI (i / 2 : Nat)) rfl (Mur.quo_nat 3 3 (.tmp 14) (.const (vI 2)) rfl i 2 (by kernel_rfl) (by kernel_rfl) (by omega) (by omega))<|rP 2 16 (pw w 0)<|rq 3 17 (.pointer (some ⟨w.heap.size, 0 + (i / 2) * 1, none⟩)) rfl (Wk.index_arr 28 5 (.tmp 16) (.tmp 15) rfl 32 Tryz.underlying28 1 (by kernel_rfl) w.heap.size 0 (i / 2) .i64 (by kernel_rfl) (by kernel_rfl) (by omega))<|rq 4 18 _ rfl (load1 5 (.tmp 17) rfl (by kernel_rfl) ⟨w.heap.size, 0 + (i / 2) * 1, none⟩ (by kernel_rfl) (vB ((x.k.getD (i / 2) 0).toNat : Nat)) (show World.cell? _ ⟨_, 0 + 0 * 97 + i / 2 * 1, _⟩ = _ from Mur.SlA.kcell (Mur.slA_box x hX) (i := 0) rfl (j := i / 2) (by omega)))<|rP 5 19 (vI i)<|rq 6 20 (vI (i % 2 : Nat)) rfl (Wk.rem_nat 3 3 (.tmp 19) (.const (vI 2)) rfl i 2 (by kernel_rfl) (by kernel_rfl) (by omega))<|rI 7 21 ((4 : Int) * ((i % 2 : Nat) : Int)) (((4 * (i % 2) : Nat) : Int))<|rI 8 22 ((4 : Int) - ((4 * (i % 2) : Nat) : Int)) (((4 - 4 * (i % 2) : Nat) : Int))<|rq 9 23 (vB ((Mur.shn (x.k.getD (i / 2) 0) i).toNat : Nat)) rfl (Mur.shr8_n 5 3 (.tmp 18) (.tmp 22) rfl (x.k.getD (i / 2) 0) i (by kernel_rfl) (by kernel_rfl)) ?_
  refine rq 10 24 (vB ((Mur.shn (x.k.getD (i / 2) 0) i &&& 15).toNat : Nat)) rfl (Mur.and8_15 5 5 (.tmp 23) (.const (vB 15)) rfl (Mur.shn (x.k.getD (i / 2) 0) i) (by kernel_rfl) (by kernel_rfl))<|rP 11 25 (vB ((p.getD i 0).toNat : Nat)) ?_
  by_cases hx1 : (((Mur.shn (x.k.getD (i / 2) 0) i &&& 15).toNat : Nat) : Int) ≠ (((p.getD i 0).toNat : Nat) : Int)
  ·exact nT 12 26 (((Mur.shn (x.k.getD (i / 2) 0) i &&& 15).toNat : Nat) : Int) (((p.getD i 0).toNat : Nat) : Int)<|eN<|cT<|sR<|rP 0 4 vF<|eN<|tI<|thR<|inR<|thR<|rt vF ⟨by rw [Mur.under_false (p := p) (k := x.k) (i := i) (by have := hb.1; omega) (fun q_ => hx1 (by rw [nib_shn] at q_; rw [q_]))], HB⟩
  refine nF 12 26 (((Mur.shn (x.k.getD (i / 2) 0) i &&& 15).toNat : Nat) : Int) (((p.getD i 0).toNat : Nat) : Int)<|eN<|cF<|wp_skip<|inN<|nxt<|reg<|rI 0 27 ((i : Int) + 1) (((i + 1 : Nat) : Int))<|rP 1 9 (vI (i + 1 : Nat))<|eN<|?_
  refine ⟨_, ?_, i + 1, rfl, by kernel_rfl, (by omega), (Mur.nib_step hall (by rw [nib_shn]; exact Mur.u8_cast_inj (Decidable.not_not.1 hx1))), hX, HB⟩
  omega
 have hun : Mur.under p x.k = true := Mur.under_all hb.1 (show pn ≤ i by omega) hall
 exact sR<|bF 0 10 ((i : Int) < (pn : Int))<|eN<|wp_seq<|cF<|xX<|nxt<|sR<|rP 0 4 vT<|eN<|wp_ret<|rt vT ⟨by rw [hun], HB⟩
end Go.Proofs.YtgbadghjnpbiaaaGreatDoor
