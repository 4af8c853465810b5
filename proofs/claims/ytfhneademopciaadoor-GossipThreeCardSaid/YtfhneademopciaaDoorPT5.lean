/- What the row rests on, part 5. -/
import Derived.Test.YtfhneademopciaaDoorProg
import Derived.Test.YtfhneademopciaaDoorPT4
import Derived.Test.YtfhneademopciaaDoorPT3
namespace Mur
open Go Go.RowKit Wk
structure PSeg (w : World) (lo : Nat) (no : Option Nat) (s : Seg) (x : Att) : Prop where
  n : s.n = 104
  l : s.l = x.raw
  nc : 104 ≤ s.c
  cm : s.c ≤ maxLen
  at_ : ∃ q, s.A = some ⟨q, 0, none⟩ ∧ lo ≤ q ∧ q < w.heap.size ∧ no ≠ some q
  byt : Byt w s.A 104 s.l
def PSegs (w : World) (lo : Nat) (no : Option Nat) : List Seg → List Att → Prop
  | [], [] => True
  | s :: S, x :: X => PSeg w lo no s x ∧ PSegs w lo no S X
  | _, _ => False
theorem cell_isCells {w : World} {g o : Nat} {v : Value} (h : w.cell? ⟨g, o, none⟩ = some v) : ∃ o : Obj, w.heap[g]? = some o ∧ o.isCells = true := by
  unfold World.cell? at h
  cases ho : w.heap[g]? with
  | none => simp [ho] at h
  | some x => exact ⟨x, rfl, by cases x <;> simp_all [Obj.isCells]⟩
section
variable {w w' : World} {lo : Nat} {no no' : Option Nat} {S : List Seg} {X : List Att}
theorem PSegs.length (h : PSegs w lo no S X) : S.length = X.length := by
  induction S generalizing X with
  | nil => cases X with
    | nil => rfl
    | cons x X => exact h.elim
  | cons s S ih => cases X with
    | nil => exact h.elim
    | cons x X => simp only [List.length_cons, ih h.2]
theorem PSeg.imp {s : Seg} {x : Att} {T : List Nat} (h : PSeg w lo no s x) (c : Chg T w w') (ho : ∀ q, lo ≤ q → q < w.heap.size → no ≠ some q → (∃ o : Obj, w.heap[q]? = some o ∧ o.isCells = true) → Off q T ∧ no' ≠ some q) : PSeg w' lo no' s x := by
  obtain ⟨q, hq, h1, h2, h3⟩ := h.at_
  have hb := h.byt
  have hc : ∃ o : Obj, w.heap[q]? = some o ∧ o.isCells = true := by
    rw [hq] at hb
    exact cell_isCells (byt_cell hb 0 (by omega))
  obtain ⟨h4, h5⟩ := ho q h1 h2 h3 hc
  have hsz := c.size
  exact ⟨h.n, h.l, h.nc, h.cm, ⟨q, hq, h1, by omega, h5⟩, byt_chg hb c fun g off e _ => by rw [hq] at e; cases e; exact h4⟩
theorem PSegs.imp {T : List Nat} (c : Chg T w w') (ho : ∀ q, lo ≤ q → q < w.heap.size → no ≠ some q → (∃ o : Obj, w.heap[q]? = some o ∧ o.isCells = true) → Off q T ∧ no' ≠ some q) (h : PSegs w lo no S X) : PSegs w' lo no' S X := by
  induction S generalizing X with
  | nil => cases X with
    | nil => trivial
    | cons x X => exact h.elim
  | cons s S ih => cases X with
    | nil => exact h.elim
    | cons x X => exact ⟨h.1.imp c ho, ih h.2⟩
theorem PSegs.snoc {s : Seg} {x : Att} (hs : PSeg w lo no s x) (h : PSegs w lo no S X) : PSegs w lo no (S ++ [s]) (X ++ [x]) := by
  induction S generalizing X with
  | nil => cases X with
    | nil => exact ⟨hs, trivial⟩
    | cons x X => exact h.elim
  | cons s S ih => cases X with
    | nil => exact h.elim
    | cons x X => exact ⟨h.1, ih h.2⟩
theorem PSegs.ok (h : PSegs w lo no S X) : ∀ s, s ∈ S → SegOk w s := by
  induction S generalizing X with
  | nil => exact fun s hs => by cases hs
  | cons t S ih => cases X with
    | nil => exact h.elim
    | cons x X =>
      intro s hs
      rcases List.mem_cons.1 hs with rfl | hs
      · obtain ⟨q, hq, _⟩ := h.1.at_
        exact ⟨by rw [h.1.n]; exact h.1.nc, (fun e => by rw [hq] at e; cases e), (by rw [h.1.n]; exact h.1.byt), h.1.cm⟩
      · exact ih h.2 s hs
theorem PSegs.flat (h : PSegs w lo no S X) : Mur.flat S = (X.map Att.raw).flatten := by
  induction S generalizing X with
  | nil => cases X with
    | nil => rfl
    | cons x X => exact h.elim
  | cons s S ih => cases X with
    | nil => exact h.elim
    | cons x X =>
      have := ih h.2
      show s.l ++ Mur.flat S = _
      rw [this, h.1.l]
      rfl
end
def PartsA (w : World) (base lo e : Nat) (A : Option Addr) (n c : Nat) (M : List Att) : Prop := ∃ S : List Seg, w.ownsRow base e 1 (.slice A n c) n (S.map Seg.v) ∧ PSegs w lo (Value.slice A n c).ownBlock S M
section
variable {w w' : World} {base lo e n c : Nat} {A : Option Addr} {M : List Att}
theorem partsA_nil (w : World) (base lo e : Nat) : PartsA w base lo e none 0 0 [] := ⟨[], ⟨rfl, .inl ⟨rfl, rfl⟩⟩, trivial⟩
theorem PartsA.len (h : PartsA w base lo e A n c M) : M.length = n := by
  obtain ⟨S, h1, h2⟩ := h
  have := h1.1
  rw [List.length_map, h2.length] at this
  omega
theorem PartsA.nc (h : PartsA w base lo e A n c M) : n ≤ c ∧ c ≤ maxLen ∧ (A = none → c = 0) := by
  obtain ⟨S, h1, h2⟩ := h
  obtain ⟨A', c', e1, k1, k2, k3, _⟩ := own_sl h1
  injection e1 with e1 _ e2
  subst e1 e2
  exact ⟨k1, k2, k3⟩
theorem PartsA.lt (h : PartsA w base lo e A n c M) : ∀ k, (Value.slice A n c).ownBlock = some k → base ≤ k ∧ k < w.heap.size := let ⟨_, h1, _⟩ := h; World.ownsRow.lt h1
theorem PartsA.cells (h : PartsA w base lo e A n c M) {k : Nat} (hk : (Value.slice A n c).ownBlock = some k) : ∃ o : Obj, w.heap[k]? = some o ∧ o.isCells = true := by
  obtain ⟨S, h1, h2⟩ := h
  rcases h1.2 with ⟨e0, _⟩ | ⟨g, cap, cur, e0, _, hg, _⟩
  · injection e0 with e1
    subst e1
    cases hk
  · injection e0 with e1
    subst e1
    have : g = k := by simpa [Value.ownBlock] using hk
    subst this
    exact ⟨_, hg, rfl⟩
theorem PartsA.chg {T : List Nat} (h : PartsA w base lo e A n c M) (ch : Chg T w w') (hlo : lo ≤ base) (ho : ∀ q, lo ≤ q → q < w.heap.size → (∃ o : Obj, w.heap[q]? = some o ∧ o.isCells = true) → Off q T) : PartsA w' base lo e A n c M := by
  have hc := fun k hk => h.cells (k := k) hk
  obtain ⟨S, h1, h2⟩ := h
  exact ⟨S, own_chg h1 ch fun g hg k1 k2 => ho g (by omega) k2 (hc g hg), PSegs.imp ch (fun q k1 k2 k3 k4 => ⟨ho q k1 k2 k4, k3⟩) h2⟩
theorem off_noncells {r : Nat} {o : Obj} (ho : w.heap[r]? = some o) (hc : o.isCells = false) {q : Nat} (h : ∃ o : Obj, w.heap[q]? = some o ∧ o.isCells = true) : q ≠ r := fun e => by
  obtain ⟨o', h1, h2⟩ := h
  rw [e, ho] at h1
  cases h1
  rw [hc] at h2
  cases h2
theorem off_loop {r : Nat} (ho : ∃ x, w.heap[r]? = some (.loop x)) {q : Nat} (h : ∃ o : Obj, w.heap[q]? = some o ∧ o.isCells = true) : q ≠ r := let ⟨_, k⟩ := ho; off_noncells k rfl h
theorem PartsA.segs (h : PartsA w base lo e A n c M) : ∃ S, Segs w A n S ∧ Mur.flat S = (M.map Att.raw).flatten := by
  obtain ⟨S, h1, h2⟩ := h
  obtain ⟨A', c', e1, _, _, _, k4, _⟩ := own_sl h1
  injection e1 with e1 _ e2
  subst e1
  have hl : S.length = n := by have := h1.1; rw [List.length_map] at this; omega
  refine ⟨S, ⟨hl, fun s hs => h2.ok s hs, fun hn => ?_⟩, h2.flat⟩
  obtain ⟨g, off, eA, hr⟩ := k4.2 (by
    intro q
    have := congrArg List.length q
    rw [List.length_map, hl] at this
    simp at this
    omega)
  exact ⟨g, off, eA, fun i s hs => hr i s.v (by rw [List.getElem?_map, hs]; rfl)⟩
end
section
variable {P : Program} {w : World} {a : Act} {o : Oper}
theorem appendP (s x : Operand) (t e : TypeId) (ho : o.op = .call { callee := .builtin .append, args := #[s, x], argTypes := #[t, t] }) (ht : P.underlying t = some (.slice e)) (hinfo : (P.info? e).map (fun i => (i.zero, i.size, i.bytes)) = some (some (.slice none 0 0), 1, 24))
    (base lo : Nat) (A0 : Option Addr) (n c0 : Nat) (M : List Att) (g q d : Nat) (y : Att) (fr : Nat × Nat) (t1 : TypeId) (hs : a.eval s = .slice A0 n c0) (hx : a.eval x = .slice (some ⟨g, 0, none⟩) 1 1) (H : PartsA w base lo e A0 n c0 M)
    (hg : w.heap[g]? = some (.cells #[.slice (some ⟨q, 0, none⟩) 104 d] t1 fr)) (hb : Byt w (some ⟨q, 0, none⟩) 104 y.raw) (hq : lo ≤ q ∧ q < w.heap.size) (hd : 104 ≤ d) (hdm : d ≤ maxLen) (hno : (Value.slice A0 n c0).ownBlock ≠ some q) (hbase : base ≤ w.heap.size) (hl : n ≤ 100000) :
    ∃ v1 w1, (execOp a.eval o).run P w = .ok (.value v1) w1 ∧ ∃ A1 c1, v1 = .slice A1 (n + 1) c1 ∧ PartsA w1 base lo e A1 (n + 1) c1 (M ++ [y]) ∧ Chg (blk (.slice A0 n c0)) w w1 := by
  obtain ⟨S, h1, h2⟩ := H
  have hlt := World.ownsRow.lt h1
  obtain ⟨v1, w1, r1, r2, r3, r4⟩ := append_run (P := P) s x t e ho ht (.slice none 0 0) 1 24 hinfo rfl (by omega) base (.slice A0 n c0) n (S.map Seg.v) (some ⟨g, 0, none⟩) 1 1 [.slice (some ⟨q, 0, none⟩) 104 d] hs hx h1 ⟨rfl, fun _ => ⟨g, 0, rfl, range_row hg⟩⟩ (fun h => by cases h) (fun u hu => by rw [List.mem_singleton.1 hu]; rfl) hbase (by unfold maxLen; omega) (by omega)
  obtain ⟨A1, c1, rfl, _⟩ := own_sl r2
  refine ⟨_, w1, r1, A1, c1, rfl, ⟨S ++ [⟨some ⟨q, 0, none⟩, 104, d, y.raw⟩], by simpa [Seg.v] using r2, ?_⟩, r3⟩
  have hsz := r3.size
  have key : ∀ k, k < w.heap.size → (Value.slice A0 n c0).ownBlock ≠ some k → (Value.slice A1 (n + 1) c1).ownBlock ≠ some k := fun k hk hn e1 => by
    rcases r4 with r4 | r4
    · exact hn (r4 ▸ e1)
    · rw [r4] at e1
      have := Option.some.inj e1
      omega
  have hoff : ∀ k, (Value.slice A0 n c0).ownBlock ≠ some k → Off k (blk (.slice A0 n c0)) := fun k hn => off_blk fun g hg e1 => hn (e1 ▸ hg)
  refine PSegs.snoc ⟨rfl, rfl, hd, hdm, ⟨q, rfl, hq.1, by omega, key q hq.2 hno⟩, ?_⟩ (PSegs.imp r3 (fun k k1 k2 k3 k4 => ⟨hoff k k3, key k k2 k3⟩) h2)
  exact byt_chg hb r3 fun g' off' e1 _ => by cases e1; exact hoff q hno
end
theorem results_sl {P : Program} {fn : Func} {p : Tmp} {ty : TypeId} (h : fn.results = #[.cell p ty]) (tmps : Array Value) (w : World) (g : Nat) (t : TypeId) (v : Value) (fr : Nat × Nat) (hp : tmps.getD p undef = .pointer (some ⟨g, 0, none⟩)) (hg : w.heap[g]? = some (.cells #[v] t fr))
    (hu : (match P.underlying ty with | some (.struct _) | some (.array _ _) | none => false | _ => true) = true) : (results fn tmps).run P w = .ok v w := by
  have hp' : tmps[p]?.getD undef = .pointer (some ⟨g, 0, none⟩) := by simpa using hp
  have hc : w.cell? ⟨g, 0, none⟩ = some v := by rw [cell_of_row _ _ _ _ _ _ hg]; rfl
  have hb : (isAgg ty).run P w = .ok false w := by
    unfold isAgg
    cases h : P.underlying ty with
    | none => rw [h] at hu; cases hu
    | some d =>
      rw [h] at hu
      simp only [Sem.run_bind, run_underlying h, Result.andThen_ok]
      cases d <;> first | rfl | cases hu
  simp [results, h, hp', asAddr, loadVar, hb, load, Sem.run, hc]
theorem results_dig {P : Program} {fn : Func} {p u : Tmp} {ty : TypeId} (h : fn.results = #[.cell p ty, .tmp u]) (tmps : Array Value) (w : World) (g : Nat) (t : TypeId) (cs : Array Value) (fr : Nat × Nat) (d : TypeDesc) (v : Value) (hp : tmps.getD p undef = .pointer (some ⟨g, 0, none⟩)) (hg : w.heap[g]? = some (.cells cs t fr))
    (hu : P.underlying ty = some d) (hd : (match d with | .struct _ | .array _ _ => true | _ => false) = true) (hi : (P.info? ty).map (·.size) = some cs.size) (hv : tmps.getD u undef = v) : (results fn tmps).run P w = .ok (.tuple #[.agg cs, v]) w := by
  rw [results_cell_tmp h, hp, hv]
  have := run_loadVar_row (P := P) w g t ty cs fr d hg hu hd hi
  simp [asAddr, this]
theorem raw_length (x : Att) : x.raw.length = 104 := by
  show (rawL x.k x.r x.n x.t).length = 104
  unfold rawL
  simp only [List.length_append, x.hk, x.hr, x.ht, e8_length]
theorem raws_length (M : List Att) : ((M.map Att.raw).flatten).length = M.length * 104 := by
  induction M with
  | nil => rfl
  | cons x M ih => rw [List.map_cons, List.flatten_cons, List.length_append, ih, raw_length, List.length_cons]; omega
def sumL (p : List UInt8) (L : List Att) : List UInt8 := if isPre p then sha (rowL (belowL p L)) else z32
theorem sumL_ok {p : List UInt8} {L : List Att} (h : isPre p = true) : sumL p L = sha (rowL (belowL p L)) := by unfold sumL; rw [h]; rfl
theorem sumL_no {p : List UInt8} {L : List Att} (h : isPre p = false) : sumL p L = z32 := by unfold sumL; rw [h]; rfl
theorem belowL_sub {p : List UInt8} {L : List Att} {y : Att} (h : y ∈ belowL p L) : y ∈ L := by
  unfold belowL at h
  split at h
  · exact (List.mem_filter.1 h).1
  · simp at h
theorem rowL_snoc (M : List Att) (x : Att) : rowL (M ++ [x]) = rowL M ++ x.raw := by simp [rowL]
theorem rowL_length (M : List Att) : (rowL M).length = M.length * 104 + 1 := by unfold rowL; rw [List.length_cons, raws_length]
end Mur
namespace Go.Proofs.YtfhneademopciaaDoor
open Mur (attC z32)
theorem slI : (Tryd.prog.info? 38).map (fun i => (i.zero, i.size, i.bytes)) = some (some (.slice none 0 0), 1, 24) := by kernel_rfl
end Go.Proofs.YtfhneademopciaaDoor
namespace Mur
open Go Go.RowKit Go.Lib
structure Msg where
  kind : UInt8
  pre : List UInt8
  sum : List UInt8
  cnt : Int
  items : List Att
  ans : Bool
def mayM (m : Msg) : Prop := isPre m.pre = true ∧ 0 ≤ m.cnt ∧ m.cnt ≤ 200 ∧ m.items.length ≤ 8 ∧ ((m.kind = 1 ∧ m.items = [] ∧ m.ans = false) ∨ (m.kind = 2 ∧ (∀ x, x ∈ m.items → may x.n ∧ under m.pre x.k = true) ∧ Sorted m.items ∧ m.sum = z32 ∧ m.cnt = 0))
def cntL (p : List UInt8) (L : List Att) : Nat := (belowL p L).length
def summaryM (p : List UInt8) (L : List Att) : Msg := ⟨1, p, sumL p L, ((cntL p L : Nat) : Int), [], false⟩
def chunks (l : List Att) : List (List Att) := (List.range ((l.length + 7) / 8)).map fun i => (l.drop (8 * i)).take 8
def itemsM (p : List UInt8) (l : List Att) (ans : Bool) : List Msg := (chunks l).map fun c => ⟨2, p, z32, 0, c, ans⟩
def emptyM (p : List UInt8) : Msg := ⟨2, p, z32, 0, [], false⟩
def splitM (p : List UInt8) (L : List Att) (t : Nat) : List Msg := (List.range t).map fun x => summaryM (p ++ [UInt8.ofNat x]) L
open Classical in
noncomputable def summedM (L : List Att) (m : Msg) : List Msg :=
  if sumL m.pre L = m.sum ∧ ((cntL m.pre L : Nat) : Int) = m.cnt then []
  else if m.pre.length = 8 ∨ ((cntL m.pre L : Nat) : Int) + m.cnt ≤ 8 then
    if cntL m.pre L = 0 then [emptyM m.pre] else itemsM m.pre (belowL m.pre L) false
  else splitM m.pre L 16
def restM (L : List Att) (m : Msg) : List Att := (belowL m.pre L).filter fun y => decide (y ∉ m.items)
def learnM (L : List Att) (m : Msg) : List Att := m.items.filter fun y => decide (y ∉ L)
open Classical in
noncomputable def repliesM (L : List Att) (m : Msg) : List Msg :=
  if mayM m then (if m.kind = 1 then summedM L m else if m.ans then [] else itemsM m.pre (restM L m) true) else []
open Classical in
noncomputable def learnsM (L : List Att) (m : Msg) : List Att := if mayM m then (if m.kind = 1 then [] else learnM L m) else []
-- chunks
theorem chunks_mem {l c : List Att} (h : c ∈ chunks l) : ∃ i, i < (l.length + 7) / 8 ∧ c = (l.drop (8 * i)).take 8 := by
  obtain ⟨i, hi, rfl⟩ := List.mem_map.1 h
  exact ⟨i, List.mem_range.1 hi, rfl⟩
theorem chunks_len (l : List Att) : (chunks l).length = (l.length + 7) / 8 := by simp [chunks]
theorem chunks_le {l c : List Att} (h : c ∈ chunks l) : c.length ≤ 8 := by
  obtain ⟨i, _, rfl⟩ := chunks_mem h
  rw [List.length_take]
  omega
theorem chunks_sub {l c : List Att} (h : c ∈ chunks l) {x : Att} (hx : x ∈ c) : x ∈ l := by
  obtain ⟨i, _, rfl⟩ := chunks_mem h
  exact List.mem_of_mem_drop (List.mem_of_mem_take hx)
theorem chunks_srt {l c : List Att} (h : c ∈ chunks l) (hs : Sorted l) : Sorted c := by
  obtain ⟨i, _, rfl⟩ := chunks_mem h
  exact List.Pairwise.sublist ((List.take_sublist _ _).trans (List.drop_sublist _ _)) hs
theorem chunks_all {l : List Att} {x : Att} (h : x ∈ l) : ∃ c, c ∈ chunks l ∧ x ∈ c := by
  obtain ⟨j, hj, rfl⟩ := List.getElem_of_mem h
  refine ⟨(l.drop (8 * (j / 8))).take 8, List.mem_map.2 ⟨j / 8, List.mem_range.2 (by omega), rfl⟩, ?_⟩
  refine List.mem_of_getElem? (i := j % 8) ?_
  rw [List.getElem?_take, if_pos (by omega), List.getElem?_drop, show 8 * (j / 8) + j % 8 = j by omega, List.getElem?_eq_getElem hj]
-- counts
theorem belowL_srt {p : List UInt8} {L : List Att} (h : Sorted L) : Sorted (belowL p L) := by
  unfold belowL
  split
  · exact h.filter _
  · exact List.Pairwise.nil
theorem mem_belowL {p : List UInt8} {L : List Att} {x : Att} (h : isPre p = true) : x ∈ belowL p L ↔ x ∈ L ∧ under p x.k = true := by
  rw [belowL_ok h, List.mem_filter]
theorem cntL_le {p : List UInt8} {L U : List Att} (hp : isPre p = true) (hs : Sorted L) (h : ∀ x, x ∈ L → x ∈ U) : cntL p L ≤ cntL p U :=
  nodup_le (belowL_srt hs).nodup fun y hy => (mem_belowL hp).2 ⟨h y ((mem_belowL hp).1 hy).1, ((mem_belowL hp).1 hy).2⟩
theorem cntL_all (p : List UInt8) (L : List Att) : cntL p L ≤ L.length := belowL_len p L
theorem u8_of {x : Nat} (h : x < 16) : (UInt8.ofNat x).toNat = x := by
  simp
  omega
theorem upto_len_sum {p : List UInt8} {U : List Att} (hs : Sorted U) (h : isPre p = true) (hl : p.length < 8) : ∀ t, t ≤ 16 → (upto p U t).length = ((List.range t).map fun x => cntL (p ++ [UInt8.ofNat x]) U).sum
  | 0, _ => by rw [upto_zero]; rfl
  | t + 1, ht => by
    have hu := u8_of (x := t) (by omega)
    have e := upto_step (u := UInt8.ofNat t) hs h hl (by omega)
    rw [hu] at e
    rw [e, List.length_append, upto_len_sum hs h hl t (by omega), List.range_succ, List.map_append, List.sum_append]
    simp [cntL]
theorem cntL_split {p : List UInt8} {U : List Att} (hs : Sorted U) (h : isPre p = true) (hl : p.length < 8) : ((List.range 16).map fun x => cntL (p ++ [UInt8.ofNat x]) U).sum = cntL p U := by
  rw [← upto_len_sum hs h hl 16 (Nat.le_refl _), upto_all p U (Nat.le_refl _)]
  rfl
def cost (U : List Att) (m : Msg) : Nat := if m.kind = 1 then 3 + (4 + 10 * (8 - m.pre.length)) * cntL m.pre U else if m.ans then 1 else 1 + (cntL m.pre U + 7) / 8
def costs (U : List Att) (M : List Msg) : Nat := (M.map (cost U)).sum
theorem costs_append (U : List Att) (M N : List Msg) : costs U (M ++ N) = costs U M + costs U N := by simp [costs]
theorem sum_const {α : Type} (f : α → Nat) (k : Nat) : ∀ l : List α, (∀ x, x ∈ l → f x = k) → (l.map f).sum = l.length * k
  | [], _ => by simp
  | x :: l, h => by
    rw [List.map_cons, List.sum_cons, h x (by simp), sum_const f k l fun y hy => h y (List.mem_cons_of_mem _ hy), List.length_cons, Nat.add_mul]
    omega
theorem costs_items (U : List Att) (p : List UInt8) (l : List Att) (a : Bool) : costs U (itemsM p l a) = (l.length + 7) / 8 * (if a then 1 else 1 + (cntL p U + 7) / 8) := by
  unfold costs
  rw [sum_const (cost U) (if a then 1 else 1 + (cntL p U + 7) / 8) (itemsM p l a) fun m hm => by
    obtain ⟨c, _, rfl⟩ := List.mem_map.1 hm
    cases a <;> simp [cost]]
  simp [itemsM, chunks_len]
theorem costs_split {U L : List Att} {p : List UInt8} (hs : Sorted U) (h : isPre p = true) (hl : p.length < 8) : costs U (splitM p L 16) = 48 + (4 + 10 * (8 - (p.length + 1))) * cntL p U := by
  have key : ∀ t : Nat, ((List.range t).map fun x => 3 + (4 + 10 * (8 - (p.length + 1))) * cntL (p ++ [UInt8.ofNat x]) U).sum = 3 * t + (4 + 10 * (8 - (p.length + 1))) * ((List.range t).map fun x => cntL (p ++ [UInt8.ofNat x]) U).sum := by
    generalize 4 + 10 * (8 - (p.length + 1)) = C
    intro t
    induction t with
    | zero => simp
    | succ t ih =>
      rw [List.range_succ, List.map_append, List.map_append, List.sum_append, List.sum_append, ih]
      simp only [List.map_cons, List.map_nil, List.sum_cons, List.sum_nil, Nat.mul_add, Nat.add_zero]
      omega
  have e : costs U (splitM p L 16) = ((List.range 16).map fun x => 3 + (4 + 10 * (8 - (p.length + 1))) * cntL (p ++ [UInt8.ofNat x]) U).sum := by
    unfold costs splitM
    rw [List.map_map]
    congr 1
    refine List.map_congr_left fun x _ => ?_
    simp [cost, summaryM]
  rw [e, key 16, cntL_split hs h hl]
end Mur
namespace Mur
open Go Go.RowKit Go.Lib
def addsL (l L : List Att) : List Att := l.foldl (fun L x => (addS x L).1) L
theorem addS_in {x : Att} {L U : List Att} (hs : Sorted L) (hl : U.length ≤ 200) (ok : ∀ y, y ∈ U → may y.n) (hL : ∀ y, y ∈ L → y ∈ U) (hx : x ∈ U) : Sorted (addS x L).1 ∧ ∀ y, y ∈ (addS x L).1 ↔ y ∈ L ∨ y = x := by
  have hm := ok x hx
  by_cases h : x ∈ L
  · rw [addS_twice hm h]
    exact ⟨hs, fun y => ⟨.inl, fun q => q.elim id fun e => by rw [e]; exact h⟩⟩
  · have hlt : (x :: L).length ≤ U.length := nodup_le (List.nodup_cons.2 ⟨h, hs.nodup⟩) fun y hy => by
      rcases List.mem_cons.1 hy with rfl | hy
      · exact hx
      · exact hL y hy
    rw [List.length_cons] at hlt
    have hp := pos_le x L
    have hi := ins_length x L
    rw [addS_ok hm h (by omega)]
    simp only
    rw [List.take_of_length_le (by omega)]
    exact ⟨ins_sorted hs h, fun y => mem_ins.trans or_comm⟩
theorem addsL_in {U : List Att} (hl : U.length ≤ 200) (ok : ∀ y, y ∈ U → may y.n) : ∀ (l L : List Att), Sorted L → (∀ y, y ∈ L → y ∈ U) → (∀ y, y ∈ l → y ∈ U) → Sorted (addsL l L) ∧ ∀ y, y ∈ addsL l L ↔ y ∈ L ∨ y ∈ l
  | [], L, hs, _, _ => ⟨hs, fun y => by simp [addsL]⟩
  | x :: l, L, hs, hL, hx => by
    obtain ⟨h1, h2⟩ := addS_in hs hl ok hL (hx x (by simp))
    obtain ⟨h3, h4⟩ := addsL_in hl ok l (addS x L).1 h1 (fun y hy => ((h2 y).1 hy).elim (hL y) fun e => by rw [e]; exact hx x (by simp)) (fun y hy => hx y (List.mem_cons_of_mem _ hy))
    refine ⟨h3, fun y => ?_⟩
    show y ∈ addsL l (addS x L).1 ↔ _
    rw [h4, h2, List.mem_cons, or_assoc]
def Inc (p q : List UInt8) : Prop := ¬ p <+: q ∧ ¬ q <+: p
theorem Inc.symm {p q : List UInt8} (h : Inc p q) : Inc q p := ⟨h.2, h.1⟩
theorem Inc.snoc {p q : List UInt8} (h : Inc p q) (x : UInt8) : Inc (p ++ [x]) q := ⟨fun k => h.1 ((List.prefix_append p [x]).trans k), fun k => by
  rcases List.prefix_concat_iff.1 k with e | e
  · exact h.1 (by rw [e]; exact List.prefix_append p [x])
  · exact h.2 e⟩
theorem inc_two {p : List UInt8} {x y : UInt8} (h : x ≠ y) : Inc (p ++ [x]) (p ++ [y]) := ⟨fun k => h (by
  have := k.eq_of_length (by simp)
  simpa using this), fun k => h (by
  have := k.eq_of_length (by simp)
  simpa using this.symm)⟩
theorem under_pre {p q k : List UInt8} (h : under p k = true) (g : under q k = true) (hl : p.length ≤ q.length) : p <+: q := by
  rw [List.prefix_iff_eq_take]
  apply List.ext_getElem (by rw [List.length_take]; omega)
  intro i h1 h2
  have e1 := under_iff.1 h i h1
  have e2 := under_iff.1 g i (by omega)
  rw [List.getElem_take]
  have e3 : p.getD i 0 = q.getD i 0 := e1.symm.trans e2
  simpa [List.getD_eq_getElem?_getD, List.getElem?_eq_getElem h1, List.getElem?_eq_getElem (show i < q.length by omega)] using e3
theorem inc_under {p q k : List UInt8} (h : Inc p q) (g : under p k = true) : under q k = false := by
  cases e : under q k
  · rfl
  · rcases Nat.le_total p.length q.length with hl | hl
    · exact absurd (under_pre g e hl) h.1
    · exact absurd (under_pre e g hl) h.2
theorem belowL_snoc {p : List UInt8} {u : UInt8} (L : List Att) (h : isPre p = true) (hl : p.length < 8) (hu : u.toNat < 16) : belowL (p ++ [u]) L = (belowL p L).filter fun x => decide ((nib x.k p.length).toNat = u.toNat) := by
  rw [belowL_ok (pre_snoc h hl hu), belowL_ok h, List.filter_filter]
  congr 1
  funext x
  rw [under_snoc, Bool.and_comm]
theorem sumL_eq {p : List UInt8} {L M : List Att} (h : belowL p L = belowL p M) : sumL p L = sumL p M := by
  unfold sumL
  rw [h]
theorem cntL_eq {p : List UInt8} {L M : List Att} (h : belowL p L = belowL p M) : cntL p L = cntL p M := by
  unfold cntL
  rw [h]
structure Two (I : Bool → List Att) (U : List Att) : Prop where
  us : Sorted U
  ul : U.length ≤ 200
  uok : ∀ y, y ∈ U → may y.n
  is : ∀ b, Sorted (I b)
  iu : ∀ b x, x ∈ I b → x ∈ U
  ui : ∀ x, x ∈ U → x ∈ I false ∨ x ∈ I true
def Bad (I : Bool → List Att) : Prop := ∃ p, isPre p = true ∧ belowL p (I false) ≠ belowL p (I true) ∧ cntL p (I false) = cntL p (I true) ∧ sumL p (I false) = sumL p (I true)
structure Inv (I : Bool → List Att) (U : List Att) (S : Bool → List Att) (post : List (Bool × Msg)) : Prop where
  srt : ∀ b, Sorted (S b)
  sub : ∀ b x, x ∈ S b → x ∈ U
  may_ : ∀ y, y ∈ post → mayM y.2
  sumd : ∀ y, y ∈ post → y.2.kind = 1 → y.2.sum = sumL y.2.pre (I !y.1) ∧ y.2.cnt = ((cntL y.2.pre (I !y.1) : Nat) : Int) ∧ ∀ b, belowL y.2.pre (S b) = belowL y.2.pre (I b)
  inc : post.Pairwise (fun x y => x.2.kind = 1 ∨ y.2.kind = 1 → Inc x.2.pre y.2.pre)
  its : ∀ y, y ∈ post → ∀ x, x ∈ y.2.items → x ∈ U
def Cov (U : List Att) (S : Bool → List Att) (post : List (Bool × Msg)) : Prop := ∀ x, x ∈ U → ∀ b, x ∈ S b ∨ ∃ y, y ∈ post ∧ ((y.2.kind = 1 ∧ under y.2.pre x.k = true) ∨ (y.2.kind = 2 ∧ y.1 = b ∧ x ∈ y.2.items) ∨ (y.2.kind = 2 ∧ y.2.ans = false ∧ y.1 = !b ∧ under y.2.pre x.k = true ∧ x ∈ S y.1 ∧ x ∉ y.2.items))
def costP (U : List Att) (post : List (Bool × Msg)) : Nat := costs U (post.map Prod.snd)
section
variable {I S : Bool → List Att} {U : List Att} {post post' rest : List (Bool × Msg)} {b : Bool} {m : Msg}
theorem Inv.perm (h : Inv I U S post) (e : post.Perm post') : Inv I U S post' :=
  ⟨h.srt, h.sub, fun y hy => h.may_ y (e.mem_iff.2 hy), fun y hy => h.sumd y (e.mem_iff.2 hy), (e.pairwise_iff fun k q => (k q.symm).symm).1 h.inc, fun y hy => h.its y (e.mem_iff.2 hy)⟩
theorem Cov.perm (h : Cov U S post) (e : post.Perm post') : Cov U S post' := fun x hx b => (h x hx b).imp id fun ⟨y, hy, k⟩ => ⟨y, e.mem_iff.1 hy, k⟩
theorem costP.perm (e : post.Perm post') : costP U post = costP U post' := ((e.map Prod.snd).map (cost U)).sum_nat
theorem costP_cons : costP U ((b, m) :: rest) = cost U m + costP U rest := by simp [costP, costs]
theorem costP_new (M : List Msg) (c : Bool) : costP U (rest ++ M.map fun n => (c, n)) = costP U rest + costs U M := by
  unfold costP
  rw [List.map_append, List.map_map, costs_append]
  congr 2
  simp [Function.comp_def]
theorem Inv.len (h : Inv I U S post) (T : Two I U) (b : Bool) : (S b).length ≤ 200 := Nat.le_trans (nodup_le (h.srt b).nodup (h.sub b)) T.ul
theorem Inv.put (h : Inv I U S ((b, m) :: rest)) (M : List Msg) (hm : ∀ n, n ∈ M → mayM n) (hi : ∀ n, n ∈ M → ∀ x, x ∈ n.items → x ∈ U)
    (hs : ∀ n, n ∈ M → n.kind = 1 → n.sum = sumL n.pre (I b) ∧ n.cnt = ((cntL n.pre (I b) : Nat) : Int) ∧ ∀ c, belowL n.pre (S c) = belowL n.pre (I c))
    (hp : M.Pairwise (fun x y => x.kind = 1 ∨ y.kind = 1 → Inc x.pre y.pre)) (hq : ∀ n, n ∈ M → ∀ y, y ∈ rest → n.kind = 1 ∨ y.2.kind = 1 → Inc y.2.pre n.pre) : Inv I U S (rest ++ M.map fun n => (!b, n)) := by
  have hin := List.pairwise_cons.1 h.inc
  have hmem : ∀ y, y ∈ rest ++ (M.map fun n => (!b, n)) → y ∈ rest ∨ ∃ n, n ∈ M ∧ y = (!b, n) := fun y hy => (List.mem_append.1 hy).imp id fun k => by
    obtain ⟨n, hn, rfl⟩ := List.mem_map.1 k
    exact ⟨n, hn, rfl⟩
  refine ⟨h.srt, h.sub, fun y hy => ?_, fun y hy hk => ?_, ?_, fun y hy => ?_⟩
  · rcases hmem y hy with k | ⟨n, hn, rfl⟩
    · exact h.may_ y (List.mem_cons_of_mem _ k)
    · exact hm n hn
  · rcases hmem y hy with k | ⟨n, hn, rfl⟩
    · exact h.sumd y (List.mem_cons_of_mem _ k) hk
    · have := hs n hn hk
      simpa using this
  · refine List.pairwise_append.2 ⟨hin.2, List.pairwise_map.2 hp, fun y hy z hz => ?_⟩
    obtain ⟨n, hn, rfl⟩ := List.mem_map.1 hz
    exact fun q => hq n hn y hy q.symm
  · rcases hmem y hy with k | ⟨n, hn, rfl⟩
    · exact h.its y (List.mem_cons_of_mem _ k)
    · exact hi n hn
theorem nine {q N : Nat} (h1 : q ≤ 25) (h2 : 8 * q ≤ N + 7) (h3 : 1 ≤ N) : q * (1 + q) + 1 ≤ 3 + 4 * N := by
  rcases Nat.lt_or_ge q 5 with h | h
  · have : q * (1 + q) ≤ q * 5 := Nat.mul_le_mul_left q (by omega)
    omega
  · have : q * (1 + q) ≤ q * 26 := Nat.mul_le_mul_left q (by omega)
    omega
end
end Mur
namespace Mur
open Go Go.RowKit Go.Lib
section
variable {I S : Bool → List Att} {U : List Att} {rest : List (Bool × Msg)} {b : Bool} {m : Msg}
theorem mayM_items {p : List UInt8} {l : List Att} {a : Bool} (hp : isPre p = true) (hs : Sorted l) (hl : ∀ x, x ∈ l → may x.n ∧ under p x.k = true) : ∀ n, n ∈ itemsM p l a → mayM n := fun n hn => by
  obtain ⟨c, hc, rfl⟩ := List.mem_map.1 hn
  exact ⟨hp, Int.le_refl _, (show (0 : Int) ≤ 200 by decide), chunks_le hc, .inr ⟨rfl, fun x hx => hl x (chunks_sub hc hx), chunks_srt hc hs, rfl, rfl⟩⟩
theorem mayM_empty {p : List UInt8} (hp : isPre p = true) : mayM (emptyM p) := ⟨hp, Int.le_refl _, (show (0 : Int) ≤ 200 by decide), Nat.zero_le _, .inr ⟨rfl, (fun x hx => by cases hx), List.Pairwise.nil, rfl, rfl⟩⟩
theorem mayM_summary {p : List UInt8} {L : List Att} (hp : isPre p = true) (hl : L.length ≤ 200) : mayM (summaryM p L) := by
  have := cntL_all p L
  exact ⟨hp, by simp [summaryM], by show ((cntL p L : Nat) : Int) ≤ 200; omega, Nat.zero_le _, .inl ⟨rfl, rfl, rfl⟩⟩
theorem heard_same (T : Two I U) (h : Inv I U S ((b, m) :: rest)) (hk : m.kind = 1) (e1 : sumL m.pre (S b) = m.sum) (e2 : ((cntL m.pre (S b) : Nat) : Int) = m.cnt) :
    Inv I U S rest ∧ costP U rest + 1 ≤ costP U ((b, m) :: rest) ∧ (¬ Bad I → Cov U S ((b, m) :: rest) → Cov U S rest) := by
  obtain ⟨s1, s2, s3⟩ := h.sumd (b, m) (by simp) hk
  have hp : isPre m.pre = true := (h.may_ (b, m) (by simp)).1
  refine ⟨?_, ?_, fun hb hc x hx c => ?_⟩
  · have := h.put [] (by simp) (by simp) (by simp) List.Pairwise.nil (by simp)
    simpa using this
  · rw [costP_cons]
    unfold cost
    rw [if_pos hk]
    omega
  · rcases hc x hx c with k | ⟨y, hy, k⟩
    · exact .inl k
    · rcases List.mem_cons.1 hy with rfl | hy
      · rcases k with ⟨_, hu⟩ | ⟨k2, _⟩ | ⟨k2, _⟩
        · refine .inl ?_
          have g1 : sumL m.pre (I b) = sumL m.pre (I !b) := by rw [← sumL_eq (s3 b), e1, s1]
          have g2 : cntL m.pre (I b) = cntL m.pre (I !b) := by
            have := cntL_eq (s3 b)
            simp only at s2 this
            omega
          have g3 : belowL m.pre (I false) = belowL m.pre (I true) := by
            by_cases q : belowL m.pre (I false) = belowL m.pre (I true)
            · exact q
            · refine absurd ⟨m.pre, hp, q, ?_, ?_⟩ hb
              · cases b
                · exact g2
                · exact g2.symm
              · cases b
                · exact g1
                · exact g1.symm
          have g4 : ∀ d, x ∈ belowL m.pre (I d) := by
            have g5 : x ∈ belowL m.pre (I false) := by
              rcases T.ui x hx with q | q
              · exact (mem_belowL hp).2 ⟨q, hu⟩
              · rw [g3]
                exact (mem_belowL hp).2 ⟨q, hu⟩
            intro d
            cases d
            · exact g5
            · rw [← g3]
              exact g5
          have g6 := g4 c
          rw [← s3 c] at g6
          exact ((mem_belowL hp).1 g6).1
        · rw [hk] at k2
          exact absurd k2 (by decide)
        · rw [hk] at k2
          exact absurd k2 (by decide)
      · exact .inr ⟨y, hy, k⟩
theorem heard_items (T : Two I U) (h : Inv I U S ((b, m) :: rest)) (hk : m.kind = 1) (M : List Msg) (hne : M ≠ []) (hM : ∀ n, n ∈ M → mayM n ∧ n.kind = 2 ∧ n.ans = false ∧ n.pre = m.pre ∧ ∀ x, x ∈ n.items → x ∈ belowL m.pre (S b)) (hall : ∀ x, x ∈ belowL m.pre (S b) → ∃ n, n ∈ M ∧ x ∈ n.items) :
    Inv I U S (rest ++ M.map fun n => (!b, n)) ∧ (Cov U S ((b, m) :: rest) → Cov U S (rest ++ M.map fun n => (!b, n))) := by
  obtain ⟨s1, s2, s3⟩ := h.sumd (b, m) (by simp) hk
  have hp : isPre m.pre = true := (h.may_ (b, m) (by simp)).1
  have hin := List.pairwise_cons.1 h.inc
  refine ⟨h.put M (fun n hn => (hM n hn).1) (fun n hn x hx => h.sub b x ((mem_belowL hp).1 ((hM n hn).2.2.2.2 x hx)).1) (fun n hn q => ?_) ?_ (fun n hn y hy _ => ?_), fun hc x hx c => ?_⟩
  · rw [(hM n hn).2.1] at q
    exact absurd q (by decide)
  · refine List.pairwise_of_forall_mem_list fun x hx y hy q => ?_
    rw [(hM x hx).2.1, (hM y hy).2.1] at q
    exact absurd q (by decide)
  · rw [(hM n hn).2.2.2.1]
    exact (hin.1 y hy (.inl hk)).symm
  · rcases hc x hx c with k | ⟨y, hy, k⟩
    · exact .inl k
    · rcases List.mem_cons.1 hy with rfl | hy
      · rcases k with ⟨_, hu⟩ | ⟨k2, _⟩ | ⟨k2, _⟩
        · by_cases q : x ∈ S c
          · exact .inl q
          · refine .inr ?_
            have g1 : x ∈ S false ∨ x ∈ S true := by
              rcases T.ui x hx with q | q
              · have : x ∈ belowL m.pre (I false) := (mem_belowL hp).2 ⟨q, hu⟩
                rw [← s3 false] at this
                exact .inl ((mem_belowL hp).1 this).1
              · have : x ∈ belowL m.pre (I true) := (mem_belowL hp).2 ⟨q, hu⟩
                rw [← s3 true] at this
                exact .inr ((mem_belowL hp).1 this).1
            have g2 : x ∈ S !c := by
              cases c
              · exact g1.resolve_left q
              · exact g1.resolve_right q
            by_cases e : c = b
            · subst e
              obtain ⟨n, hn⟩ := List.exists_mem_of_ne_nil M hne
              obtain ⟨q1, q2, q3, q4, q5⟩ := hM n hn
              exact ⟨(!c, n), List.mem_append_right _ (List.mem_map.2 ⟨n, hn, rfl⟩), .inr (.inr ⟨q2, q3, rfl, by rw [q4]; exact hu, g2, fun z => q ((mem_belowL hp).1 (q5 x z)).1⟩)⟩
            · have e2 : (!c) = b := by cases c <;> cases b <;> simp_all
              rw [e2] at g2
              obtain ⟨n, hn, hxn⟩ := hall x ((mem_belowL hp).2 ⟨g2, hu⟩)
              exact ⟨(!b, n), List.mem_append_right _ (List.mem_map.2 ⟨n, hn, rfl⟩), .inr (.inl ⟨(hM n hn).2.1, by rw [← e2, Bool.not_not], hxn⟩)⟩
        · rw [hk] at k2
          exact absurd k2 (by decide)
        · rw [hk] at k2
          exact absurd k2 (by decide)
      · exact .inr ⟨y, List.mem_append_left _ hy, k⟩
theorem heard_split (T : Two I U) (h : Inv I U S ((b, m) :: rest)) (hk : m.kind = 1) (hl : m.pre.length < 8) (hn : 8 < ((cntL m.pre (S b) : Nat) : Int) + m.cnt) :
    Inv I U S (rest ++ (splitM m.pre (S b) 16).map fun n => (!b, n)) ∧ costP U (rest ++ (splitM m.pre (S b) 16).map fun n => (!b, n)) + 1 ≤ costP U ((b, m) :: rest) ∧ (Cov U S ((b, m) :: rest) → Cov U S (rest ++ (splitM m.pre (S b) 16).map fun n => (!b, n))) := by
  obtain ⟨s1, s2, s3⟩ := h.sumd (b, m) (by simp) hk
  have hp : isPre m.pre = true := (h.may_ (b, m) (by simp)).1
  have hin := List.pairwise_cons.1 h.inc
  have hmem : ∀ n, n ∈ splitM m.pre (S b) 16 → ∃ x, x < 16 ∧ n = summaryM (m.pre ++ [UInt8.ofNat x]) (S b) := fun n hn => by
    obtain ⟨x, hx, rfl⟩ := List.mem_map.1 hn
    exact ⟨x, List.mem_range.1 hx, rfl⟩
  have hpx : ∀ x, x < 16 → isPre (m.pre ++ [UInt8.ofNat x]) = true := fun x hx => pre_snoc hp hl (by rw [u8_of hx]; exact hx)
  refine ⟨h.put _ (fun n hn => ?_) (fun n hn x hx => ?_) (fun n hn q => ?_) ?_ (fun n hn y hy _ => ?_), ?_, fun hc x hx c => ?_⟩
  · obtain ⟨x, hx, rfl⟩ := hmem n hn
    exact mayM_summary (hpx x hx) (h.len T b)
  · obtain ⟨x, hx, rfl⟩ := hmem n hn
    cases hx
  · obtain ⟨x, hx, rfl⟩ := hmem n hn
    have key : ∀ c, belowL (m.pre ++ [UInt8.ofNat x]) (S c) = belowL (m.pre ++ [UInt8.ofNat x]) (I c) := fun c => by
      rw [belowL_snoc _ hp hl (by rw [u8_of hx]; exact hx), belowL_snoc _ hp hl (by rw [u8_of hx]; exact hx), s3 c]
    exact ⟨sumL_eq (key b), by show ((cntL (m.pre ++ [UInt8.ofNat x]) (S b) : Nat) : Int) = _; rw [cntL_eq (key b)]; rfl, key⟩
  · unfold splitM
    refine List.pairwise_map.2 (List.Pairwise.imp_of_mem (fun {x y} hx hy hxy _ => inc_two fun e => ?_) List.nodup_range)
    have := congrArg UInt8.toNat e
    rw [u8_of (List.mem_range.1 hx), u8_of (List.mem_range.1 hy)] at this
    exact hxy this
  · obtain ⟨x, hx, rfl⟩ := hmem n hn
    exact ((hin.1 y hy (.inl hk)).snoc _).symm
  · rw [costP_cons, costP_new, costs_split T.us hp hl]
    unfold cost
    rw [if_pos hk]
    have h1 := cntL_le hp (h.srt b) (h.sub b)
    have h2 := cntL_le hp (T.is !b) (T.iu !b)
    simp only at s2
    have e : (4 + 10 * (8 - m.pre.length)) * cntL m.pre U = (4 + 10 * (8 - (m.pre.length + 1))) * cntL m.pre U + 10 * cntL m.pre U := by
      rw [← Nat.add_mul]
      congr 1
      omega
    omega
  · rcases hc x hx c with k | ⟨y, hy, k⟩
    · exact .inl k
    · rcases List.mem_cons.1 hy with rfl | hy
      · rcases k with ⟨_, hu⟩ | ⟨k2, _⟩ | ⟨k2, _⟩
        · have hlt := nib_lt x.k m.pre.length
          refine .inr ⟨(!b, summaryM (m.pre ++ [UInt8.ofNat (nib x.k m.pre.length).toNat]) (S b)), List.mem_append_right _ (List.mem_map.2 ⟨_, List.mem_map.2 ⟨_, List.mem_range.2 hlt, rfl⟩, rfl⟩), .inl ⟨rfl, ?_⟩⟩
          show under (m.pre ++ [UInt8.ofNat (nib x.k m.pre.length).toNat]) x.k = true
          rw [under_snoc, u8_of hlt]
          simp only at hu
          rw [hu]
          simp
        · rw [hk] at k2
          exact absurd k2 (by decide)
        · rw [hk] at k2
          exact absurd k2 (by decide)
      · exact .inr ⟨y, List.mem_append_left _ hy, k⟩
def upd (S : Bool → List Att) (b : Bool) (L : List Att) : Bool → List Att := fun c => if c = b then L else S c
theorem heard_two (T : Two I U) (h : Inv I U S ((b, m) :: rest)) (hk : m.kind = 2) (M : List Msg) (hM : ∀ n, n ∈ M → mayM n ∧ n.kind = 2 ∧ n.pre = m.pre ∧ ∀ x, x ∈ n.items → x ∈ S b) (hall : m.ans = false → ∀ x, x ∈ restM (S b) m → ∃ n, n ∈ M ∧ x ∈ n.items) :
    Inv I U (upd S b (addsL (learnM (S b) m) (S b))) (rest ++ M.map fun n => (!b, n)) ∧ (Cov U S ((b, m) :: rest) → Cov U (upd S b (addsL (learnM (S b) m) (S b))) (rest ++ M.map fun n => (!b, n))) := by
  have hm := h.may_ (b, m) (by simp)
  have hp : isPre m.pre = true := hm.1
  have hit : ∀ x, x ∈ m.items → x ∈ U := h.its (b, m) (by simp)
  have hun : ∀ x, x ∈ m.items → under m.pre x.k = true := by
    rcases hm.2.2.2.2 with q | q
    · have := q.1
      simp only [hk] at this
      exact absurd this (by decide)
    · exact fun x hx => (q.2.1 x hx).2
  have hin := List.pairwise_cons.1 h.inc
  have hle : ∀ x, x ∈ learnM (S b) m ↔ x ∈ m.items ∧ x ∉ S b := fun x => by simp [learnM]
  obtain ⟨a1, a2⟩ := addsL_in T.ul T.uok (learnM (S b) m) (S b) (h.srt b) (h.sub b) (fun y hy => hit y ((hle y).1 hy).1)
  have a3 : ∀ x, x ∈ addsL (learnM (S b) m) (S b) ↔ x ∈ S b ∨ x ∈ m.items := fun x => by
    rw [a2, hle]
    by_cases q : x ∈ S b <;> simp [q]
  have hS : ∀ c x, x ∈ upd S b (addsL (learnM (S b) m) (S b)) c ↔ x ∈ S c ∨ (c = b ∧ x ∈ m.items) := fun c x => by
    unfold upd
    by_cases e : c = b
    · subst e
      rw [if_pos rfl, a3]
      simp
    · rw [if_neg e]
      simp [e]
  have hS1 : ∀ c x, x ∈ S c → x ∈ upd S b (addsL (learnM (S b) m) (S b)) c := fun c x hx => (hS c x).2 (.inl hx)
  have hsrt : ∀ c, Sorted (upd S b (addsL (learnM (S b) m) (S b)) c) := fun c => by
    unfold upd
    split
    · exact a1
    · exact h.srt c
  have h2 : Inv I U (upd S b (addsL (learnM (S b) m) (S b))) ((b, m) :: rest) := by
    refine ⟨hsrt, fun c x hx => ((hS c x).1 hx).elim (h.sub c x) fun q => hit x q.2, h.may_, fun y hy q => ?_, h.inc, h.its⟩
    obtain ⟨t1, t2, t3⟩ := h.sumd y hy q
    refine ⟨t1, t2, fun c => ?_⟩
    rw [← t3 c]
    rcases List.mem_cons.1 hy with rfl | hy'
    · simp only [hk] at q
      exact absurd q (by decide)
    · have hi : Inc m.pre y.2.pre := hin.1 y hy' (.inr q)
      have hpy := (h.may_ y hy).1
      refine (belowL_srt (hsrt c)).ext (belowL_srt (h.srt c)) fun x => ?_
      rw [mem_belowL hpy, mem_belowL hpy, hS]
      constructor
      · rintro ⟨q1 | ⟨_, q1⟩, q2⟩
        · exact ⟨q1, q2⟩
        · rw [inc_under hi (hun x q1)] at q2
          cases q2
      · exact fun q1 => ⟨.inl q1.1, q1.2⟩
  refine ⟨h2.put M (fun n hn => (hM n hn).1) (fun n hn x hx => h.sub b x ((hM n hn).2.2.2 x hx)) (fun n hn q => ?_) ?_ (fun n hn y hy q => ?_), fun hc x hx c => ?_⟩
  · rw [(hM n hn).2.1] at q
    exact absurd q (by decide)
  · refine List.pairwise_of_forall_mem_list fun x hx y hy q => ?_
    rw [(hM x hx).2.1, (hM y hy).2.1] at q
    exact absurd q (by decide)
  · rw [(hM n hn).2.2.1]
    rcases q with q | q
    · rw [(hM n hn).2.1] at q
      exact absurd q (by decide)
    · exact (hin.1 y hy (.inr q)).symm
  · rcases hc x hx c with k | ⟨y, hy, k⟩
    · exact .inl (hS1 c x k)
    · rcases List.mem_cons.1 hy with rfl | hy
      · rcases k with ⟨k1, _⟩ | ⟨_, k2, k3⟩ | ⟨_, k2, k3, k4, k5, k6⟩
        · simp only [hk] at k1
          exact absurd k1 (by decide)
        · exact .inl ((hS c x).2 (.inr ⟨k2.symm, k3⟩))
        · obtain ⟨n, hn, hxn⟩ := hall k2 x (List.mem_filter.2 ⟨(mem_belowL hp).2 ⟨k5, k4⟩, by simpa using k6⟩)
          refine .inr ⟨(!b, n), List.mem_append_right _ (List.mem_map.2 ⟨n, hn, rfl⟩), .inr (.inl ⟨(hM n hn).2.1, ?_, hxn⟩)⟩
          simp only at k3
          show (!b) = c
          rw [k3, Bool.not_not]
      · refine .inr ⟨y, List.mem_append_left _ hy, ?_⟩
        rcases k with k | k | ⟨k1, k2, k3, k4, k5, k6⟩
        · exact .inl k
        · exact .inr (.inl k)
        · exact .inr (.inr ⟨k1, k2, k3, k4, hS1 _ x k5, k6⟩)
theorem heard (T : Two I U) (h : Inv I U S ((b, m) :: rest)) :
    Inv I U (upd S b (addsL (learnsM (S b) m) (S b))) (rest ++ (repliesM (S b) m).map fun n => (!b, n)) ∧ costP U (rest ++ (repliesM (S b) m).map fun n => (!b, n)) + 1 ≤ costP U ((b, m) :: rest) ∧
      (¬ Bad I → Cov U S ((b, m) :: rest) → Cov U (upd S b (addsL (learnsM (S b) m) (S b))) (rest ++ (repliesM (S b) m).map fun n => (!b, n))) := by
  have hm := h.may_ (b, m) (by simp)
  have hp : isPre m.pre = true := hm.1
  have h8 := pre_len hp
  have hn1 := cntL_le hp (h.srt b) (h.sub b)
  have hn2 := cntL_all m.pre U
  have hul := T.ul
  by_cases hk : m.kind = 1
  · have hl : learnsM (S b) m = [] := by
      unfold learnsM
      rw [if_pos hm, if_pos hk]
    have hS : upd S b (addsL [] (S b)) = S := by
      funext c
      unfold upd addsL
      by_cases e : c = b
      · subst e
        simp
      · rw [if_neg e]
    rw [hl, hS]
    obtain ⟨s1, s2, s3⟩ := h.sumd (b, m) (by simp) hk
    have hr : repliesM (S b) m = summedM (S b) m := by
      unfold repliesM
      rw [if_pos hm, if_pos hk]
    rw [hr]
    unfold summedM
    split
    · rename_i q
      simpa using heard_same T h hk q.1 q.2
    · split
      · rename_i q
        have hcost : cost U m = 3 + (4 + 10 * (8 - m.pre.length)) * cntL m.pre U := by
          unfold cost
          rw [if_pos hk]
        have hge : 4 * cntL m.pre U ≤ (4 + 10 * (8 - m.pre.length)) * cntL m.pre U := Nat.mul_le_mul_right _ (by omega)
        split
        · rename_i z
          obtain ⟨r1, r2⟩ := heard_items T h hk [emptyM m.pre] (by simp) (fun n hn => by
            rw [List.mem_singleton.1 hn]
            exact ⟨mayM_empty hp, rfl, rfl, rfl, fun x hx => by cases hx⟩) (fun x hx => by
            have : (belowL m.pre (S b)).length = 0 := z
            rw [List.eq_nil_of_length_eq_zero this] at hx
            cases hx)
          refine ⟨r1, ?_, fun _ => r2⟩
          rw [costP_cons, costP_new, hcost]
          have : costs U [emptyM m.pre] = 1 + (cntL m.pre U + 7) / 8 := by
            simp [costs, emptyM, cost]
          omega
        · rename_i z
          have hsb := belowL_srt (p := m.pre) (h.srt b)
          have hmem : ∀ x, x ∈ belowL m.pre (S b) → may x.n ∧ under m.pre x.k = true := fun x hx => ⟨T.uok x (h.sub b x ((mem_belowL hp).1 hx).1), ((mem_belowL hp).1 hx).2⟩
          obtain ⟨r1, r2⟩ := heard_items T h hk (itemsM m.pre (belowL m.pre (S b)) false) (fun e => by
            have := congrArg List.length e
            simp only [itemsM, List.length_map, chunks_len, List.length_nil] at this
            unfold cntL at z
            omega) (fun n hn => by
            have h3 := mayM_items (a := false) hp hsb hmem n hn
            obtain ⟨c, hc, rfl⟩ := List.mem_map.1 hn
            exact ⟨h3, rfl, rfl, rfl, fun x hx => chunks_sub hc hx⟩) (fun x hx => by
            obtain ⟨c, hc, hxc⟩ := chunks_all hx
            exact ⟨_, List.mem_map.2 ⟨c, hc, rfl⟩, hxc⟩)
          refine ⟨r1, ?_, fun _ => r2⟩
          rw [costP_cons, costP_new, hcost, costs_items]
          simp only [Bool.false_eq_true, if_false]
          have e : (belowL m.pre (S b)).length = cntL m.pre (S b) := rfl
          rw [e]
          rcases q with q | q
          · have h9 := nine (q := (cntL m.pre U + 7) / 8) (N := cntL m.pre U) (by omega) (by omega) (by omega)
            have h10 : (cntL m.pre (S b) + 7) / 8 * (1 + (cntL m.pre U + 7) / 8) ≤ (cntL m.pre U + 7) / 8 * (1 + (cntL m.pre U + 7) / 8) := Nat.mul_le_mul_right _ (by omega)
            omega
          · have hc0 := hm.2.1
            have h11 : (cntL m.pre (S b) + 7) / 8 = 1 := by
              simp only at hc0
              omega
            rw [h11, Nat.one_mul]
            omega
      · rename_i q1 q
        have q2 := not_or.1 q
        obtain ⟨r1, r2, r3⟩ := heard_split T h hk (by omega) (by omega)
        exact ⟨r1, r2, fun _ => r3⟩
  · have hk2 : m.kind = 2 := by
      rcases hm.2.2.2.2 with q | q
      · exact absurd q.1 hk
      · exact q.1
    have hl : learnsM (S b) m = learnM (S b) m := by
      unfold learnsM
      rw [if_pos hm, if_neg hk]
    rw [hl]
    cases ha : m.ans
    · have hr : repliesM (S b) m = itemsM m.pre (restM (S b) m) true := by
        unfold repliesM
        rw [if_pos hm, if_neg hk, ha]
        simp
      rw [hr]
      have hrs : Sorted (restM (S b) m) := (belowL_srt (h.srt b)).filter _
      have hrm : ∀ x, x ∈ restM (S b) m → x ∈ belowL m.pre (S b) := fun x hx => (List.mem_filter.1 hx).1
      have hrl : (restM (S b) m).length ≤ cntL m.pre (S b) := List.length_filter_le _ _
      obtain ⟨r1, r2⟩ := heard_two T h hk2 (itemsM m.pre (restM (S b) m) true) (fun n hn => by
        have h3 := mayM_items (a := true) hp hrs (fun x hx => ⟨T.uok x (h.sub b x ((mem_belowL hp).1 (hrm x hx)).1), ((mem_belowL hp).1 (hrm x hx)).2⟩) n hn
        obtain ⟨c, hc, rfl⟩ := List.mem_map.1 hn
        exact ⟨h3, rfl, rfl, fun x hx => ((mem_belowL hp).1 (hrm x (chunks_sub hc hx))).1⟩) (fun _ x hx => by
        obtain ⟨c, hc, hxc⟩ := chunks_all hx
        exact ⟨_, List.mem_map.2 ⟨c, hc, rfl⟩, hxc⟩)
      refine ⟨r1, ?_, fun _ => r2⟩
      rw [costP_cons, costP_new, costs_items]
      have : cost U m = 1 + (cntL m.pre U + 7) / 8 := by
        unfold cost
        rw [if_neg hk, ha]
        simp
      rw [this]
      simp only [if_true, Nat.mul_one]
      omega
    · have hr : repliesM (S b) m = [] := by
        unfold repliesM
        rw [if_pos hm, if_neg hk, ha]
        simp
      rw [hr]
      obtain ⟨r1, r2⟩ := heard_two T h hk2 [] (by simp) (fun q => by rw [ha] at q; cases q)
      refine ⟨r1, ?_, fun _ => r2⟩
      rw [costP_cons, costP_new]
      have : cost U m = 1 := by
        unfold cost
        rw [if_neg hk, ha]
        simp
      rw [this]
      simp [costs]
      omega
theorem inv_start (T : Two I U) : Inv I U I [(true, summaryM [] (I false))] ∧ costP U [(true, summaryM [] (I false))] ≤ 16803 ∧ Cov U I [(true, summaryM [] (I false))] := by
  have hl : ∀ b, (I b).length ≤ 200 := fun b => Nat.le_trans (nodup_le (T.is b).nodup (T.iu b)) T.ul
  refine ⟨⟨T.is, T.iu, fun y hy => ?_, fun y hy _ => ?_, List.pairwise_singleton _ _, fun y hy x hx => ?_⟩, ?_, fun x hx b => .inr ⟨_, List.mem_singleton.2 rfl, .inl ⟨rfl, rfl⟩⟩⟩
  · rw [List.mem_singleton.1 hy]
    exact mayM_summary (by decide) (hl false)
  · rw [List.mem_singleton.1 hy]
    exact ⟨rfl, rfl, fun _ => rfl⟩
  · rw [List.mem_singleton.1 hy] at hx
    cases hx
  · have h1 := cntL_all [] U
    have h2 := T.ul
    show cost U (summaryM [] (I false)) + 0 ≤ 16803
    have : cost U (summaryM [] (I false)) = 3 + 84 * cntL [] U := rfl
    omega
theorem inv_end (T : Two I U) (h : Inv I U S []) (hc : Cov U S []) (b : Bool) : S b = U := (h.srt b).ext T.us fun x => ⟨h.sub b x, fun hx => (hc x hx b).elim id fun ⟨y, hy, _⟩ => by cases hy⟩
end
end Mur
namespace Mur
open Go Go.RowKit Go.Lib
theorem ins_lt {x : Att} {L : List Att} {i : Nat} (h : i < pos x L) : (ins x L)[i]? = L[i]? := by
  unfold ins
  have := pos_le x L
  rw [List.getElem?_append_left (by rw [List.length_take]; omega), List.getElem?_take, if_pos h]
theorem ins_at (x : Att) (L : List Att) : (ins x L)[pos x L]? = some x := by
  unfold ins
  have := pos_le x L
  rw [List.getElem?_append_right (by rw [List.length_take]; omega), List.length_take, Nat.min_eq_left this, Nat.sub_self]
  rfl
theorem ins_gt {x : Att} {L : List Att} {i : Nat} (h : pos x L ≤ i) : (ins x L)[i + 1]? = L[i]? := by
  unfold ins
  have := pos_le x L
  rw [List.getElem?_append_right (by rw [List.length_take]; omega), List.length_take, Nat.min_eq_left this, show i + 1 - pos x L = (i - pos x L) + 1 by omega, List.getElem?_cons_succ, List.getElem?_drop]
  congr 1
  omega
theorem take_snoc {l : List Att} {i : Nat} {y : Att} (h : l[i]? = some y) : l.take (i + 1) = l.take i ++ [y] := by
  obtain ⟨h1, rfl⟩ := List.getElem?_eq_some_iff.1 h
  exact List.take_succ_eq_append_getElem h1
theorem radd_lt {x y : Att} {L : List Att} {i : Nat} (hs : Sorted L) (hy : L[i]? = some y) (hne : ¬ y = x) (hl : ¬ x.lt y) : i < pos x L ∧ (ins x L).take (i + 1) = (ins x L).take i ++ [y] := by
  have h : y.lt x := by
    rcases y.lt_or x with h | h | h
    · exact h
    · exact absurd h hne
    · exact absurd h hl
  have hp := (pos_lt hs hy).1 h
  exact ⟨hp, take_snoc ((ins_lt hp).trans hy)⟩
theorem radd_at {x y : Att} {L : List Att} {i : Nat} (hs : Sorted L) (hy : L[i]? = some y) (hi : i ≤ pos x L) (hl : x.lt y) : pos x L = i ∧ (ins x L).take (i + 2) = ((ins x L).take i ++ [x]) ++ [y] := by
  have hp : ¬ i < pos x L := fun h => Att.lt_asymm hl ((pos_lt hs hy).2 h)
  have e : pos x L = i := by omega
  refine ⟨e, ?_⟩
  have h1 : (ins x L)[i]? = some x := by
    have := ins_at x L
    rwa [e] at this
  rw [take_snoc (i := i + 1) ((ins_gt (by omega)).trans hy), take_snoc h1]
theorem radd_gt {x y : Att} {L : List Att} {i : Nat} (hy : L[i]? = some y) (hi : pos x L < i) : (ins x L).take (i + 2) = (ins x L).take (i + 1) ++ [y] := take_snoc ((ins_gt (by omega)).trans hy)
theorem radd_end {x : Att} {L : List Att} {n : Nat} (hl : L.length = n) (hi : n ≤ pos x L) : pos x L = n ∧ (ins x L).take n ++ [x] = ins x L := by
  have := pos_le x L
  have e : pos x L = n := by omega
  refine ⟨e, ?_⟩
  have h1 : (ins x L)[n]? = some x := by
    have := ins_at x L
    rwa [e] at this
  rw [← take_snoc h1]
  exact List.take_of_length_le (by rw [ins_length, hl]; exact Nat.le_refl _)
theorem radd_all {x : Att} {L : List Att} {n k : Nat} (hl : L.length = n) (hk : n + 1 ≤ k) : (ins x L).take k = ins x L := List.take_of_length_le (by rw [ins_length, hl]; exact hk)
theorem radd_new {x : Att} {L : List Att} {n : Nat} (hl : L.length = n) (h : ∀ j, j < n → L[j]? ≠ some x) : x ∉ L := fun hm => by
  obtain ⟨j, hj, e⟩ := List.getElem_of_mem hm
  exact h j (by omega) (by rw [List.getElem?_eq_getElem hj, e])
theorem radd_full {x z : Att} {L : List Att} (hl : L.length = 200) (hx : x ∉ L) (hz : (ins x L)[200]? = some z) : z = x ↔ pos x L = 200 := by
  have hp := pos_le x L
  constructor
  · rintro rfl
    by_cases h : pos z L = 200
    · exact h
    · have h1 : (ins z L)[199 + 1]? = L[199]? := ins_gt (by omega)
      rw [hz] at h1
      exact absurd (List.mem_of_getElem? h1.symm) hx
  · intro h
    have h1 := ins_at x L
    rw [h, hz] at h1
    exact Option.some.inj h1
end Mur
namespace Mur
open Go Go.RowKit Wk
section
variable {P : Program} {w : World} {a : Act} {o : Oper}
theorem quo8_16 (t ty : TypeId) (x y : Operand) (ho : o.op = .binOp .quo t x y ty) (b : UInt8) (hx : a.eval x = .int .u8 ((b.toNat : Nat) : Int)) (hy : a.eval y = .int .u8 16) : (execOp a.eval o).run P w = .ok (.value (.int .u8 (((b >>> 4).toNat : Nat) : Int))) w := by
  have hb := b.toNat_lt
  have h0 : ((b >>> 4).toNat : Nat) = b.toNat / 16 := by
    rw [UInt8.toNat_shiftRight]
    show b.toNat >>> 4 = _
    rw [Nat.shiftRight_eq_div_pow]
  have h1 : Int.tdiv ((b.toNat : Nat) : Int) 16 = ((b.toNat / 16 : Nat) : Int) := by
    rw [Int.tdiv_eq_ediv_of_nonneg (by omega)]
    exact_mod_cast rfl
  have h2 : IntKind.u8.wrap ((b.toNat / 16 : Nat) : Int) = ((b.toNat / 16 : Nat) : Int) := by
    show ((b.toNat / 16 : Nat) : Int) % 256 = _
    omega
  have key : (binOp .quo t (.int .u8 ((b.toNat : Nat) : Int)) (.int .u8 16)).run P w = .ok (.int .u8 (IntKind.u8.wrap (Int.tdiv ((b.toNat : Nat) : Int) 16))) w := rfl
  have hg : (eqGuard .quo t x y (.int .u8 ((b.toNat : Nat) : Int)) (.int .u8 16)).run P w = .ok () w := rfl
  rw [h1, h2] at key
  unfold execOp
  simp only [ho, hx, hy]
  simp only [Sem.run_bind, Sem.run_pure, hg, Result.andThen_ok, key, h0]
theorem rem8_16 (t ty : TypeId) (x y : Operand) (ho : o.op = .binOp .rem t x y ty) (b : UInt8) (hx : a.eval x = .int .u8 ((b.toNat : Nat) : Int)) (hy : a.eval y = .int .u8 16) : (execOp a.eval o).run P w = .ok (.value (.int .u8 (((b &&& 15).toNat : Nat) : Int))) w := by
  have h0 : ((b &&& 15).toNat : Nat) = b.toNat % 16 := by
    rw [UInt8.toNat_and]
    exact Nat.and_two_pow_sub_one_eq_mod b.toNat 4
  have h1 : Int.tmod ((b.toNat : Nat) : Int) 16 = ((b.toNat % 16 : Nat) : Int) := by
    rw [Int.tmod_eq_emod_of_nonneg (by omega)]
    exact_mod_cast rfl
  have key : (binOp .rem t (.int .u8 ((b.toNat : Nat) : Int)) (.int .u8 16)).run P w = .ok (.int .u8 (Int.tmod ((b.toNat : Nat) : Int) 16)) w := rfl
  have hg : (eqGuard .rem t x y (.int .u8 ((b.toNat : Nat) : Int)) (.int .u8 16)).run P w = .ok () w := rfl
  rw [h1] at key
  unfold execOp
  simp only [ho, hx, hy]
  simp only [Sem.run_bind, Sem.run_pure, hg, Result.andThen_ok, key, h0]
theorem SlA.kcell {n : Nat} {L : List Att} {g off : Nat} (h : SlA w (some ⟨g, off, none⟩) n L) {i : Nat} {x : Att} (hx : L[i]? = some x) {j : Nat} (hj : j < 32) : w.cell? ⟨g, off + i * 97 + j * 1, none⟩ = some (.int .u8 (((x.k.getD j 0).toNat : Nat) : Int)) := by
  have h1 := h.key hx
  have hk := x.hk
  have h2 := h1 j (.int .u8 (((x.k.getD j 0).toNat : Nat) : Int)) (by
    have hj' : j < x.k.length := by omega
    simp [b8s, List.getElem?_eq_getElem hj'])
  rw [Nat.mul_one]
  exact h2
end
theorem under_run {p k : List UInt8} {n j : Nat} (hl : p.length = n) (hj : n ≤ j) {b : Bool} (h : b = true ↔ ∀ i, i < j → i < n → nib k i = p.getD i 0) : under p k = b := by
  rw [Bool.eq_iff_iff, h, under_iff]
  exact ⟨fun q i _ hi => q i (by omega), fun q i hi => q i (by omega) (by omega)⟩
end Mur
namespace Mur
end Mur
namespace Mur
open Go Go.RowKit Wk
def k63 : List UInt8 := [63, 0, 0, 0, 0, 0, 0, 0, 0, 0, 0, 0, 0, 0, 0, 0, 0, 0, 0, 0, 0, 0, 0, 0, 0, 0, 0, 0, 0, 0, 0, 0]
def kA : Att := ⟨k63, z32, z32, 1, rfl, rfl, rfl, by decide⟩
theorem kA_add : addS kA [] = ([kA], 0) := by decide +kernel
theorem fill_att2 {k : List UInt8} {n : Int} (hk : k.length = 32) : Instr.fill (fun i => #[(0, 32), (32, 32), (64, 1), (65, 32)][i]?) (attC z32 z32 0 z32).toArray [(0, .agg (b8s k).toArray), (2, .int .i64 n)] = some (attC k z32 n z32).toArray := by
  have e1 : splice (attC z32 z32 0 z32) 0 (b8s k) = attC k z32 0 z32 := splice_mid (A := []) (B := b8s z32) (C := b8s z32 ++ (.int .i64 0 :: b8s z32)) (vs := b8s k) rfl (by rw [b8s_length, b8s_length, hk]; rfl)
  have e3 : splice (attC k z32 0 z32) 64 [.int .i64 n] = attC k z32 n z32 := by
    have := splice_mid (A := b8s k ++ b8s z32) (B := [Value.int .i64 0]) (C := b8s z32) (vs := [Value.int .i64 n]) (off := 64) (by rw [List.length_append, b8s_length, b8s_length, hk]; rfl) rfl
    simpa [attC] using this
  refine fill_part (off := 0) (size := 32) rfl rfl (by rw [b8s_length, hk]) (by rw [attC_length rfl rfl rfl]; omega) ?_
  rw [e1]
  refine fill_part (off := 64) (size := 1) (vs := [.int .i64 n]) rfl rfl rfl (by rw [attC_length hk rfl rfl]; omega) ?_
  rw [e3]
  rfl
theorem sameA_step {L M : List Att} {i : Nat} {x y : Att} (h : L.take i = M.take i) (hx : L[i]? = some x) (hy : M[i]? = some y) (e : x = y) : L.take (i + 1) = M.take (i + 1) := by
  obtain ⟨h1, rfl⟩ := List.getElem?_eq_some_iff.1 hx
  obtain ⟨h2, rfl⟩ := List.getElem?_eq_some_iff.1 hy
  rw [List.take_succ_eq_append_getElem h1, List.take_succ_eq_append_getElem h2, h, e]
theorem sameA_all {L M : List Att} {i n : Nat} (h : L.take i = M.take i) (hl : L.length = n) (hm : M.length = n) (hi : n ≤ i) : L = M := by
  rw [List.take_of_length_le (by omega), List.take_of_length_le (by omega)] at h
  exact h
end Mur
namespace Go.Proofs.YtfhneademopciaaDoor
open Go.RowKit Wk
open Mur (b8s attC z32)
theorem built2 {k : List UInt8} {n : Int} (hk : k.length = 32) : Program.built Tryd.prog 32 [(0, .agg (b8s k).toArray), (2, .int .i64 n)] = some (attC k z32 n z32).toArray :=
  (show Program.built Tryd.prog 32 [(0, .agg (b8s k).toArray), (2, .int .i64 n)] = Instr.fill (fun i => #[(0, 32), (32, 32), (64, 1), (65, 32)][i]?) (attC z32 z32 0 z32).toArray [(0, .agg (b8s k).toArray), (2, .int .i64 n)] from by kernel_rfl).trans (Mur.fill_att2 hk)
end Go.Proofs.YtfhneademopciaaDoor
namespace Mur
open Go Go.RowKit Wk
def msgC (kd : UInt8) (P : Option Addr) (pn pc : Nat) (s : List UInt8) (n : Int) (A : Option Addr) (an ac : Nat) (b : Bool) : List Value := .int .u8 ((kd.toNat : Nat) : Int) :: .slice P pn pc :: (b8s s ++ [.int .i64 n, .slice A an ac, .bool b])
section
variable {kd : UInt8} {P A : Option Addr} {pn pc an ac : Nat} {s : List UInt8} {n : Int} {b : Bool}
theorem msgC_length (hs : s.length = 32) : (msgC kd P pn pc s n A an ac b).length = 37 := by simp [msgC, b8s_length, hs]
theorem msgC_size (hs : s.length = 32) : (msgC kd P pn pc s n A an ac b).toArray.size = 37 := msgC_length hs
theorem msgC_one : ∀ v ∈ msgC kd P pn pc s n A an ac b, v.oneCell' = true := by
  intro v hv
  simp only [msgC, List.mem_cons, List.mem_append, List.not_mem_nil, or_false] at hv
  rcases hv with rfl | rfl | h | rfl | rfl | rfl
  · rfl
  · rfl
  · obtain ⟨x, _, rfl⟩ := List.mem_map.1 h
    rfl
  · rfl
  · rfl
  · rfl
theorem msgC_all : (msgC kd P pn pc s n A an ac b).toArray.all (·.oneCell') = true := Array.all_eq_true_iff_forall_mem.2 fun v hv => msgC_one v (by simpa using hv)
variable {w : World} {g o : Nat}
theorem msg_kind (h : w.rangeAt g o (msgC kd P pn pc s n A an ac b)) : w.cell? ⟨g, o, none⟩ = some (.int .u8 ((kd.toNat : Nat) : Int)) := h 0 _ rfl
theorem msg_pre (h : w.rangeAt g o (msgC kd P pn pc s n A an ac b)) : w.cell? ⟨g, o + 1, none⟩ = some (.slice P pn pc) := h 1 _ rfl
theorem msg_at (hs : s.length = 32) (i : Nat) : (msgC kd P pn pc s n A an ac b)[34 + i]? = [Value.int .i64 n, .slice A an ac, .bool b][i]? := by
  unfold msgC
  rw [show 34 + i = 32 + i + 1 + 1 by omega, List.getElem?_cons_succ, List.getElem?_cons_succ, List.getElem?_append_right (by rw [b8s_length, hs]; omega), b8s_length, hs]
  congr 1
  omega
theorem msg_cnt (hs : s.length = 32) (h : w.rangeAt g o (msgC kd P pn pc s n A an ac b)) : w.cell? ⟨g, o + 34, none⟩ = some (.int .i64 n) := h 34 _ (msg_at hs 0)
theorem msg_items (hs : s.length = 32) (h : w.rangeAt g o (msgC kd P pn pc s n A an ac b)) : w.cell? ⟨g, o + 35, none⟩ = some (.slice A an ac) := h 35 _ (msg_at hs 1)
theorem msg_ans (hs : s.length = 32) (h : w.rangeAt g o (msgC kd P pn pc s n A an ac b)) : w.cell? ⟨g, o + 36, none⟩ = some (.bool b) := h 36 _ (msg_at hs 2)
theorem msg_sum (h : w.rangeAt g o (msgC kd P pn pc s n A an ac b)) : w.rangeAt g (o + 2) (b8s s) := fun j v hv => by
  have := h (2 + j) v (by
    unfold msgC
    rw [show 2 + j = j + 1 + 1 by omega, List.getElem?_cons_succ, List.getElem?_cons_succ, List.getElem?_append_left (List.getElem?_eq_some_iff.1 hv).1]
    exact hv)
  rw [← Nat.add_assoc] at this
  exact this
end
-- halves of a key's bytes, as within takes them
def shn (b : UInt8) (i : Nat) : UInt8 := if i % 2 = 0 then b >>> 4 else b
theorem nib_shn (k : List UInt8) (i : Nat) : nib k i = shn (k.getD (i / 2) 0) i &&& 15 := by
  unfold nib shn
  split
  · apply UInt8.toNat_inj.1
    rw [u8_and15, u8_shr4]
    have := (k.getD (i / 2) 0).toNat_lt
    omega
  · rfl
section
variable {P : Program} {w : World} {a : Act} {o : Oper}
theorem shr8_n (t ty : TypeId) (x y : Operand) (ho : o.op = .binOp .shr t x y ty) (b : UInt8) (i : Nat) (hx : a.eval x = .int .u8 ((b.toNat : Nat) : Int)) (hy : a.eval y = .int .i64 ((4 - 4 * (i % 2) : Nat) : Int)) : (execOp a.eval o).run P w = .ok (.value (.int .u8 (((shn b i).toNat : Nat) : Int))) w := by
  have hb' := b.toNat_lt
  have key : (binOp .shr t (.int .u8 ((b.toNat : Nat) : Int)) (.int .i64 ((4 - 4 * (i % 2) : Nat) : Int))).run P w = .ok (.int .u8 (((shn b i).toNat : Nat) : Int)) w := by
    have : (Op.shift .shr .u8 ((b.toNat : Nat) : Int) .i64 ((4 - 4 * (i % 2) : Nat) : Int)).run P w = .ok (.int .u8 (((shn b i).toNat : Nat) : Int)) w := by
      unfold Op.shift
      rw [if_neg (by omega)]
      have hb : IntKind.u8.bits = 8 := rfl
      unfold shn
      rcases Nat.mod_two_eq_zero_or_one i with e | e
      · rw [e]
        have h1 : min (((4 - 4 * 0 : Nat) : Int).toNat) IntKind.u8.bits = 4 := by rw [hb]; rfl
        have h2 : Int.fdiv ((b.toNat : Nat) : Int) (2 ^ 4) = ((b.toNat / 16 : Nat) : Int) := by
          rw [Int.fdiv_eq_ediv_of_nonneg _ (by decide)]
          exact_mod_cast rfl
        simp only [h1, h2, Sem.run_pure, if_true, u8_shr4]
      · rw [e]
        have h1 : min (((4 - 4 * 1 : Nat) : Int).toNat) IntKind.u8.bits = 0 := by rw [hb]; rfl
        have h2 : Int.fdiv ((b.toNat : Nat) : Int) (2 ^ 0) = ((b.toNat : Nat) : Int) := by simp
        simp only [h1, h2, Sem.run_pure]
        simp
    exact this
  have hg : (eqGuard .shr t x y (.int .u8 ((b.toNat : Nat) : Int)) (.int .i64 ((4 - 4 * (i % 2) : Nat) : Int))).run P w = .ok () w := rfl
  unfold execOp
  simp only [ho, hx, hy]
  simp only [Sem.run_bind, Sem.run_pure, hg, Result.andThen_ok, key]
end
-- what is built
def fieldsG : Array (Nat × Nat) := #[(0, 1), (1, 1), (2, 32), (34, 1), (35, 1), (36, 1)]
section
variable {kd : UInt8} {P A : Option Addr} {pn pc an ac : Nat} {s : List UInt8} {n : Int} {b : Bool} {R : Option (Array Value)} {rest : List (Nat × Value)}
theorem fillG0 (kd' : UInt8) (hs : s.length = 32) (h : Instr.fill (fun i => fieldsG[i]?) (msgC kd' P pn pc s n A an ac b).toArray rest = R) : Instr.fill (fun i => fieldsG[i]?) (msgC kd P pn pc s n A an ac b).toArray ((0, .int .u8 ((kd'.toNat : Nat) : Int)) :: rest) = R := by
  refine fill_part (off := 0) (size := 1) (vs := [.int .u8 ((kd'.toNat : Nat) : Int)]) rfl rfl rfl (by rw [msgC_length hs]; omega) ?_
  exact h
theorem fillG1 (P' : Option Addr) (pn' pc' : Nat) (hs : s.length = 32) (h : Instr.fill (fun i => fieldsG[i]?) (msgC kd P' pn' pc' s n A an ac b).toArray rest = R) : Instr.fill (fun i => fieldsG[i]?) (msgC kd P pn pc s n A an ac b).toArray ((1, .slice P' pn' pc') :: rest) = R := by
  refine fill_part (off := 1) (size := 1) (vs := [.slice P' pn' pc']) rfl rfl rfl (by rw [msgC_length hs]; omega) ?_
  exact h
theorem fillG2 {s' : List UInt8} (hs : s.length = 32) (hs' : s'.length = 32) (h : Instr.fill (fun i => fieldsG[i]?) (msgC kd P pn pc s' n A an ac b).toArray rest = R) : Instr.fill (fun i => fieldsG[i]?) (msgC kd P pn pc s n A an ac b).toArray ((2, .agg (b8s s').toArray) :: rest) = R := by
  refine fill_part (off := 2) (size := 32) (vs := b8s s') rfl rfl (by rw [b8s_length, hs']) (by rw [msgC_length hs]; omega) ?_
  have e : splice (msgC kd P pn pc s n A an ac b) 2 (b8s s') = msgC kd P pn pc s' n A an ac b := by
    have := splice_mid (A := [Value.int .u8 ((kd.toNat : Nat) : Int), Value.slice P pn pc]) (B := b8s s) (C := [Value.int .i64 n, Value.slice A an ac, Value.bool b]) (vs := b8s s') (off := 2) rfl (by rw [b8s_length, b8s_length, hs, hs'])
    exact this
  rw [e]
  exact h
theorem fillG3 (n' : Int) (hs : s.length = 32) (h : Instr.fill (fun i => fieldsG[i]?) (msgC kd P pn pc s n' A an ac b).toArray rest = R) : Instr.fill (fun i => fieldsG[i]?) (msgC kd P pn pc s n A an ac b).toArray ((3, .int .i64 n') :: rest) = R := by
  refine fill_part (off := 34) (size := 1) (vs := [.int .i64 n']) rfl rfl rfl (by rw [msgC_length hs]; omega) ?_
  have e : splice (msgC kd P pn pc s n A an ac b) 34 [.int .i64 n'] = msgC kd P pn pc s n' A an ac b := by
    have := splice_mid (A := [.int .u8 ((kd.toNat : Nat) : Int), .slice P pn pc] ++ b8s s) (B := [Value.int .i64 n]) (C := [.slice A an ac, .bool b]) (vs := [Value.int .i64 n']) (off := 34) (by simp [b8s_length, hs]) rfl
    simpa [msgC] using this
  rw [e]
  exact h
theorem fillG4 (A' : Option Addr) (an' ac' : Nat) (hs : s.length = 32) (h : Instr.fill (fun i => fieldsG[i]?) (msgC kd P pn pc s n A' an' ac' b).toArray rest = R) : Instr.fill (fun i => fieldsG[i]?) (msgC kd P pn pc s n A an ac b).toArray ((4, .slice A' an' ac') :: rest) = R := by
  refine fill_part (off := 35) (size := 1) (vs := [.slice A' an' ac']) rfl rfl rfl (by rw [msgC_length hs]; omega) ?_
  have e : splice (msgC kd P pn pc s n A an ac b) 35 [.slice A' an' ac'] = msgC kd P pn pc s n A' an' ac' b := by
    have := splice_mid (A := [.int .u8 ((kd.toNat : Nat) : Int), .slice P pn pc] ++ (b8s s ++ [Value.int .i64 n])) (B := [Value.slice A an ac]) (C := [.bool b]) (vs := [Value.slice A' an' ac']) (off := 35) (by simp [b8s_length, hs]) rfl
    simpa [msgC] using this
  rw [e]
  exact h
theorem fillG5 (b' : Bool) (hs : s.length = 32) (h : Instr.fill (fun i => fieldsG[i]?) (msgC kd P pn pc s n A an ac b').toArray rest = R) : Instr.fill (fun i => fieldsG[i]?) (msgC kd P pn pc s n A an ac b).toArray ((5, .bool b') :: rest) = R := by
  refine fill_part (off := 36) (size := 1) (vs := [.bool b']) rfl rfl rfl (by rw [msgC_length hs]; omega) ?_
  have e : splice (msgC kd P pn pc s n A an ac b) 36 [.bool b'] = msgC kd P pn pc s n A an ac b' := by
    have := splice_mid (A := [.int .u8 ((kd.toNat : Nat) : Int), .slice P pn pc] ++ (b8s s ++ [Value.int .i64 n, .slice A an ac])) (B := [Value.bool b]) (C := []) (vs := [Value.bool b']) (off := 36) (by simp [b8s_length, hs]) rfl
    simpa [msgC] using this
  rw [e]
  exact h
end
theorem own8_low {w : World} {base base' e n c : Nat} {A : Option Addr} {l : List UInt8} (h : Own8 w base e A n c l) (hb : base' ≤ base) : Own8 w base' e A n c l := own8 (own_le h.own hb)
def msgZ : List Value := msgC 0 none 0 0 z32 0 none 0 0 false
end Mur
namespace Go.Proofs.YtfhneademopciaaDoor
open Go.RowKit Wk
open Mur (b8s msgC z32)
theorem built_msg (l : List (Nat × Value)) {R : Option (Array Value)} (h : Instr.fill (fun i => Mur.fieldsG[i]?) Mur.msgZ.toArray l = R) (e : Program.built Tryd.prog 66 l = Instr.fill (fun i => Mur.fieldsG[i]?) Mur.msgZ.toArray l) : Program.built Tryd.prog 66 l = R := e.trans h
theorem built_summary {s : List UInt8} (hs : s.length = 32) (P : Option Addr) (pn pc : Nat) (n : Int) : Program.built Tryd.prog 66 [(0, .int .u8 1), (1, .slice P pn pc), (2, .agg (b8s s).toArray), (3, .int .i64 n)] = some (msgC 1 P pn pc s n none 0 0 false).toArray :=
  built_msg _ (Mur.fillG0 1 rfl (Mur.fillG1 P pn pc rfl (Mur.fillG2 rfl hs (Mur.fillG3 n hs rfl)))) (by kernel_rfl)
theorem built_empty (P : Option Addr) (pn pc : Nat) : Program.built Tryd.prog 66 [(0, .int .u8 2), (1, .slice P pn pc)] = some (msgC 2 P pn pc z32 0 none 0 0 false).toArray :=
  built_msg _ (Mur.fillG0 2 rfl (Mur.fillG1 P pn pc rfl rfl)) (by kernel_rfl)
theorem built_items (P : Option Addr) (pn pc : Nat) (A : Option Addr) (an ac : Nat) (b : Bool) : Program.built Tryd.prog 66 [(0, .int .u8 2), (1, .slice P pn pc), (4, .slice A an ac), (5, .bool b)] = some (msgC 2 P pn pc z32 0 A an ac b).toArray :=
  built_msg _ (Mur.fillG0 2 rfl (Mur.fillG1 P pn pc rfl (Mur.fillG4 A an ac rfl (Mur.fillG5 b rfl rfl)))) (by kernel_rfl)
end Go.Proofs.YtfhneademopciaaDoor
namespace Mur
open Go Go.RowKit Go.WideShapes Go.ChangeShapes
section
variable {H : Type} {enc : TypeId × Value → H} {P : Program} {W : World}
end
end Mur
namespace Go.Proofs.YtfhneademopciaaDoor
open Go.RowKit Go.WideShapes Go.ChangeShapes
open Mur (All2 Leaf Att SlA rowA attC b8s msgC)
set_option maxRecDepth 100000
section
variable {H : Type} {enc : TypeId × Value → H} {W : World}
end
end Go.Proofs.YtfhneademopciaaDoor
namespace Mur
open Go Go.RowKit Wk
def flatR (R : List (List Value)) : List Value := R.flatten
def Sized (sz : Nat) (R : List (List Value)) : Prop := ∀ r, r ∈ R → r.length = sz ∧ ∀ v, v ∈ r → v.oneCell' = true
theorem flatR_len {sz : Nat} : ∀ {R : List (List Value)}, Sized sz R → (flatR R).length = R.length * sz
  | [], _ => by simp [flatR]
  | r :: R, h => by
    have h1 := (h r (by simp)).1
    have h2 := flatR_len (R := R) (sz := sz) fun q hq => h q (List.mem_cons_of_mem _ hq)
    show (r ++ flatR R).length = _
    rw [List.length_append, h1, h2, List.length_cons, Nat.add_mul]
    omega
theorem flatR_one {sz : Nat} {R : List (List Value)} (h : Sized sz R) : ∀ v, v ∈ flatR R → v.oneCell' = true := fun v hv => by
  obtain ⟨r, hr, hv⟩ := List.mem_flatten.1 hv
  exact (h r hr).2 v hv
theorem flatR_drop {sz : Nat} : ∀ {R : List (List Value)} (_ : Sized sz R) (i : Nat), flatR (R.drop i) = (flatR R).drop (i * sz)
  | _, _, 0 => by simp
  | [], _, i + 1 => by simp [flatR]
  | r :: R, h, i + 1 => by
    have h1 := (h r (by simp)).1
    rw [List.drop_succ_cons, flatR_drop (fun q hq => h q (List.mem_cons_of_mem _ hq)) i]
    show _ = (r ++ flatR R).drop _
    rw [Nat.add_mul, Nat.one_mul, Nat.add_comm, ← List.drop_drop, List.drop_left' h1]
theorem flatR_take {sz : Nat} : ∀ {R : List (List Value)} (_ : Sized sz R) (i : Nat), flatR (R.take i) = (flatR R).take (i * sz)
  | _, _, 0 => by simp [flatR]
  | [], _, i + 1 => by simp [flatR]
  | r :: R, h, i + 1 => by
    have h1 := (h r (by simp)).1
    rw [List.take_succ_cons]
    show r ++ flatR (R.take i) = (r ++ flatR R).take _
    rw [flatR_take (fun q hq => h q (List.mem_cons_of_mem _ hq)) i, List.take_append, h1, List.take_of_length_le (show r.length ≤ (i + 1) * sz by rw [h1, Nat.add_mul]; omega)]
    congr 2
    rw [Nat.add_mul]
    omega
theorem flatR_append (R T : List (List Value)) : flatR (R ++ T) = flatR R ++ flatR T := by simp [flatR]
structure SlR (w : World) (sz : Nat) (A : Option Addr) (n : Nat) (R : List (List Value)) : Prop where
  len : R.length = n
  szd : Sized sz R
  sl : Sl w A n sz (flatR R)
structure OwnR (w : World) (base e sz : Nat) (A : Option Addr) (n c : Nat) (R : List (List Value)) : Prop where
  own : w.ownsRow base e sz (.slice A n c) n (flatR R)
  szd : Sized sz R
  len : R.length = n
  nc : n ≤ c
  cm : c ≤ maxLen
  nil : A = none → c = 0
  sl : Sl w A n sz (flatR R)
  at_ : ∀ g off, A = some ⟨g, off, none⟩ → base ≤ g ∧ g < w.heap.size
  lt : ∀ k, (Value.slice A n c).ownBlock = some k → base ≤ k ∧ k < w.heap.size
section
variable {w w' : World} {base e sz n c : Nat} {A : Option Addr} {R T : List (List Value)}
theorem ownR (h : w.ownsRow base e sz (.slice A n c) n (flatR R)) (hs : Sized sz R) (hp : 0 < sz) : OwnR w base e sz A n c R := by
  obtain ⟨A2, c2, e3, h1, h2, h4, h5, h6⟩ := own_sl h
  injection e3 with e3 _ e4
  subst e3 e4
  have hl : R.length = n := by
    have := h.1
    rw [flatR_len hs] at this
    exact Nat.eq_of_mul_eq_mul_right hp this
  exact ⟨h, hs, hl, h1, h2, h4, h5, h6, World.ownsRow.lt h⟩
theorem OwnR.slR (h : OwnR w base e sz A n c R) : SlR w sz A n R := ⟨h.len, h.szd, h.sl⟩
theorem ownR_nil (w : World) (base e : Nat) (hp : 0 < sz) : OwnR w base e sz none 0 0 [] := ownR ⟨by simp [flatR], .inl ⟨rfl, rfl⟩⟩ (fun r hr => by cases hr) hp
theorem ownR_empty {g : Nat} (h : w.heap[g]? = some (.cells #[] e (0, 0))) (hb : base ≤ g) (hp : 0 < sz) : OwnR w base e sz (some ⟨g, 0, none⟩) 0 0 [] :=
  ownR ⟨by simp [flatR], .inr ⟨g, 0, #[], rfl, hb, h, Nat.le_refl _, by unfold maxLen; omega, by simp, by simp [flatR]⟩⟩ (fun r hr => by cases hr) hp
theorem OwnR.chg {S : List Nat} (h : OwnR w base e sz A n c R) (hp : 0 < sz) (ch : Chg S w w') (ho : ∀ g, (Value.slice A n c).ownBlock = some g → base ≤ g → g < w.heap.size → Off g S) : OwnR w' base e sz A n c R := ownR (own_chg h.own ch ho) h.szd hp
theorem SlR.chg {S : List Nat} (h : SlR w sz A n R) (ch : Chg S w w') (ho : ∀ g off, A = some ⟨g, off, none⟩ → g < w.heap.size → Off g S) : SlR w' sz A n R := ⟨h.len, h.szd, h.sl.chg ch ho⟩
theorem SlR.row (h : SlR w sz A n R) {i : Nat} {r : List Value} (hr : R[i]? = some r) (hp : 0 < sz) : ∃ g off, A = some ⟨g, off, none⟩ ∧ w.rangeAt g (off + i * sz) r := by
  obtain ⟨hi, rfl⟩ := List.getElem?_eq_some_iff.1 hr
  have h1 := (h.szd R[i] (List.getElem_mem _)).1
  obtain ⟨g, off, e, hg⟩ := h.sl.2 (fun e => by
    have := congrArg List.length e
    rw [flatR_len h.szd, List.length_nil] at this
    have h3 : 0 < R.length * sz := Nat.mul_pos (by omega) hp
    omega)
  refine ⟨g, off, e, fun j v hv => ?_⟩
  have hj := (List.getElem?_eq_some_iff.1 hv).1
  have key : (flatR R)[i * sz + j]? = some v := by
    rw [← List.getElem?_drop, ← flatR_drop h.szd, List.drop_eq_getElem_cons hi]
    show (R[i] ++ flatR (R.drop (i + 1)))[j]? = _
    rw [List.getElem?_append_left hj]
    exact hv
  have := hg (i * sz + j) v key
  rwa [← Nat.add_assoc] at this
theorem slR_box {g : Nat} {t : TypeId} {fr : Nat × Nat} {r : List Value} (hr : r.length = sz) (h1 : ∀ v, v ∈ r → v.oneCell' = true) (h : w.heap[g]? = some (.cells r.toArray t fr)) : SlR w sz (some ⟨g, 0, none⟩) 1 [r] :=
  ⟨rfl, fun q hq => by rw [List.mem_singleton.1 hq]; exact ⟨hr, h1⟩, by simp [flatR, hr], fun _ => ⟨g, 0, rfl, by simpa [flatR] using range_row h⟩⟩
end
section
variable {P : Program} {w : World} {a : Act} {o : Oper}
theorem appendR (s x : Operand) (t e : TypeId) (ho : o.op = .call { callee := .builtin .append, args := #[s, x], argTypes := #[t, t] }) (ht : P.underlying t = some (.slice e)) (z : Value) (sz bytes : Nat) (hinfo : (P.info? e).map (fun i => (i.zero, i.size, i.bytes)) = some (some z, sz, bytes)) (hz : z.cells.size = sz) (hp : 0 < sz) (hby : bytes ≤ 1000)
    (base : Nat) (A0 : Option Addr) (n c0 : Nat) (xs : List (List Value)) (A : Option Addr) (m c : Nat) (ys : List (List Value)) (hs : a.eval s = .slice A0 n c0) (hx : a.eval x = .slice A m c) (HO : OwnR w base e sz A0 n c0 xs) (HR : SlR w sz A m ys) (hA : A = none → c = 0)
    (hbase : base ≤ w.heap.size) (hl : n + m ≤ 1000000) (k : Nat) (hk : n + m = k) :
    ∃ v1 w1, (execOp a.eval o).run P w = .ok (.value v1) w1 ∧ ∃ A1 c1, v1 = .slice A1 k c1 ∧ OwnR w1 base e sz A1 k c1 (xs ++ ys) ∧ Chg (blk (.slice A0 n c0)) w w1 ∧ (∀ q, (Value.slice A1 k c1).ownBlock = some q → (Value.slice A0 n c0).ownBlock = some q ∨ q = w.heap.size) := by
  subst hk
  have hb : (n + m) * bytes ≤ 1000000 * 1000 := Nat.mul_le_mul hl hby
  obtain ⟨v1, w1, h1, h2, h3, h4⟩ := append_run (P := P) s x t e ho ht z sz bytes hinfo hz hp base (.slice A0 n c0) n (flatR xs) A m c (flatR ys) hs hx HO.own HR.sl hA (flatR_one HR.szd) hbase (by unfold maxLen; omega) (by omega)
  rw [← flatR_append] at h2
  obtain ⟨A1, c1, rfl, _⟩ := own_sl h2
  refine ⟨_, w1, h1, A1, c1, rfl, ownR h2 (fun r hr => (List.mem_append.1 hr).elim (HO.szd r) (HR.szd r)) hp, h3, fun q hq => ?_⟩
  rcases h4 with h4 | h4
  · exact .inl (h4 ▸ hq)
  · rw [h4] at hq
    exact .inr (Option.some.inj hq).symm
theorem buildR1 (t e : TypeId) (x : Operand) (ho : o.op = .buildSlice t 1 #[(0, x)]) (ht : P.underlying t = some (.slice e)) (z : List Value) (sz bytes : Nat) (hinfo : (P.info? e).map (fun i => (i.zero, i.size, i.bytes)) = some (some (.agg z.toArray), sz, bytes)) (hzl : z.length = sz) (hp : 0 < sz) (h1000 : sz ≤ 1000)
    (r : List Value) (hr : r.length = sz) (hx : a.eval x = .agg r.toArray) :
    ∃ v w1, (execOp a.eval o).run P w = .ok (.value v) w1 ∧ v = .slice (some ⟨w.heap.size, 0, none⟩) 1 1 ∧ w1.heap[w.heap.size]? = some (.cells r.toArray e (0, 0)) ∧ Chg [] w w1 ∧ w.heap.size < w1.heap.size := by
  obtain ⟨i0, hi, hzz⟩ := Option.map_eq_some_iff.1 hinfo
  simp only [Prod.mk.injEq] at hzz
  obtain ⟨hz0, hz1, hz2⟩ := hzz
  have hfill : ∀ Z : Array Value, Z.size = sz → Instr.fill (fun i => some (i * sz, sz)) Z [(0, .agg r.toArray)] = some r.toArray := by
    intro Z hZ
    have := fill_part (place := fun i => some (i * sz, sz)) (L := Z.toList) (vs := r) (v := .agg r.toArray) (i := 0) (off := 0) (size := sz) (rest := []) (R := some r.toArray) (by simp) rfl hr (by rw [Array.length_toList, hZ]; omega) (by
      have e : splice Z.toList 0 r = r := by
        unfold splice
        rw [hr, List.drop_of_length_le (by rw [Array.length_toList, hZ]; omega)]
        simp
      rw [e]
      rfl)
    simpa using this
  have hrun : (Instr.buildSlice t 1 [(0, Value.agg r.toArray)].toArray).run P w = .ok (.slice (some ⟨w.heap.size, 0, none⟩) 1 1) (w.alloc (.cells r.toArray e)) := by
    have hs : (Value.agg z.toArray).cells.size = sz := by simpa [Value.cells] using hzl
    have hf := hfill ((Array.range (1 * sz)).map ((Value.agg z.toArray).cells[· % sz]!)) (by rw [Array.size_map, Array.size_range, Nat.one_mul])
    unfold Instr.buildSlice
    simp [run_underlying ht, Go.sizeOf, typeInfo, zeroValue, hi, hz0, hz1, hs]
    simp at hf
    rw [hf, if_neg (by omega), if_neg (by omega)]
    rfl
  refine ⟨_, _, ?_, rfl, heap_alloc_new w _, Chg.alloc w _, by simp⟩
  unfold execOp
  simp only [ho, List.map_toArray, List.map_cons, List.map_nil, hx]
  simp only [Sem.run_bind, hrun, Result.andThen_ok, Sem.run_pure]
end
end Mur
namespace Mur
open Go Go.RowKit Wk
theorem mayM_iff {kd : UInt8} {p s : List UInt8} {n : Int} {l : List Att} {b : Bool} : mayM ⟨kd, p, s, n, l, b⟩ ↔ isPre p = true ∧ 0 ≤ n ∧ n ≤ 200 ∧ l.length ≤ 8 ∧ ((kd = 1 ∧ l = [] ∧ b = false) ∨ (kd = 2 ∧ (∀ x, x ∈ l → may x.n ∧ under p x.k = true) ∧ Sorted l ∧ s = z32 ∧ n = 0)) := Iff.rfl
theorem sorted_one {I : List Att} {x : Att} (hx : I[0]? = some x) : Sorted (I.take 1) := by
  obtain ⟨h, rfl⟩ := List.getElem?_eq_some_iff.1 hx
  rw [List.take_succ_eq_append_getElem h]
  exact List.pairwise_singleton _ _
theorem sorted_more {I : List Att} {i : Nat} {x z : Att} (hs : Sorted (I.take i)) (hx : I[i]? = some x) (hz : I[i - 1]? = some z) (hi : 0 < i) (h : z.lt x) : Sorted (I.take (i + 1)) := by
  obtain ⟨h1, rfl⟩ := List.getElem?_eq_some_iff.1 hx
  rw [List.take_succ_eq_append_getElem h1]
  refine List.pairwise_append.2 ⟨hs, List.pairwise_singleton _ _, fun a ha b hb => ?_⟩
  rw [List.mem_singleton.1 hb]
  obtain ⟨j, hj, rfl⟩ := List.getElem_of_mem ha
  rw [List.length_take] at hj
  have hzt : (I.take i)[i - 1]? = some z := by rw [List.getElem?_take, if_pos (by omega)]; exact hz
  rcases Nat.lt_or_ge j (i - 1) with h2 | h2
  · exact Att.lt_trans (hs.lt (List.getElem?_eq_getElem (by rw [List.length_take]; omega)) hzt h2) h
  · obtain rfl : j = i - 1 := by omega
    rw [List.getElem?_eq_getElem (by rw [List.length_take]; omega)] at hzt
    rw [Option.some.inj hzt]
    exact h
theorem not_sorted {I : List Att} {i : Nat} {x z : Att} (hx : I[i]? = some x) (hz : I[i - 1]? = some z) (hi : 0 < i) (h : ¬ z.lt x) : ¬ Sorted I := fun hs => h (hs.lt hz hx (by omega))
structure Raw where
  kd : UInt8
  P : Option Addr
  pn : Nat
  pc : Nat
  s : List UInt8
  n : Int
  A : Option Addr
  an : Nat
  ac : Nat
  b : Bool
  hs : s.length = 32
def Raw.C (r : Raw) : List Value := msgC r.kd r.P r.pn r.pc r.s r.n r.A r.an r.ac r.b
def Raw.subs (r : Raw) : List Nat := pblk r.P r.pn ++ pblk r.A r.an
theorem raw_sized (R : List Raw) : Sized 37 (R.map Raw.C) := fun c hc => by
  obtain ⟨r, _, rfl⟩ := List.mem_map.1 hc
  exact ⟨msgC_length r.hs, msgC_one⟩
structure RawOk (w : World) (r : Raw) (m : Msg) : Prop where
  kd : r.kd = m.kind
  s : r.s = m.sum
  n : r.n = m.cnt
  b : r.b = m.ans
  byt : Byt w r.P r.pn m.pre
  sl : SlA w r.A r.an m.items
  nilP : r.P = none → r.pc = 0
  nilA : r.A = none → r.ac = 0
  anc : r.an ≤ r.ac ∧ r.ac ≤ 9223372036854775807
  pnc : r.pn ≤ r.pc ∧ r.pc ≤ 9223372036854775807
theorem RawOk.keep {w w' : World} {r : Raw} {m : Msg} {F : List Nat} (h : RawOk w r m) (k : Keep F w w') (hF : ∀ q, q ∈ r.subs → q ∈ F) : RawOk w' r m :=
  ⟨h.kd, h.s, h.n, h.b, byt_keep h.byt k fun q hq => hF q (List.mem_append_left _ hq), h.sl.keep k fun g _ e hn => hF g (List.mem_append_right _ (pblk_mem e hn)), h.nilP, h.nilA, h.anc, h.pnc⟩
theorem RawOk.subs_lt {w : World} {r : Raw} {m : Msg} (h : RawOk w r m) : ∀ q, q ∈ r.subs → q < w.heap.size := fun q hq => by
  rcases List.mem_append.1 hq with hq | hq
  · exact pblk_lt h.byt q hq
  · unfold pblk at hq
    by_cases hn : r.an = 0
    · rw [if_pos hn] at hq
      cases hq
    · rw [if_neg hn] at hq
      obtain ⟨g, off, e, _⟩ := h.sl.ex (by omega)
      rw [e] at hq
      simp at hq
      subst hq
      have := h.sl
      rw [e] at this
      exact this.lt (by omega)
def subsL (R : List Raw) : List Nat := R.flatMap Raw.subs
def RawsOk (w : World) : List Raw → List Msg → Prop
  | [], [] => True
  | r :: R, m :: M => RawOk w r m ∧ RawsOk w R M
  | _, _ => False
theorem RawsOk.keep {w w' : World} {F : List Nat} (k : Keep F w w') : ∀ {R : List Raw} {M : List Msg}, RawsOk w R M → (∀ q, q ∈ subsL R → q ∈ F) → RawsOk w' R M
  | [], [], _, _ => trivial
  | [], _ :: _, h, _ => h.elim
  | _ :: _, [], h, _ => h.elim
  | r :: R, m :: M, h, hF => ⟨h.1.keep k fun q hq => hF q (by simp only [subsL, List.flatMap_cons, List.mem_append]; exact .inl hq), RawsOk.keep k h.2 fun q hq => hF q (by simp only [subsL, List.flatMap_cons, List.mem_append]; exact .inr hq)⟩
theorem RawsOk.snoc {w : World} {r : Raw} {m : Msg} (hr : RawOk w r m) : ∀ {R : List Raw} {M : List Msg}, RawsOk w R M → RawsOk w (R ++ [r]) (M ++ [m])
  | [], [], _ => ⟨hr, trivial⟩
  | [], _ :: _, h => h.elim
  | _ :: _, [], h => h.elim
  | _ :: _, _ :: _, h => ⟨h.1, RawsOk.snoc hr h.2⟩
theorem RawsOk.length {w : World} : ∀ {R : List Raw} {M : List Msg}, RawsOk w R M → R.length = M.length
  | [], [], _ => rfl
  | [], _ :: _, h => h.elim
  | _ :: _, [], h => h.elim
  | _ :: _, _ :: _, h => by rw [List.length_cons, List.length_cons, RawsOk.length h.2]
theorem RawsOk.at {w : World} : ∀ {R : List Raw} {M : List Msg} {i : Nat} {r : Raw}, RawsOk w R M → R[i]? = some r → ∃ m, M[i]? = some m ∧ RawOk w r m
  | [], [], i, r, _, hr => by simp at hr
  | [], _ :: _, _, _, h, _ => h.elim
  | _ :: _, [], _, _, h, _ => h.elim
  | r0 :: _, m0 :: _, 0, r, h, hr => by
    simp at hr
    subst hr
    exact ⟨m0, by simp, h.1⟩
  | _ :: _, _ :: _, i + 1, r, h, hr => by
    obtain ⟨m, h1, h2⟩ := RawsOk.at h.2 (i := i) (r := r) (by simpa using hr)
    exact ⟨m, by simpa using h1, h2⟩
end Mur
namespace Mur
open Go Go.RowKit Wk
section
variable {P : Program} {w : World} {a : Act} {o : Oper}
theorem run_cutK (t : TypeId) (x y z u : Operand) (ho : o.op = .slice t x (some y) (some z) (some u)) (e : TypeId) (ht : P.underlying t = some (.slice e)) (sz : Nat) (hsz : (P.info? e).map (·.size) = some sz) (g off n c l h : Nat)
    (hx : a.eval x = .slice (some ⟨g, off, none⟩) n c) (hy : a.eval y = .int .i64 ((l : Nat) : Int)) (hz : a.eval z = .int .i64 ((h : Nat) : Int)) (hu : a.eval u = .int .i64 ((h : Nat) : Int)) (hl : l < h) (hh : h ≤ c) (m : Nat) (hm : h - l = m) :
    (execOp a.eval o).run P w = .ok (.value (.slice (some ⟨g, off + l * sz, none⟩) m m)) w := by
  subst hm
  obtain ⟨i, hi, hs⟩ := Option.map_eq_some_iff.1 hsz
  have key : (Instr.sliceAt t (.slice (some ⟨g, off, none⟩) n c) (some (.int .i64 (l : Int))) (some (.int .i64 (h : Int))) (some (.int .i64 (h : Int)))).run P w = .ok (.slice (some ⟨g, off + l * sz, none⟩) (h - l) (h - l)) w := by
    simp [Instr.sliceAt, Instr.slice, run_underlying ht, Instr.sliceBounds, Go.sizeOf, typeInfo, hi, hs, run_sliceBound w .i64 (h : Int) c _ (by omega) (by omega), run_sliceBound w .i64 (h : Int) h _ (by omega) (by omega), run_sliceBound w .i64 (l : Int) h _ (by omega) (by omega), Addr.add_mid]
    omega
  unfold execOp
  simp only [ho, hx, hy, hz, hu, Option.map_some, Sem.run_bind, key, Result.andThen_ok, Sem.run_pure]
end
def encC (q off n i : Nat) : Array Value := #[.slice (some ⟨q, off + 8 * i * 97, none⟩) (min 8 (n - 8 * i)) (min 8 (n - 8 * i))]
theorem range_split {k N : Nat} (h : k < N) : List.range N = List.range k ++ k :: List.range' (k + 1) (N - k - 1) := by
  rw [List.range_eq_range', List.range_eq_range', show N = k + (1 + (N - k - 1)) by omega, ← List.range'_append_1, ← List.range'_append_1]
  simp
end Mur
namespace Mur
open Go Go.RowKit Wk
theorem SlA.chunk {w : World} {q off n : Nat} {L : List Att} (h : SlA w (some ⟨q, off, none⟩) n L) (i : Nat) : SlA w (some ⟨q, off + 8 * i * 97, none⟩) (min 8 (n - 8 * i)) ((L.drop (8 * i)).take 8) := by
  have hl := h.len
  have hlen : ((L.drop (8 * i)).take 8).length = min 8 (n - 8 * i) := by rw [List.length_take, List.length_drop, hl]
  refine ⟨hlen, by rw [rowA_len, hlen], fun _ => ⟨q, _, rfl, ?_⟩⟩
  refine range_cut h.rng (8 * i * 97) (rowA ((L.drop (8 * i)).take 8)) ?_
  rw [← rowA_drop, rowA_len, ← rowA_take, List.length_take]
  congr 1
  rcases Nat.le_total 8 (L.drop (8 * i)).length with h1 | h1
  · rw [Nat.min_eq_left h1]
  · rw [Nat.min_eq_right h1, List.take_length, List.take_of_length_le h1]
end Mur
namespace Go.Proofs.YtfhneademopciaaDoor
open Go.RowKit Wk
theorem msgI : (Tryd.prog.info? 66).map (fun i => (i.zero, i.size, i.bytes)) = some (some (.agg Mur.msgZ.toArray), 37, 104) := by kernel_rfl
end Go.Proofs.YtfhneademopciaaDoor
namespace Mur
open Go Go.RowKit Wk
theorem RawOk.cells {w : World} {r : Raw} {m : Msg} (h : RawOk w r m) : ∀ q, q ∈ r.subs → ∃ o : Obj, w.heap[q]? = some o ∧ o.isCells = true := fun q hq => by
  rcases List.mem_append.1 hq with hq | hq
  · unfold pblk at hq
    by_cases hn : r.pn = 0
    · rw [if_pos hn] at hq
      cases hq
    · rw [if_neg hn] at hq
      obtain ⟨g, off, e, hc⟩ := h.byt.2 (by omega)
      rw [e] at hq
      simp at hq
      subst hq
      exact cell_isCells (hc 0 (by omega))
  · unfold pblk at hq
    by_cases hn : r.an = 0
    · rw [if_pos hn] at hq
      cases hq
    · rw [if_neg hn] at hq
      obtain ⟨g, off, e, hc⟩ := h.sl.ex (by omega)
      rw [e] at hq
      simp at hq
      subst hq
      have hl := h.sl.len
      have hr := rowA_len m.items
      exact cell_isCells (hc 0 _ (List.getElem?_eq_getElem (by omega)))
theorem RawsOk.cells {w : World} : ∀ {R : List Raw} {M : List Msg}, RawsOk w R M → ∀ q, q ∈ subsL R → ∃ o : Obj, w.heap[q]? = some o ∧ o.isCells = true
  | [], [], _, q, hq => by simp [subsL] at hq
  | [], _ :: _, h, _, _ => h.elim
  | _ :: _, [], h, _, _ => h.elim
  | r :: R, m :: M, h, q, hq => by
    simp only [subsL, List.flatMap_cons, List.mem_append] at hq
    rcases hq with hq | hq
    · exact h.1.cells q hq
    · exact RawsOk.cells h.2 q hq
theorem RawsOk.lt {w : World} {R : List Raw} {M : List Msg} (h : RawsOk w R M) : ∀ q, q ∈ subsL R → q < w.heap.size := fun q hq => by
  obtain ⟨o, ho, _⟩ := h.cells q hq
  exact (Array.getElem?_eq_some_iff.1 ho).1
theorem RawsOk.chg {w w' : World} {R : List Raw} {M : List Msg} {T : List Nat} (h : RawsOk w R M) (c : Chg T w w') (ho : ∀ q, q ∈ subsL R → Off q T) : RawsOk w' R M :=
  RawsOk.keep (Keep.of c (fun q hq => h.lt q hq) ho) h fun _ hq => hq
theorem OwnR.cells {w : World} {base e sz n c : Nat} {A : Option Addr} {R : List (List Value)} (h : OwnR w base e sz A n c R) : ∀ q, (Value.slice A n c).ownBlock = some q → ∃ o : Obj, w.heap[q]? = some o ∧ o.isCells = true := fun q hq => by
  rcases h.own.2 with ⟨e0, _⟩ | ⟨g', cap, cur, e0, _, hg, _⟩
  · injection e0 with e1
    subst e1
    cases hq
  · injection e0 with e1
    subst e1
    obtain rfl : g' = q := by simpa [Value.ownBlock] using hq
    exact ⟨_, hg, rfl⟩
def chunkM (p : List UInt8) (L : List Att) (b : Bool) (i : Nat) : Msg := ⟨2, p, z32, 0, (L.drop (8 * i)).take 8, b⟩
theorem chunkM_all (p : List UInt8) (L : List Att) (b : Bool) : (List.range ((L.length + 7) / 8)).map (chunkM p L b) = itemsM p L b := by
  unfold itemsM chunks
  rw [List.map_map]
  rfl
theorem subsL_append (R T : List Raw) : subsL (R ++ T) = subsL R ++ subsL T := by simp [subsL]
theorem subsL_one (r : Raw) : subsL [r] = r.subs := by simp [subsL]
end Mur
namespace Mur
open Go Go.RowKit Wk
def MsgA (w : World) (base e : Nat) (A : Option Addr) (n c : Nat) (M : List Msg) : Prop :=
  ∃ R : List Raw, OwnR w base e 37 A n c (R.map Raw.C) ∧ RawsOk w R M ∧ ∀ q, q ∈ subsL R → base ≤ q ∧ (Value.slice A n c).ownBlock ≠ some q
section
variable {w w' : World} {base base' e n c : Nat} {A : Option Addr} {M : List Msg}
theorem msgA_nil (w : World) (base e : Nat) : MsgA w base e none 0 0 [] := ⟨[], ownR_nil _ _ _ (by decide), trivial, fun q hq => by simp [subsL] at hq⟩
theorem MsgA.len (h : MsgA w base e A n c M) : M.length = n := by
  obtain ⟨R, h1, h2, _⟩ := h
  rw [← h2.length, ← h1.len, List.length_map]
theorem MsgA.nc (h : MsgA w base e A n c M) : n ≤ c := let ⟨_, h1, _⟩ := h; h1.nc
theorem MsgA.cm (h : MsgA w base e A n c M) : c ≤ maxLen := let ⟨_, h1, _⟩ := h; h1.cm
theorem MsgA.nil (h : MsgA w base e A n c M) : A = none → c = 0 := let ⟨_, h1, _⟩ := h; h1.nil
theorem MsgA.at_ (h : MsgA w base e A n c M) : ∀ g off, A = some ⟨g, off, none⟩ → base ≤ g ∧ g < w.heap.size := let ⟨_, h1, _⟩ := h; h1.at_
theorem MsgA.lt (h : MsgA w base e A n c M) : ∀ k, (Value.slice A n c).ownBlock = some k → base ≤ k ∧ k < w.heap.size := let ⟨_, h1, _⟩ := h; h1.lt
theorem MsgA.cells (h : MsgA w base e A n c M) {k : Nat} (hk : (Value.slice A n c).ownBlock = some k) : ∃ o : Obj, w.heap[k]? = some o ∧ o.isCells = true := let ⟨_, h1, _⟩ := h; h1.cells k hk
theorem MsgA.chg {T : List Nat} (h : MsgA w base e A n c M) (ch : Chg T w w') (ho : ∀ q, base ≤ q → q < w.heap.size → (∃ o : Obj, w.heap[q]? = some o ∧ o.isCells = true) → Off q T) : MsgA w' base e A n c M := by
  obtain ⟨R, h1, h2, h3⟩ := h
  exact ⟨R, h1.chg (by decide) ch fun g hg hb hl => ho g hb hl (h1.cells g hg), h2.chg ch fun q hq => ho q (h3 q hq).1 (h2.lt q hq) (h2.cells q hq), h3⟩
theorem MsgA.low (h : MsgA w base e A n c M) (hb : base' ≤ base) : MsgA w base' e A n c M := by
  obtain ⟨R, h1, h2, h3⟩ := h
  exact ⟨R, ownR (own_le h1.own hb) h1.szd (by decide), h2, fun q hq => ⟨Nat.le_trans hb (h3 q hq).1, (h3 q hq).2⟩⟩
theorem pblk_own {q : Nat} (h : q ∈ pblk A n) : 0 < n ∧ ∃ a, A = some a ∧ a.block = q := by
  unfold pblk at h
  by_cases hn : n = 0
  · rw [if_pos hn] at h
    cases h
  · rw [if_neg hn] at h
    rcases A with _ | a
    · cases h
    · exact ⟨by omega, a, rfl, (List.mem_singleton.1 h).symm⟩
theorem MsgA.row (h : MsgA w base e A n c M) {i : Nat} {m : Msg} (hm : M[i]? = some m) : ∃ r g off, A = some ⟨g, off, none⟩ ∧ w.rangeAt g (off + i * 37) r.C ∧ RawOk w r m ∧ (base ≤ g ∧ g < w.heap.size) ∧ ∀ q, q ∈ r.subs → base ≤ q ∧ q < w.heap.size := by
  obtain ⟨R, h1, h2, h3⟩ := h
  have hl := h2.length
  obtain ⟨hi, _⟩ := List.getElem?_eq_some_iff.1 hm
  have hr : R[i]? = some R[i] := List.getElem?_eq_getElem (by omega)
  obtain ⟨m', e1, e2⟩ := h2.at hr
  rw [hm] at e1
  cases e1
  obtain ⟨g, off, e3, e4⟩ := h1.slR.row (i := i) (r := R[i].C) (by rw [List.getElem?_map, hr]; rfl) (by decide)
  refine ⟨R[i], g, off, e3, e4, e2, h1.at_ g off e3, fun q hq => ⟨(h3 q ?_).1, e2.subs_lt q hq⟩⟩
  exact List.mem_flatMap.2 ⟨R[i], List.getElem_mem _, hq⟩
theorem msgA_one {g : Nat} {r : Raw} {m : Msg} (h : w.heap[g]? = some (.cells r.C.toArray e (0, 0))) (hr : RawOk w r m) (hb : base ≤ g) (hs : ∀ q, q ∈ r.subs → base ≤ q ∧ q ≠ g) : MsgA w base e (some ⟨g, 0, none⟩) 1 1 [m] := by
  refine ⟨[r], ownR ⟨?_, .inr ⟨g, 1, r.C.toArray, rfl, hb, h, Nat.le_refl _, by unfold maxLen; omega, ?_, ?_⟩⟩ (raw_sized [r]) (by decide), ⟨hr, trivial⟩, fun q hq => ?_⟩
  · rw [List.map_singleton]
    show (flatR [r.C]).length = _
    simp [flatR, Raw.C, msgC_length r.hs]
  · show r.C.length = _
    rw [Raw.C, msgC_length r.hs]
  · show r.C.take _ = _
    simp [flatR, Raw.C]
    rw [List.take_of_length_le (by rw [msgC_length r.hs]; omega)]
  · rw [subsL_one] at hq
    refine ⟨(hs q hq).1, fun e1 => (hs q hq).2 ?_⟩
    simpa [Value.ownBlock] using e1.symm
-- messages as they are built
section
variable {b1 b2 e1 e2 pn pc an ac : Nat} {P Q : Option Addr} {p : List UInt8} {L : List Att}
theorem subs_own (hP : Own8 w b1 e1 P pn pc p) (hQ : OwnA w b2 e2 Q an ac L) {kd : UInt8} {s : List UInt8} {k : Int} {b : Bool} (hs : s.length = 32) : ∀ q, q ∈ (Raw.mk kd P pn pc s k Q an ac b hs).subs → (b1 ≤ q ∨ b2 ≤ q) ∧ q < w.heap.size := fun q hq => by
  rcases List.mem_append.1 hq with hq | hq
  · obtain ⟨hn, a, rfl, rfl⟩ := pblk_own hq
    obtain ⟨g, off, e0, _⟩ := hP.byt.2 hn
    cases e0
    have := hP.at_ g off rfl
    exact ⟨.inl this.1, this.2⟩
  · obtain ⟨hn, a, rfl, rfl⟩ := pblk_own hq
    obtain ⟨g, e0, k1, k2⟩ := hQ.ex hn
    cases e0
    exact ⟨.inr k1, k2⟩
theorem subs_own1 (hP : Own8 w b1 e1 P pn pc p) {kd : UInt8} {s : List UInt8} {k : Int} {b : Bool} (hs : s.length = 32) : ∀ q, q ∈ (Raw.mk kd P pn pc s k none 0 0 b hs).subs → b1 ≤ q ∧ q < w.heap.size := fun q hq => by
  have := subs_own (b2 := b1) (e2 := 0) hP (ownA_nil w b1 0) hs q hq
  omega
theorem rawok_items (hP : Own8 w b1 e1 P pn pc p) (hQ : OwnA w b2 e2 Q an ac L) (b : Bool) : RawOk w ⟨2, P, pn, pc, z32, 0, Q, an, ac, b, rfl⟩ ⟨2, p, z32, 0, L, b⟩ :=
  ⟨rfl, rfl, rfl, rfl, hP.byt, hQ.sl, hP.nil, hQ.nil, ⟨hQ.nc, Nat.le_trans hQ.cm (by unfold maxLen; omega)⟩, hP.nc, Nat.le_trans hP.cm (by unfold maxLen; omega)⟩
end
end
section
variable {P : Program} {w : World} {a : Act} {o : Oper}
theorem appendM (s x : Operand) (t e : TypeId) (ho : o.op = .call { callee := .builtin .append, args := #[s, x], argTypes := #[t, t] }) (ht : P.underlying t = some (.slice e)) (hinfo : (P.info? e).map (fun i => (i.zero, i.size, i.bytes)) = some (some (.agg msgZ.toArray), 37, 104))
    (base : Nat) (A0 : Option Addr) (n c0 : Nat) (M : List Msg) (g : Nat) (r : Raw) (m : Msg) (hs : a.eval s = .slice A0 n c0) (hx : a.eval x = .slice (some ⟨g, 0, none⟩) 1 1) (H : MsgA w base e A0 n c0 M) (hg : w.heap[g]? = some (.cells r.C.toArray e (0, 0))) (hr : RawOk w r m)
    (hsub : ∀ q, q ∈ r.subs → base ≤ q ∧ (Value.slice A0 n c0).ownBlock ≠ some q) (hbase : base ≤ w.heap.size) (hl : n + 1 ≤ 1000000) :
    ∃ v1 w1, (execOp a.eval o).run P w = .ok (.value v1) w1 ∧ ∃ A1 c1, v1 = .slice A1 (n + 1) c1 ∧ MsgA w1 base e A1 (n + 1) c1 (M ++ [m]) ∧ Chg (blk (.slice A0 n c0)) w w1 := by
  obtain ⟨R, h1, h2, h3⟩ := H
  obtain ⟨v1, w1, q1, A1, c1, q2, q3, q4, q5⟩ := appendR (P := P) s x t e ho ht _ 37 104 hinfo rfl (by decide) (by decide) base A0 n c0 (R.map Raw.C) (some ⟨g, 0, none⟩) 1 1 [r.C] hs hx h1 (slR_box (msgC_length r.hs) msgC_one hg) (fun h => by cases h) hbase hl (n + 1) rfl
  have hsl : ∀ q, q ∈ subsL (R ++ [r]) → base ≤ q ∧ q < w.heap.size ∧ (Value.slice A0 n c0).ownBlock ≠ some q := fun q hq => by
    rw [subsL_append, subsL_one] at hq
    rcases List.mem_append.1 hq with hq | hq
    · exact ⟨(h3 q hq).1, h2.lt q hq, (h3 q hq).2⟩
    · exact ⟨(hsub q hq).1, hr.subs_lt q hq, (hsub q hq).2⟩
  have hok : RawsOk w (R ++ [r]) (M ++ [m]) := h2.snoc hr
  refine ⟨v1, w1, q1, A1, c1, q2, ⟨R ++ [r], ?_, hok.chg q4 fun q hq => off_blk fun k hk => fun e1 => ?_, fun q hq => ⟨(hsl q hq).1, fun e1 => ?_⟩⟩, q4⟩
  · rw [List.map_append]
    exact q3
  · exact (hsl q hq).2.2 (e1 ▸ hk)
  · rcases q5 q e1 with k | k
    · exact (hsl q hq).2.2 k
    · have := (hsl q hq).2.1
      omega
end
end Mur
namespace Mur
open Go Go.RowKit Wk
section
variable {p s : List UInt8} {L I : List Att} {kd : UInt8} {m : Int} {b : Bool}
theorem summed_same (h1 : sumL p L = s) (h2 : ((cntL p L : Nat) : Int) = m) : summedM L ⟨kd, p, s, m, I, b⟩ = [] := by
  unfold summedM
  exact if_pos ⟨h1, h2⟩
theorem summed_empty (h : ¬ (sumL p L = s ∧ ((cntL p L : Nat) : Int) = m)) (h2 : p.length = 8 ∨ ((cntL p L : Nat) : Int) + m ≤ 8) (h3 : cntL p L = 0) : summedM L ⟨kd, p, s, m, I, b⟩ = [emptyM p] := by
  unfold summedM
  rw [if_neg h, if_pos h2, if_pos h3]
theorem summed_items (h : ¬ (sumL p L = s ∧ ((cntL p L : Nat) : Int) = m)) (h2 : p.length = 8 ∨ ((cntL p L : Nat) : Int) + m ≤ 8) (h3 : cntL p L ≠ 0) : summedM L ⟨kd, p, s, m, I, b⟩ = itemsM p (belowL p L) false := by
  unfold summedM
  rw [if_neg h, if_pos h2, if_neg h3]
theorem summed_split (h : ¬ (sumL p L = s ∧ ((cntL p L : Nat) : Int) = m)) (h2 : ¬ (p.length = 8 ∨ ((cntL p L : Nat) : Int) + m ≤ 8)) : summedM L ⟨kd, p, s, m, I, b⟩ = splitM p L 16 := by
  unfold summedM
  rw [if_neg h, if_neg h2]
theorem splitM_succ (p : List UInt8) (L : List Att) (u : UInt8) : splitM p L (u.toNat + 1) = splitM p L u.toNat ++ [summaryM (p ++ [u]) L] := by
  unfold splitM
  rw [List.range_succ, List.map_append]
  simp
theorem replies_no {M : Msg} (h : ¬ mayM M) : repliesM L M = [] ∧ learnsM L M = [] := by
  unfold repliesM learnsM
  exact ⟨if_neg h, if_neg h⟩
theorem replies_sum (h : mayM ⟨kd, p, s, m, I, b⟩) (hk : kd = 1) : repliesM L ⟨kd, p, s, m, I, b⟩ = summedM L ⟨kd, p, s, m, I, b⟩ ∧ learnsM L ⟨kd, p, s, m, I, b⟩ = [] := by
  subst hk
  unfold repliesM learnsM
  rw [if_pos h, if_pos h, if_pos rfl, if_pos rfl]
  exact ⟨rfl, rfl⟩
theorem replies_ans (h : mayM ⟨kd, p, s, m, I, true⟩) (hk : kd ≠ 1) : repliesM L ⟨kd, p, s, m, I, true⟩ = [] ∧ learnsM L ⟨kd, p, s, m, I, true⟩ = I.filter fun y => decide (y ∉ L) := by
  unfold repliesM learnsM
  rw [if_pos h, if_pos h, if_neg hk, if_neg hk]
  exact ⟨rfl, rfl⟩
theorem replies_two (h : mayM ⟨kd, p, s, m, I, false⟩) (hk : kd ≠ 1) : repliesM L ⟨kd, p, s, m, I, false⟩ = itemsM p ((belowL p L).filter fun y => decide (y ∉ I)) true ∧ learnsM L ⟨kd, p, s, m, I, false⟩ = I.filter fun y => decide (y ∉ L) := by
  unfold repliesM learnsM
  rw [if_pos h, if_pos h, if_neg hk, if_neg hk]
  exact ⟨rfl, rfl⟩
theorem rawok_sum {w : World} {b1 e1 pn pc : Nat} {P : Option Addr} {d : List UInt8} (hP : Own8 w b1 e1 P pn pc p) (hd : d = sumL p L) (hdl : d.length = 32) : RawOk w ⟨1, P, pn, pc, d, (((belowL p L).length : Nat) : Int), none, 0, 0, false, hdl⟩ (summaryM p L) :=
  ⟨rfl, hd, rfl, rfl, hP.byt, SlA.nil _ _, hP.nil, fun _ => rfl, ⟨Nat.le_refl _, Nat.zero_le _⟩, hP.nc, Nat.le_trans hP.cm (by unfold maxLen; omega)⟩
theorem rawok_empty {w : World} {b1 e1 pn pc : Nat} {P : Option Addr} (hP : Own8 w b1 e1 P pn pc p) : RawOk w ⟨2, P, pn, pc, z32, 0, none, 0, 0, false, rfl⟩ (emptyM p) :=
  ⟨rfl, rfl, rfl, rfl, hP.byt, SlA.nil _ _, hP.nil, fun _ => rfl, ⟨Nat.le_refl _, Nat.zero_le _⟩, hP.nc, Nat.le_trans hP.cm (by unfold maxLen; omega)⟩
theorem filter_snoc {x : Att} {i : Nat} (hx : I[i]? = some x) (f : Att → Bool) : (I.take (i + 1)).filter f = (I.take i).filter f ++ (if f x then [x] else []) := by
  obtain ⟨hi, rfl⟩ := List.getElem?_eq_some_iff.1 hx
  rw [List.take_succ_eq_append_getElem hi, List.filter_append]
  congr 1
  cases hf : f I[i] <;> simp [hf]
end
end Mur
namespace Mur
open Go Go.RowKit Wk
theorem kA_may : may kA.n := by unfold may kA; decide
theorem hears1 {d : List UInt8} (hd : d = sumL [] []) : repliesM [kA] ⟨1, [], d, (((belowL [] []).length : Nat) : Int), [], false⟩ = [⟨2, [], z32, 0, [kA], false⟩] := by
  subst hd
  have h0 : belowL [] ([] : List Att) = [] := rfl
  have h1 : belowL [] [kA] = [kA] := by decide +kernel
  have hm : mayM ⟨1, [], sumL [] [], (((belowL [] []).length : Nat) : Int), [], false⟩ := mayM_summary (L := []) (p := []) rfl (by simp)
  rw [(replies_sum hm rfl).1, summed_items (by
    rintro ⟨_, h2⟩
    unfold cntL at h2
    rw [h1, h0] at h2
    simp at h2) (.inr (by
    unfold cntL
    rw [h1, h0]
    decide)) (by
    unfold cntL
    rw [h1]
    simp), h1]
  rfl
theorem hears2 {d : List UInt8} (hd : d = sumL [] []) : repliesM [] ⟨1, [], d, (((belowL [] []).length : Nat) : Int), [], false⟩ = [] := by
  subst hd
  have hm : mayM ⟨1, [], sumL [] [], (((belowL [] []).length : Nat) : Int), [], false⟩ := mayM_summary (L := []) (p := []) rfl (by simp)
  exact (replies_sum hm rfl).1.trans (summed_same rfl rfl)
theorem hears3 : repliesM [] ⟨2, [], z32, 0, [kA], false⟩ = [] ∧ learnsM [] ⟨2, [], z32, 0, [kA], false⟩ = [kA] := by
  have hm : mayM ⟨2, [], z32, 0, [kA], false⟩ := ⟨rfl, Int.le_refl _, (show (0 : Int) ≤ 200 by decide), (show 1 ≤ 8 by decide), .inr ⟨rfl, (fun x hx => by
    rw [List.mem_singleton.1 hx]
    exact ⟨kA_may, rfl⟩), List.pairwise_singleton _ _, rfl, rfl⟩⟩
  have h2 := replies_two (L := []) hm (by decide)
  have h0 : belowL [] ([] : List Att) = [] := rfl
  refine ⟨?_, ?_⟩
  · rw [h2.1, h0]
    rfl
  · rw [h2.2]
    simp
theorem byt_chgp {S : List Nat} {w w' : World} {A : Option Addr} {n : Nat} {l : List UInt8} (h : Byt w A n l) (c : Chg S w w') (ho : ∀ g off, A = some ⟨g, off, none⟩ → 0 < n → g < w.heap.size → Off g S) : Byt w' A n l := by
  rcases Nat.eq_zero_or_pos n with h0 | h0
  · subst h0
    exact ⟨h.1, fun h1 => absurd h1 (Nat.lt_irrefl 0)⟩
  · exact byt_chg h c fun g off e hl => ho g off e h0 hl
theorem MsgA.row0 {w : World} {base e n c : Nat} {A : Option Addr} {M : List Msg} (h : MsgA w base e A n c M) {i : Nat} {m : Msg} (hm : M[i]? = some m) : ∃ r g, A = some ⟨g, 0, none⟩ ∧ w.rangeAt g (0 + i * 37) r.C ∧ RawOk w r m ∧ (base ≤ g ∧ g < w.heap.size) ∧ ∀ q, q ∈ r.subs → base ≤ q ∧ q < w.heap.size := by
  obtain ⟨r, g, off, h1, h2, h3, h4, h5⟩ := h.row hm
  obtain ⟨R, k1, k2, _⟩ := h
  have hl := k2.length
  obtain ⟨hi, _⟩ := List.getElem?_eq_some_iff.1 hm
  have hn : 0 < n := by
    have := k1.len
    rw [List.length_map] at this
    omega
  obtain ⟨g', e1, _⟩ := own_some k1.own hn
  rw [h1] at e1
  cases e1
  exact ⟨r, g, h1, h2, h3, h4, h5⟩
end Mur
namespace Mur
open Go Go.RowKit Go.Lib
theorem quiet_one {L : List Att} (hl : L.length ≤ 200) : repliesM L (summaryM [] L) = [] ∧ learnsM L (summaryM [] L) = [] := by
  have hm : mayM (summaryM [] L) := mayM_summary (by decide) hl
  constructor
  · unfold repliesM
    rw [if_pos hm, if_pos (show (summaryM [] L).kind = 1 from rfl)]
    unfold summedM
    exact if_pos ⟨rfl, rfl⟩
  · unfold learnsM
    rw [if_pos hm, if_pos (show (summaryM [] L).kind = 1 from rfl)]
theorem cut_perm {α : Type} {l : List α} {i : Nat} {x : α} (h : l[i]? = some x) : l.Perm (x :: (l.take i ++ l.drop (i + 1))) := by
  obtain ⟨hi, rfl⟩ := List.getElem?_eq_some_iff.1 h
  have e : l = l.take i ++ l[i] :: l.drop (i + 1) := by
    rw [← List.drop_eq_getElem_cons hi, List.take_append_drop]
  have h1 : (l.take i ++ l[i] :: l.drop (i + 1)).Perm (l[i] :: (l.take i ++ l.drop (i + 1))) := List.perm_middle
  rwa [← e] at h1
theorem heard_at {I S : Bool → List Att} {U : List Att} {post : List (Bool × Msg)} {i : Nat} {b : Bool} {m : Msg} (T : Two I U) (h : Inv I U S post) (hi : post[i]? = some (b, m)) :
    Inv I U (upd S b (addsL (learnsM (S b) m) (S b))) ((post.take i ++ post.drop (i + 1)) ++ (repliesM (S b) m).map fun n => (!b, n)) ∧ costP U ((post.take i ++ post.drop (i + 1)) ++ (repliesM (S b) m).map fun n => (!b, n)) + 1 ≤ costP U post ∧
      (¬ Bad I → Cov U S post → Cov U (upd S b (addsL (learnsM (S b) m) (S b))) ((post.take i ++ post.drop (i + 1)) ++ (repliesM (S b) m).map fun n => (!b, n))) := by
  have e := cut_perm hi
  obtain ⟨h1, h2, h3⟩ := heard T (h.perm e)
  exact ⟨h1, by rw [costP.perm e]; exact h2, fun hb hc => h3 hb (hc.perm e)⟩
end Mur
