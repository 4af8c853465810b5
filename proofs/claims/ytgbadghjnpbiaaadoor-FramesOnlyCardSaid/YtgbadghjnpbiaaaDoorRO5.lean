/- What the row rests on, part 5. -/
import Derived.Test.YtgbadghjnpbiaaaDoorProg
import Derived.Laws.MakeOwn
import Derived.Test.YtgbadghjnpbiaaaDoorRO4
import Derived.Test.YtgbadghjnpbiaaaDoorRO2
import Derived.Test.YtgbadghjnpbiaaaDoorRO3
namespace Mur
open Go Go.RowKit Wk
structure PSeg (w : World) (lo : Nat) (no : Option Nat) (s : Seg) (x : Att) : Prop where
  n : s.n = 104
  l : s.l = x.raw
  nc : 104 ≤ s.c
  cm : s.c ≤ maxLen
  at_ : ∃ q, s.A = some ⟨q, 0, none⟩ ∧ lo ≤ q ∧ q < w.heap.size ∧ no ≠ some q
  byt : Byt w s.A 104 s.l
def PSegs (w : World) (lo : Nat) (no : Option Nat) : List Seg → List Att → Prop
  | [], [] => True
  | s :: S, x :: X => PSeg w lo no s x ∧ PSegs w lo no S X
  | _, _ => False
theorem cell_isCells {w : World} {g o : Nat} {v : Value} (h : w.cell? ⟨g, o, none⟩ = some v) : ∃ o : Obj, w.heap[g]? = some o ∧ o.isCells = true := by
  unfold World.cell? at h
  cases ho : w.heap[g]? with
  | none => simp [ho] at h
  | some x => exact ⟨x, rfl, by cases x <;> simp_all [Obj.isCells]⟩
section
variable {w w' : World} {lo : Nat} {no no' : Option Nat} {S : List Seg} {X : List Att}
theorem PSegs.length (h : PSegs w lo no S X) : S.length = X.length := by
  induction S generalizing X with
  | nil => cases X with
    | nil => rfl
    | cons x X => exact h.elim
  | cons s S ih => cases X with
    | nil => exact h.elim
    | cons x X => simp only [List.length_cons, ih h.2]
theorem PSeg.imp {s : Seg} {x : Att} {T : List Nat} (h : PSeg w lo no s x) (c : Chg T w w') (ho : ∀ q, lo ≤ q → q < w.heap.size → no ≠ some q → (∃ o : Obj, w.heap[q]? = some o ∧ o.isCells = true) → Off q T ∧ no' ≠ some q) : PSeg w' lo no' s x := by
  obtain ⟨q, hq, h1, h2, h3⟩ := h.at_
  have hb := h.byt
  have hc : ∃ o : Obj, w.heap[q]? = some o ∧ o.isCells = true := by
    rw [hq] at hb
    exact cell_isCells (byt_cell hb 0 (by omega))
  obtain ⟨h4, h5⟩ := ho q h1 h2 h3 hc
  have hsz := c.size
  exact ⟨h.n, h.l, h.nc, h.cm, ⟨q, hq, h1, by omega, h5⟩, byt_chg hb c fun g off e _ => by rw [hq] at e; cases e; exact h4⟩
theorem PSegs.imp {T : List Nat} (c : Chg T w w') (ho : ∀ q, lo ≤ q → q < w.heap.size → no ≠ some q → (∃ o : Obj, w.heap[q]? = some o ∧ o.isCells = true) → Off q T ∧ no' ≠ some q) (h : PSegs w lo no S X) : PSegs w' lo no' S X := by
  induction S generalizing X with
  | nil => cases X with
    | nil => trivial
    | cons x X => exact h.elim
  | cons s S ih => cases X with
    | nil => exact h.elim
    | cons x X => exact ⟨h.1.imp c ho, ih h.2⟩
theorem PSegs.snoc {s : Seg} {x : Att} (hs : PSeg w lo no s x) (h : PSegs w lo no S X) : PSegs w lo no (S ++ [s]) (X ++ [x]) := by
  induction S generalizing X with
  | nil => cases X with
    | nil => exact ⟨hs, trivial⟩
    | cons x X => exact h.elim
  | cons s S ih => cases X with
    | nil => exact h.elim
    | cons x X => exact ⟨h.1, ih h.2⟩
theorem PSegs.ok (h : PSegs w lo no S X) : ∀ s, s ∈ S → SegOk w s := by
  induction S generalizing X with
  | nil => exact fun s hs => by cases hs
  | cons t S ih => cases X with
    | nil => exact h.elim
    | cons x X =>
      intro s hs
      rcases List.mem_cons.1 hs with rfl | hs
      · obtain ⟨q, hq, _⟩ := h.1.at_
        exact ⟨by rw [h.1.n]; exact h.1.nc, (fun e => by rw [hq] at e; cases e), (by rw [h.1.n]; exact h.1.byt), h.1.cm⟩
      · exact ih h.2 s hs
theorem PSegs.flat (h : PSegs w lo no S X) : Mur.flat S = (X.map Att.raw).flatten := by
  induction S generalizing X with
  | nil => cases X with
    | nil => rfl
    | cons x X => exact h.elim
  | cons s S ih => cases X with
    | nil => exact h.elim
    | cons x X =>
      have := ih h.2
      show s.l ++ Mur.flat S = _
      rw [this, h.1.l]
      rfl
end
def PartsA (w : World) (base lo e : Nat) (A : Option Addr) (n c : Nat) (M : List Att) : Prop := ∃ S : List Seg, w.ownsRow base e 1 (.slice A n c) n (S.map Seg.v) ∧ PSegs w lo (Value.slice A n c).ownBlock S M
section
variable {w w' : World} {base lo e n c : Nat} {A : Option Addr} {M : List Att}
theorem PartsA.len (h : PartsA w base lo e A n c M) : M.length = n := by
  obtain ⟨S, h1, h2⟩ := h
  have := h1.1
  rw [List.length_map, h2.length] at this
  omega
theorem PartsA.nc (h : PartsA w base lo e A n c M) : n ≤ c ∧ c ≤ maxLen ∧ (A = none → c = 0) := by
  obtain ⟨S, h1, h2⟩ := h
  obtain ⟨A', c', e1, k1, k2, k3, _⟩ := own_sl h1
  injection e1 with e1 _ e2
  subst e1 e2
  exact ⟨k1, k2, k3⟩
theorem PartsA.lt (h : PartsA w base lo e A n c M) : ∀ k, (Value.slice A n c).ownBlock = some k → base ≤ k ∧ k < w.heap.size := let ⟨_, h1, _⟩ := h; World.ownsRow.lt h1
theorem PartsA.cells (h : PartsA w base lo e A n c M) {k : Nat} (hk : (Value.slice A n c).ownBlock = some k) : ∃ o : Obj, w.heap[k]? = some o ∧ o.isCells = true := by
  obtain ⟨S, h1, h2⟩ := h
  rcases h1.2 with ⟨e0, _⟩ | ⟨g, cap, cur, e0, _, hg, _⟩
  · injection e0 with e1
    subst e1
    cases hk
  · injection e0 with e1
    subst e1
    have : g = k := by simpa [Value.ownBlock] using hk
    subst this
    exact ⟨_, hg, rfl⟩
theorem PartsA.chg {T : List Nat} (h : PartsA w base lo e A n c M) (ch : Chg T w w') (hlo : lo ≤ base) (ho : ∀ q, lo ≤ q → q < w.heap.size → (∃ o : Obj, w.heap[q]? = some o ∧ o.isCells = true) → Off q T) : PartsA w' base lo e A n c M := by
  have hc := fun k hk => h.cells (k := k) hk
  obtain ⟨S, h1, h2⟩ := h
  exact ⟨S, own_chg h1 ch fun g hg k1 k2 => ho g (by omega) k2 (hc g hg), PSegs.imp ch (fun q k1 k2 k3 k4 => ⟨ho q k1 k2 k4, k3⟩) h2⟩
end
section
variable {P : Program} {w : World} {a : Act} {o : Oper}
end
def sumL (p : List UInt8) (L : List Att) : List UInt8 := if isPre p then sha (rowL (belowL p L)) else z32
end Mur
namespace Go.Proofs.YtgbadghjnpbiaaaDoor
open Mur (attC z32)
end Go.Proofs.YtgbadghjnpbiaaaDoor
namespace Mur
open Go Go.RowKit Go.Lib
structure Msg where
  kind : UInt8
  pre : List UInt8
  sum : List UInt8
  cnt : Int
  items : List Att
  ans : Bool
def mayM (m : Msg) : Prop := isPre m.pre = true ∧ 0 ≤ m.cnt ∧ m.cnt ≤ 200 ∧ m.items.length ≤ 8 ∧ ((m.kind = 1 ∧ m.items = [] ∧ m.ans = false) ∨ (m.kind = 2 ∧ (∀ x, x ∈ m.items → may x.n ∧ under m.pre x.k = true) ∧ Sorted m.items ∧ m.sum = z32 ∧ m.cnt = 0))
def cntL (p : List UInt8) (L : List Att) : Nat := (belowL p L).length
def chunks (l : List Att) : List (List Att) := (List.range ((l.length + 7) / 8)).map fun i => (l.drop (8 * i)).take 8
-- chunks
-- counts
end Mur
namespace Mur
open Go Go.RowKit
theorem nat_wf {V : Nat} (h : V ≤ 5000) : (Lit.int .i64 ((V : Nat) : Int)).wf = true := by
  have h3 : IntKind.i64.min = -9223372036854775808 := by decide
  have h4 : IntKind.i64.max = 9223372036854775807 := by decide
  simp only [Lit.wf, h3, h4, Bool.and_eq_true, decide_eq_true_eq]
  omega
def attOf (c : List UInt8) (hc : c.length = 104) (hV : be8 ((c.take 72).drop 64) ≤ 5000) : Att where
  k := (c.take 32).drop 0
  r := (c.take 64).drop 32
  t := (c.take 104).drop 72
  n := ((be8 ((c.take 72).drop 64) : Nat) : Int)
  hk := sub_len hc (by omega) rfl
  hr := sub_len hc (by omega) rfl
  ht := sub_len hc (by omega) rfl
  hn := nat_wf hV
def readA : Prs Att := fun b => if hc : (b.take 104).length = 104 then (if hV : 1 ≤ be8 (((b.take 104).take 72).drop 64) ∧ be8 (((b.take 104).take 72).drop 64) ≤ 5000 then some (attOf (b.take 104) hc hV.2, b.drop 104) else none) else none
theorem att_ext {x y : Att} (hk : x.k = y.k) (hr : x.r = y.r) (ht : x.t = y.t) (hn : x.n = y.n) : x = y := (Att.eq_iff x y).2 ⟨hk, hr, hn, ht⟩
theorem att_raw_len (x : Att) : x.raw.length = 104 := raw_len x.hk x.hr x.ht
theorem codecA : Codec Att.raw (fun x => may x.n) readA := by
  refine ⟨fun x r hx => ?_, fun b x r hb => ?_⟩
  · have hl := att_raw_len x
    have e1 : (x.raw ++ r).take 104 = x.raw := List.take_left' hl
    have e2 : (x.raw ++ r).drop 104 = r := List.drop_left' hl
    have e3 : be8 ((x.raw.take 72).drop 64) = u64n x.n := by
      show be8 (((rawL x.k x.r x.n x.t).take 72).drop 64) = _
      rw [raw_e x.hk x.hr, e8_be' _ (u64n_lt _)]
    have hm := may_u64 hx
    have hV : 1 ≤ be8 ((x.raw.take 72).drop 64) ∧ be8 ((x.raw.take 72).drop 64) ≤ 5000 := by
      rw [e3]
      unfold may at hx
      omega
    unfold readA
    simp only [e1, e2]
    rw [dif_pos hl, dif_pos hV]
    congr 2
    refine att_ext (raw_k x.hk) (raw_r x.hk x.hr) (raw_t x.hk x.hr x.ht) ?_
    show ((be8 ((x.raw.take 72).drop 64) : Nat) : Int) = x.n
    rw [e3]
    exact hm.2
  · unfold readA at hb
    split at hb
    · rename_i hc
      split at hb
      · rename_i hV
        cases hb
        refine ⟨?_, ?_⟩
        · have h1 := raw_back hc rfl rfl rfl rfl rfl hV.2
          show b = rawL _ _ _ _ ++ _
          exact (List.take_append_drop 104 b).symm.trans (congrArg (· ++ b.drop 104) h1.symm)
        · show 1 ≤ ((be8 (((b.take 104).take 72).drop 64) : Nat) : Int) ∧ ((be8 (((b.take 104).take 72).drop 64) : Nat) : Int) ≤ 5000
          omega
      · cases hb
    · cases hb
structure Upd where
  node : Nat
  st : Nat
  inc : Nat
def encU (u : Upd) : List UInt8 := formN u.node ++ (formN u.st ++ formN u.inc)
def readU : Prs Upd := fun b => (pSeq readI (pSeq readK readN) b).map fun y => (⟨y.1.1, y.1.2.1, y.1.2.2⟩, y.2)
theorem codecU : Codec encU (fun u => u.node ≤ 2 ^ 30 ∧ u.st ≤ 255 ∧ u.inc < 2 ^ 64) readU :=
  (codecI.seq (codecK.seq codecN)).iso (fun y => (⟨y.1, y.2.1, y.2.2⟩ : Upd)) (fun u : Upd => (u.node, u.st, u.inc)) (fun _ hu => ⟨hu, rfl⟩) fun _ hx => ⟨hx, rfl⟩
inductive Cont
  | probe (kind seq about : Nat) (l : List Upd)
  | sum (pre d : List UInt8) (cnt : Nat)
  | items (kind : Nat) (pre : List UInt8) (l : List Att) (ans : Bool)
  | claim (key : List UInt8) (inc cnt : Nat) (gone : Bool)
  | result (a : Att)
  | want (root : List UInt8) (chunk : Nat)
  | chunk (root : List UInt8) (chunk : Nat) (byt : List UInt8) (prf : List (List UInt8))
def Cont.kind : Cont → Nat
  | .probe .. => 1
  | .sum .. => 2
  | .items .. => 2
  | .claim .. => 3
  | .result .. => 4
  | .want .. => 5
  | .chunk .. => 6
def encC : Cont → List UInt8
  | .probe k s a l => formN k ++ (formN s ++ (formN a ++ (formN l.length ++ (l.map encU).flatten)))
  | .sum p d n => formN 1 ++ ((formN p.length ++ p) ++ (d ++ formN n))
  | .items k p l a => formN k ++ ((formN p.length ++ p) ++ ((formN l.length ++ (l.map Att.raw).flatten) ++ formN (flagN a)))
  | .claim k i n g => k ++ (formN i ++ (formN n ++ formN (flagN g)))
  | .result a => a.raw
  | .want r c => r ++ formN c
  | .chunk r c b p => r ++ (formN c ++ ((formN b.length ++ b) ++ (formN p.length ++ (p.map fun x => x).flatten)))
def domC : Cont → Prop
  | .probe k s a l => k ≤ 255 ∧ s < 2 ^ 64 ∧ a ≤ 2 ^ 30 ∧ l.length ≤ 2 ^ 30 ∧ ∀ u, u ∈ l → u.node ≤ 2 ^ 30 ∧ u.st ≤ 255 ∧ u.inc < 2 ^ 64
  | .sum p d n => p.length < 2 ^ 64 ∧ d.length = 32 ∧ n ≤ 2 ^ 30
  | .items k p l _ => (k ≤ 255 ∧ k ≠ 1) ∧ p.length < 2 ^ 64 ∧ (l.length ≤ 2 ^ 30 ∧ ∀ x, x ∈ l → may x.n)
  | .claim k i n _ => k.length = 32 ∧ i < 2 ^ 64 ∧ n < 2 ^ 64
  | .result a => may a.n
  | .want r c => r.length = 32 ∧ c ≤ 2 ^ 30
  | .chunk r c b p => r.length = 32 ∧ c ≤ 2 ^ 30 ∧ b.length < 2 ^ 64 ∧ (p.length ≤ 2 ^ 30 ∧ ∀ x, x ∈ p → x.length = 32)
def readPr : Prs Cont := fun b => (pSeq readK (pSeq readN (pSeq readI (readL readU))) b).map fun y => (.probe y.1.1 y.1.2.1 y.1.2.2.1 y.1.2.2.2, y.2)
def readSm : Prs Cont := fun b => (pSeq readB (pSeq (readS 32) readI) b).map fun y => (.sum y.1.1 y.1.2.1 y.1.2.2, y.2)
def readIt (k : Nat) : Prs Cont := fun b => (pSeq readB (pSeq (readL readA) readFlag) b).map fun y => (.items k y.1.1 y.1.2.1 y.1.2.2, y.2)
def readGo : Prs Cont := fun b => (readK b).bind fun y => if y.1 = 1 then readSm y.2 else readIt y.1 y.2
def readCl : Prs Cont := fun b => (pSeq (readS 32) (pSeq readN (pSeq readN readFlag)) b).map fun y => (.claim y.1.1 y.1.2.1 y.1.2.2.1 y.1.2.2.2, y.2)
def readRe : Prs Cont := fun b => (readA b).map fun y => (.result y.1, y.2)
def readWa : Prs Cont := fun b => (pSeq (readS 32) readI b).map fun y => (.want y.1.1 y.1.2, y.2)
def readCh : Prs Cont := fun b => (pSeq (readS 32) (pSeq readI (pSeq readB (readL (readS 32)))) b).map fun y => (.chunk y.1.1 y.1.2.1 y.1.2.2.1 y.1.2.2.2, y.2)
def readC (k : Nat) : Prs Cont := if k = 1 then readPr else if k = 2 then readGo else if k = 3 then readCl else if k = 4 then readRe else if k = 5 then readWa else if k = 6 then readCh else fun _ => none
theorem map_rt {α : Type} {enc : α → List UInt8} {dom : α → Prop} {p : Prs α} (h : Codec enc dom p) (f : α → Cont) {x : α} (hx : dom x) (r : List UInt8) : (p (enc x ++ r)).map (fun y => (f y.1, y.2)) = some (f x, r) := by
  rw [h.rt x r hx]
  rfl
theorem map_un {α : Type} {enc : α → List UInt8} {dom : α → Prop} {p : Prs α} (h : Codec enc dom p) {f : α → Cont} {b r : List UInt8} {c : Cont} (hb : (p b).map (fun y => (f y.1, y.2)) = some (c, r)) : ∃ x, c = f x ∧ b = enc x ++ r ∧ dom x := by
  obtain ⟨⟨x, r1⟩, h1, h2⟩ := Option.map_eq_some_iff.1 hb
  simp only [Prod.mk.injEq] at h2
  obtain ⟨rfl, rfl⟩ := h2
  obtain ⟨e1, d1⟩ := h.un b x r1 h1
  exact ⟨x, rfl, e1, d1⟩
theorem readC_rt {c : Cont} (hc : domC c) (r : List UInt8) : readC c.kind (encC c ++ r) = some (c, r) := by
  cases c with
  | probe k s a l => exact map_rt (codecK.seq (codecN.seq (codecI.seq (codecL codecU)))) (fun y => .probe y.1 y.2.1 y.2.2.1 y.2.2.2) (x := (k, s, a, l)) hc r
  | sum p d n =>
    show readGo (formN 1 ++ _ ++ r) = _
    unfold readGo
    rw [List.append_assoc, codecK.rt 1 _ (by decide), Option.bind_some, if_pos rfl]
    exact map_rt (codecB.seq ((codecS 32).seq codecI)) (fun y => .sum y.1 y.2.1 y.2.2) (x := (p, d, n)) hc r
  | items k p l a =>
    show readGo (formN k ++ _ ++ r) = _
    unfold readGo
    rw [List.append_assoc, codecK.rt k _ hc.1.1, Option.bind_some, if_neg hc.1.2]
    exact map_rt (codecB.seq ((codecL codecA).seq codecFlag)) (fun y => .items k y.1 y.2.1 y.2.2) (x := (p, l, a)) ⟨hc.2.1, hc.2.2, trivial⟩ r
  | claim k i n g => exact map_rt ((codecS 32).seq (codecN.seq (codecN.seq codecFlag))) (fun y => .claim y.1 y.2.1 y.2.2.1 y.2.2.2) (x := (k, i, n, g)) ⟨hc.1, hc.2.1, hc.2.2, trivial⟩ r
  | result a => exact map_rt codecA (fun y => .result y) (x := a) hc r
  | want x c => exact map_rt ((codecS 32).seq codecI) (fun y => .want y.1 y.2) (x := (x, c)) hc r
  | chunk x c b p => exact map_rt ((codecS 32).seq (codecI.seq (codecB.seq (codecL (codecS 32))))) (fun y => .chunk y.1 y.2.1 y.2.2.1 y.2.2.2) (x := (x, c, b, p)) hc r
theorem readC_un {k : Nat} {b r : List UInt8} {c : Cont} (h : readC k b = some (c, r)) : c.kind = k ∧ b = encC c ++ r ∧ domC c := by
  unfold readC at h
  split at h
  · obtain ⟨x, rfl, e, d⟩ := map_un (codecK.seq (codecN.seq (codecI.seq (codecL codecU)))) (f := fun y => .probe y.1 y.2.1 y.2.2.1 y.2.2.2) h
    exact ⟨by simp [Cont.kind, *], e, d⟩
  split at h
  · unfold readGo at h
    obtain ⟨⟨k1, r1⟩, h1, h2⟩ := Option.bind_eq_some_iff.1 h
    obtain ⟨e1, d1⟩ := codecK.un b k1 r1 h1
    split at h2
    · rename_i hk
      simp only at hk
      obtain ⟨x, rfl, e, d⟩ := map_un (codecB.seq ((codecS 32).seq codecI)) (f := fun y => .sum y.1 y.2.1 y.2.2) h2
      refine ⟨by simp [Cont.kind, *], ?_, d⟩
      show b = formN 1 ++ _ ++ r
      rw [e1, hk, List.append_assoc]
      exact congrArg _ e
    · rename_i hk
      obtain ⟨x, rfl, e, d⟩ := map_un (codecB.seq ((codecL codecA).seq codecFlag)) (f := fun y => .items k1 y.1 y.2.1 y.2.2) h2
      refine ⟨by simp [Cont.kind, *], ?_, ⟨d1, hk⟩, d.1, d.2.1⟩
      show b = formN k1 ++ _ ++ r
      rw [e1, List.append_assoc]
      exact congrArg _ e
  split at h
  · obtain ⟨x, rfl, e, d⟩ := map_un ((codecS 32).seq (codecN.seq (codecN.seq codecFlag))) (f := fun y => .claim y.1 y.2.1 y.2.2.1 y.2.2.2) h
    exact ⟨by simp [Cont.kind, *], e, d.1, d.2.1, d.2.2.1⟩
  split at h
  · obtain ⟨x, rfl, e, d⟩ := map_un codecA (f := fun y => .result y) h
    exact ⟨by simp [Cont.kind, *], e, d⟩
  split at h
  · obtain ⟨x, rfl, e, d⟩ := map_un ((codecS 32).seq codecI) (f := fun y => .want y.1 y.2) h
    exact ⟨by simp [Cont.kind, *], e, d⟩
  split at h
  · obtain ⟨x, rfl, e, d⟩ := map_un ((codecS 32).seq (codecI.seq (codecB.seq (codecL (codecS 32))))) (f := fun y => .chunk y.1 y.2.1 y.2.2.1 y.2.2.2) h
    exact ⟨by simp [Cont.kind, *], e, d⟩
  · cases h
structure Fra where
  frm : Nat
  dst : Nat
  con : Cont
def bodyF (f : Fra) : List UInt8 := formN f.con.kind ++ (formN f.frm ++ (formN f.dst ++ encC f.con))
def readF : Prs Fra := fun b => (pSeq readK (pSeq readI readI) b).bind fun y => (readC y.1.1 y.2).map fun z => (⟨y.1.2.1, y.1.2.2, z.1⟩, z.2)
theorem codecF : Codec bodyF (fun f => f.frm ≤ 2 ^ 30 ∧ f.dst ≤ 2 ^ 30 ∧ domC f.con) readF := by
  refine ⟨fun f r hf => ?_, fun b f r hb => ?_⟩
  · have hk : f.con.kind ≤ 255 := by cases f.con <;> simp [Cont.kind]
    have h1 := (codecK.seq (codecI.seq codecI)).rt (f.con.kind, f.frm, f.dst) (encC f.con ++ r) ⟨hk, hf.1, hf.2.1⟩
    unfold readF bodyF
    simp only [List.append_assoc] at h1 ⊢
    rw [h1, Option.bind_some, readC_rt hf.2.2]
    rfl
  · unfold readF at hb
    obtain ⟨⟨⟨k, a, d⟩, r1⟩, h1, h2⟩ := Option.bind_eq_some_iff.1 hb
    obtain ⟨⟨c, r2⟩, h3, h4⟩ := Option.map_eq_some_iff.1 h2
    simp only [Prod.mk.injEq] at h4
    obtain ⟨rfl, rfl⟩ := h4
    obtain ⟨e1, d1⟩ := (codecK.seq (codecI.seq codecI)).un b (k, a, d) r1 h1
    obtain ⟨hk, e2, d2⟩ := readC_un h3
    refine ⟨?_, d1.2.1, d1.2.2, d2⟩
    unfold bodyF
    rw [e1, hk]
    simp only at e2 ⊢
    rw [e2]
    simp only [List.append_assoc]
end Mur
namespace Mur
open Go Go.RowKit
structure Frm where
  kind : UInt8
  frm : Int
  dst : Int
  pTo : Int
  pKind : UInt8
  pSeq : Nat
  pAbout : Int
  pUpd : List (Int × UInt8 × Nat)
  gos : Msg
  cKey : List UInt8
  cNode : Int
  cInc : Nat
  cCnt : Nat
  cGone : Bool
  att : Att
  root : List UInt8
  chunk : Int
  byt : List UInt8
  prf : List (List UInt8)
def msgNone : Msg := ⟨0, [], z32, 0, [], false⟩
def attNone : Att := ⟨z32, z32, z32, 0, rfl, rfl, rfl, by decide⟩
def headM (k : UInt8) (a b : Int) : Frm := ⟨k, a, b, 0, 0, 0, 0, [], msgNone, z32, 0, 0, 0, false, attNone, z32, 0, [], []⟩
def bareM (f : Frm) : Frm :=
  if f.kind = 1 then { headM f.kind f.frm f.dst with pTo := f.pTo, pKind := f.pKind, pSeq := f.pSeq, pAbout := f.pAbout, pUpd := f.pUpd }
  else if f.kind = 2 then { headM f.kind f.frm f.dst with gos := f.gos }
  else if f.kind = 3 then { headM f.kind f.frm f.dst with cKey := f.cKey, cNode := f.cNode, cInc := f.cInc, cCnt := f.cCnt, cGone := f.cGone }
  else if f.kind = 4 then { headM f.kind f.frm f.dst with att := f.att }
  else if f.kind = 5 then { headM f.kind f.frm f.dst with root := f.root, chunk := f.chunk }
  else if f.kind = 6 then { headM f.kind f.frm f.dst with root := f.root, chunk := f.chunk, byt := f.byt, prf := f.prf }
  else headM f.kind f.frm f.dst
def nodeM (n : Int) : Prop := 0 ≤ n ∧ n < 16
def mayFM (f : Frm) : Prop := nodeM f.frm ∧ nodeM f.dst ∧ f.frm ≠ f.dst ∧ f = bareM f ∧
  ((f.kind = 1 ∧ f.pTo = f.dst ∧ (1 ≤ f.pKind.toNat ∧ f.pKind.toNat ≤ 3) ∧ nodeM f.pAbout ∧ f.pUpd.length ≤ 8 ∧ ∀ u, u ∈ f.pUpd → nodeM u.1 ∧ (1 ≤ u.2.1.toNat ∧ u.2.1.toNat ≤ 3) ∧ u.2.2 ≤ 2 ^ 40) ∨
    (f.kind = 2 ∧ mayM f.gos) ∨ (f.kind = 3 ∧ f.cNode = f.frm ∧ f.cInc ≤ 2 ^ 40 ∧ f.cCnt ≤ 2 ^ 40) ∨ (f.kind = 4 ∧ may f.att.n) ∨ (f.kind = 5 ∧ 0 ≤ f.chunk ∧ f.chunk < 100) ∨
    (f.kind = 6 ∧ (0 ≤ f.chunk ∧ f.chunk < 100) ∧ f.byt.length ≤ 64 ∧ f.prf.length ≤ 10))
def ofCon (a b : Nat) : Cont → Frm
  | .probe k s m l => { headM 1 a b with pTo := b, pKind := UInt8.ofNat k, pSeq := s, pAbout := m, pUpd := l.map fun u => (((u.node : Nat) : Int), UInt8.ofNat u.st, u.inc) }
  | .sum p d n => { headM 2 a b with gos := ⟨1, p, d, n, [], false⟩ }
  | .items k p l s => { headM 2 a b with gos := ⟨UInt8.ofNat k, p, z32, 0, l, s⟩ }
  | .claim k i n g => { headM 3 a b with cKey := k, cNode := a, cInc := i, cCnt := n, cGone := g }
  | .result x => { headM 4 a b with att := x }
  | .want r c => { headM 5 a b with root := r, chunk := c }
  | .chunk r c y p => { headM 6 a b with root := r, chunk := c, byt := y, prf := p }
def ofFra (x : Fra) : Frm := ofCon x.frm x.dst x.con
def conM (f : Frm) : Cont :=
  if f.kind = 1 then .probe f.pKind.toNat f.pSeq f.pAbout.toNat (f.pUpd.map fun u => ⟨u.1.toNat, u.2.1.toNat, u.2.2⟩)
  else if f.kind = 2 then (if f.gos.kind = 1 then .sum f.gos.pre f.gos.sum f.gos.cnt.toNat else .items f.gos.kind.toNat f.gos.pre f.gos.items f.gos.ans)
  else if f.kind = 3 then .claim f.cKey f.cInc f.cCnt f.cGone
  else if f.kind = 4 then .result f.att
  else if f.kind = 5 then .want f.root f.chunk.toNat
  else .chunk f.root f.chunk.toNat f.byt f.prf
def fraM (f : Frm) : Fra := ⟨f.frm.toNat, f.dst.toNat, conM f⟩
structure FrmOk (f : Frm) : Prop where
  seq : f.pSeq < 2 ^ 64
  inc : f.cInc < 2 ^ 64
  cnt : f.cCnt < 2 ^ 64
  upd : ∀ u, u ∈ f.pUpd → u.2.2 < 2 ^ 64
  sum : f.gos.sum.length = 32
  key : f.cKey.length = 32
  root : f.root.length = 32
  prf : ∀ x, x ∈ f.prf → x.length = 32
theorem u8_back (x : UInt8) : UInt8.ofNat x.toNat = x := by simp
theorem of_may {f : Frm} (h : mayFM f) : ofFra (fraM f) = f := by
  rcases f with ⟨kind, frm, dst, pTo, pKind, pSeq, pAbout, pUpd, gos, cKey, cNode, cInc, cCnt, cGone, att, root, chunk, byt, prf⟩
  obtain ⟨⟨a1, _⟩, ⟨b1, _⟩, _, he, hk⟩ := h
  simp only at a1 b1 hk
  have ea : ((frm.toNat : Nat) : Int) = frm := Int.toNat_of_nonneg a1
  have eb : ((dst.toNat : Nat) : Int) = dst := Int.toNat_of_nonneg b1
  rcases hk with ⟨k, hto, _, hab, _, hu⟩ | ⟨k, hm⟩ | ⟨k, hn, _⟩ | ⟨k, _⟩ | ⟨k, hc, _⟩ | ⟨k, ⟨hc, _⟩, _⟩
  · subst k
    have hl : (pUpd.map fun u => (⟨u.1.toNat, u.2.1.toNat, u.2.2⟩ : Upd)).map (fun u => (((u.node : Nat) : Int), UInt8.ofNat u.st, u.inc)) = pUpd := by
      rw [List.map_map]
      refine (List.map_congr_left fun u hu' => ?_).trans (List.map_id _)
      show (((u.1.toNat : Nat) : Int), UInt8.ofNat u.2.1.toNat, u.2.2) = u
      rw [u8_back, Int.toNat_of_nonneg (hu u hu').1.1]
    have hx : ((pAbout.toNat : Nat) : Int) = pAbout := Int.toNat_of_nonneg hab.1
    refine Eq.trans ?_ he.symm
    show ofCon frm.toNat dst.toNat (.probe pKind.toNat pSeq pAbout.toNat (pUpd.map fun u => ⟨u.1.toNat, u.2.1.toNat, u.2.2⟩)) = _
    simp only [ofCon, hl, hx, ea, eb, u8_back, hto]
    rfl
  · subst k
    obtain ⟨gk, gp, gs, gn, gi, ga⟩ := gos
    obtain ⟨_, g0, _, _, hg⟩ := hm
    refine Eq.trans ?_ he.symm
    rcases hg with ⟨rfl, hi, hs⟩ | ⟨rfl, _, _, hz, hc⟩
    · simp only at hi hs g0
      subst hi hs
      show ofCon frm.toNat dst.toNat (.sum gp gs gn.toNat) = _
      simp only [ofCon, ea, eb, Int.toNat_of_nonneg g0]
      rfl
    · simp only at hz hc
      subst hz hc
      show ofCon frm.toNat dst.toNat (.items 2 gp gi ga) = _
      simp only [ofCon, ea, eb]
      rfl
  · subst k
    refine Eq.trans ?_ he.symm
    show ofCon frm.toNat dst.toNat (.claim cKey cInc cCnt cGone) = _
    simp only [ofCon, ea, eb, hn]
    rfl
  · subst k
    refine Eq.trans ?_ he.symm
    show ofCon frm.toNat dst.toNat (.result att) = _
    simp only [ofCon, ea, eb]
    rfl
  · subst k
    refine Eq.trans ?_ he.symm
    show ofCon frm.toNat dst.toNat (.want root chunk.toNat) = _
    simp only [ofCon, ea, eb, Int.toNat_of_nonneg hc]
    rfl
  · subst k
    refine Eq.trans ?_ he.symm
    show ofCon frm.toNat dst.toNat (.chunk root chunk.toNat byt prf) = _
    simp only [ofCon, ea, eb, Int.toNat_of_nonneg hc]
    rfl
theorem dom_may {f : Frm} (h : mayFM f) (o : FrmOk f) : (fraM f).frm ≤ 2 ^ 30 ∧ (fraM f).dst ≤ 2 ^ 30 ∧ domC (fraM f).con := by
  obtain ⟨⟨a1, a2⟩, ⟨b1, b2⟩, _, _, hk⟩ := h
  refine ⟨show f.frm.toNat ≤ 2 ^ 30 by omega, show f.dst.toNat ≤ 2 ^ 30 by omega, ?_⟩
  show domC (conM f)
  unfold conM
  rcases hk with ⟨k, _, hpk, hab, hl, hu⟩ | ⟨k, hm⟩ | ⟨k, _⟩ | ⟨k, hr⟩ | ⟨k, hc, hc2⟩ | ⟨k, ⟨hc, hc2⟩, hb, hp⟩
  · rw [if_pos k]
    refine ⟨by omega, o.seq, ?_, ?_, fun u hu' => ?_⟩
    · have := hab.2
      omega
    · rw [List.length_map]
      omega
    · obtain ⟨v, hv, rfl⟩ := List.mem_map.1 hu'
      obtain ⟨⟨_, q1⟩, ⟨_, q2⟩, _⟩ := hu v hv
      exact ⟨show v.1.toNat ≤ 2 ^ 30 by omega, show v.2.1.toNat ≤ 255 by omega, o.upd v hv⟩
  · rw [if_neg (by rw [k]; decide), if_pos k]
    obtain ⟨hp, g0, g2, hi8, hg⟩ := hm
    have hpl := pre_len hp
    split
    · exact ⟨by omega, o.sum, by omega⟩
    · rename_i hk1
      refine ⟨⟨?_, fun e => hk1 (UInt8.toNat_inj.1 e)⟩, by omega, by omega, fun x hx => ?_⟩
      · have := f.gos.kind.toNat_lt
        omega
      · rcases hg with ⟨e, _⟩ | ⟨_, hx2, _⟩
        · exact absurd e hk1
        · exact (hx2 x hx).1
  · rw [if_neg (by rw [k]; decide), if_neg (by rw [k]; decide), if_pos k]
    exact ⟨o.key, o.inc, o.cnt⟩
  · rw [if_neg (by rw [k]; decide), if_neg (by rw [k]; decide), if_neg (by rw [k]; decide), if_pos k]
    exact hr
  · rw [if_neg (by rw [k]; decide), if_neg (by rw [k]; decide), if_neg (by rw [k]; decide), if_neg (by rw [k]; decide), if_pos k]
    exact ⟨o.root, by omega⟩
  · rw [if_neg (by rw [k]; decide), if_neg (by rw [k]; decide), if_neg (by rw [k]; decide), if_neg (by rw [k]; decide), if_neg (by rw [k]; decide)]
    exact ⟨o.root, by omega, by omega, by omega, o.prf⟩
theorem fra_of {x : Fra} (d : x.frm ≤ 2 ^ 30 ∧ x.dst ≤ 2 ^ 30 ∧ domC x.con) (h : mayFM (ofFra x)) : fraM (ofFra x) = x := by
  obtain ⟨a, b, c⟩ := x
  obtain ⟨_, _, d⟩ := d
  have u8 : ∀ k : Nat, k ≤ 255 → (UInt8.ofNat k).toNat = k := fun k hk => by simp; omega
  cases c with
  | probe k s m l =>
    have hl : (l.map fun u => (((u.node : Nat) : Int), UInt8.ofNat u.st, u.inc)).map (fun u => (⟨u.1.toNat, u.2.1.toNat, u.2.2⟩ : Upd)) = l := by
      rw [List.map_map]
      refine (List.map_congr_left fun u hu => ?_).trans (List.map_id _)
      show (⟨((u.node : Nat) : Int).toNat, (UInt8.ofNat u.st).toNat, u.inc⟩ : Upd) = u
      rw [u8 _ (d.2.2.2.2 u hu).2.1, Int.toNat_natCast]
    show (⟨((a : Nat) : Int).toNat, ((b : Nat) : Int).toNat, .probe (UInt8.ofNat k).toNat s ((m : Nat) : Int).toNat ((l.map fun u => (((u.node : Nat) : Int), UInt8.ofNat u.st, u.inc)).map (fun u => (⟨u.1.toNat, u.2.1.toNat, u.2.2⟩ : Upd)))⟩ : Fra) = _
    rw [hl, u8 _ d.1, Int.toNat_natCast, Int.toNat_natCast, Int.toNat_natCast]
  | sum p e n =>
    show (⟨((a : Nat) : Int).toNat, ((b : Nat) : Int).toNat, .sum p e ((n : Nat) : Int).toNat⟩ : Fra) = _
    rw [Int.toNat_natCast, Int.toNat_natCast, Int.toNat_natCast]
  | items k p l s =>
    have hk : UInt8.ofNat k ≠ 1 := fun e => d.1.2 (by
      have := congrArg UInt8.toNat e
      rw [u8 _ d.1.1] at this
      exact this)
    show (⟨((a : Nat) : Int).toNat, ((b : Nat) : Int).toNat, if UInt8.ofNat k = 1 then _ else .items (UInt8.ofNat k).toNat p l s⟩ : Fra) = _
    rw [if_neg hk, u8 _ d.1.1, Int.toNat_natCast, Int.toNat_natCast]
  | claim k i n g =>
    show (⟨((a : Nat) : Int).toNat, ((b : Nat) : Int).toNat, .claim k i n g⟩ : Fra) = _
    rw [Int.toNat_natCast, Int.toNat_natCast]
  | result x =>
    show (⟨((a : Nat) : Int).toNat, ((b : Nat) : Int).toNat, .result x⟩ : Fra) = _
    rw [Int.toNat_natCast, Int.toNat_natCast]
  | want r c =>
    show (⟨((a : Nat) : Int).toNat, ((b : Nat) : Int).toNat, .want r ((c : Nat) : Int).toNat⟩ : Fra) = _
    rw [Int.toNat_natCast, Int.toNat_natCast, Int.toNat_natCast]
  | chunk r c y p =>
    show (⟨((a : Nat) : Int).toNat, ((b : Nat) : Int).toNat, .chunk r ((c : Nat) : Int).toNat y p⟩ : Fra) = _
    rw [Int.toNat_natCast, Int.toNat_natCast, Int.toNat_natCast]
def bodyFM (f : Frm) : List UInt8 := bodyF (fraM f)
theorem read_body {f : Frm} (h : mayFM f) (o : FrmOk f) (r : List UInt8) : readF (bodyFM f ++ r) = some (fraM f, r) := codecF.rt _ r (dom_may h o)
theorem readF_more {b r : List UInt8} {x : Fra} (h : readF b = some (x, r)) (t : List UInt8) : readF (b ++ t) = some (x, r ++ t) := by
  obtain ⟨e, d⟩ := codecF.un b x r h
  rw [e, List.append_assoc]
  exact codecF.rt x (r ++ t) d
end Mur
namespace Mur
open Go Go.RowKit
inductive Told
  | ok (f : Frm)
  | long
  | form
  | tag
section
variable (T : List UInt8 → List UInt8)
def bytesFM (f : Frm) : List UInt8 := bodyFM f ++ (if f.kind.toNat ≤ 4 then T (bodyFM f) else [])
open Classical in
noncomputable def told (b : List UInt8) (f : Frm) (k : Nat) (r : List UInt8) : Told :=
  if mayFM f ∧ r.length = (if k ≤ 4 then 32 else 0) then (if k ≤ 4 ∧ r ≠ T (b.take (b.length - 32)) then .tag else .ok f) else .form
noncomputable def readAll (b : List UInt8) : Told :=
  if 2000 < b.length then .long
  else match readF b with
    | none => .form
    | some (x, r) => told T b (ofFra x) x.con.kind r
theorem readAll_some {b r : List UInt8} {x : Fra} (hl : b.length ≤ 2000) (h : readF b = some (x, r)) : readAll T b = told T b (ofFra x) x.con.kind r := by
  unfold readAll
  rw [if_neg (by omega), h]
theorem kind_con {f : Frm} (h : mayFM f) : (fraM f).con.kind = f.kind.toNat := by
  obtain ⟨_, _, _, _, hk⟩ := h
  show (conM f).kind = _
  unfold conM
  rcases hk with ⟨k, _⟩ | ⟨k, _⟩ | ⟨k, _⟩ | ⟨k, _⟩ | ⟨k, _⟩ | ⟨k, _⟩
  · rw [if_pos k, k]
    rfl
  · rw [if_neg (by rw [k]; decide), if_pos k, k]
    split <;> rfl
  · rw [if_neg (by rw [k]; decide), if_neg (by rw [k]; decide), if_pos k, k]
    rfl
  · rw [if_neg (by rw [k]; decide), if_neg (by rw [k]; decide), if_neg (by rw [k]; decide), if_pos k, k]
    rfl
  · rw [if_neg (by rw [k]; decide), if_neg (by rw [k]; decide), if_neg (by rw [k]; decide), if_neg (by rw [k]; decide), if_pos k, k]
    rfl
  · rw [if_neg (by rw [k]; decide), if_neg (by rw [k]; decide), if_neg (by rw [k]; decide), if_neg (by rw [k]; decide), if_neg (by rw [k]; decide), k]
    rfl
theorem kind_of (x : Fra) : (ofFra x).kind.toNat = x.con.kind := by
  obtain ⟨a, b, c⟩ := x
  cases c <;> rfl
variable {T}
theorem read_bytes {f : Frm} (T' : List UInt8 → List UInt8) (h : mayFM f) (o : FrmOk f) (hT : ∀ b, (T b).length = 32) (hl : (bytesFM T f).length ≤ 2000) :
    readAll T' (bytesFM T f) = if f.kind.toNat ≤ 4 ∧ T (bodyFM f) ≠ T' (bodyFM f) then .tag else .ok f := by
  rw [readAll_some T' hl (show readF (bytesFM T f) = some (fraM f, if f.kind.toNat ≤ 4 then T (bodyFM f) else []) from read_body h o _), of_may h, kind_con h]
  unfold told
  by_cases hk : f.kind.toNat ≤ 4
  · rw [if_pos hk, if_pos ⟨h, by rw [if_pos hk]; exact hT _⟩]
    have e0 : bytesFM T f = bodyFM f ++ T (bodyFM f) := by
      unfold bytesFM
      rw [if_pos hk]
    have e : (bytesFM T f).take ((bytesFM T f).length - 32) = bodyFM f := by
      rw [e0, List.length_append, hT, Nat.add_sub_cancel]
      exact List.take_left' rfl
    rw [e]
  · rw [if_neg hk, if_pos ⟨h, by rw [if_neg hk]; rfl⟩, if_neg fun q => hk q.1, if_neg fun q => hk q.1]
theorem bytes_read {b : List UInt8} {f : Frm} (h : readAll T b = .ok f) : mayFM f ∧ bytesFM T f = b ∧ ∃ x r, readF b = some (x, r) ∧ f = ofFra x ∧ fraM f = x := by
  by_cases hl : 2000 < b.length
  · unfold readAll at h
    rw [if_pos hl] at h
    cases h
  cases hr : readF b with
  | none =>
    unfold readAll at h
    rw [if_neg hl, hr] at h
    cases h
  | some y =>
    obtain ⟨x, r⟩ := y
    rw [readAll_some T (by omega) hr] at h
    unfold told at h
    by_cases hm : mayFM (ofFra x) ∧ r.length = (if x.con.kind ≤ 4 then 32 else 0)
    · rw [if_pos hm] at h
      by_cases ht : x.con.kind ≤ 4 ∧ r ≠ T (b.take (b.length - 32))
      · rw [if_pos ht] at h
        cases h
      · rw [if_neg ht] at h
        injection h with h
        subst h
        obtain ⟨e, d⟩ := codecF.un b x r hr
        have hx : fraM (ofFra x) = x := fra_of d hm.1
        refine ⟨hm.1, ?_, x, r, rfl, rfl, hx⟩
        unfold bytesFM bodyFM
        rw [hx, kind_of]
        by_cases hk : x.con.kind ≤ 4
        · rw [if_pos hk] at hm ⊢
          have h2 : r = T (b.take (b.length - 32)) := Classical.byContradiction fun q => ht ⟨hk, q⟩
          have h3 : b.take (b.length - 32) = bodyF x := by
            rw [e, List.length_append, hm.2, Nat.add_sub_cancel]
            exact List.take_left' rfl
          rw [h3] at h2
          rw [← h2, ← e]
        · rw [if_neg hk] at hm ⊢
          rw [e, List.eq_nil_of_length_eq_zero hm.2]
    · rw [if_neg hm] at h
      cases h
end
end Mur
namespace Mur
open Go Go.RowKit
variable {T : List UInt8 → List UInt8}
theorem told_form {b r : List UInt8} {f : Frm} {k : Nat} (h : r.length ≠ (if k ≤ 4 then 32 else 0)) : told T b f k r = .form := by
  unfold told
  rw [if_neg fun q => h q.2]
theorem readAll_none {b : List UInt8} (hl : b.length ≤ 2000) (h : readF b = none) : readAll T b = .form := by
  unfold readAll
  rw [if_neg (by omega), h]
theorem readAll_long {b : List UInt8} (hl : 2000 < b.length) : readAll T b = .long := by
  unfold readAll
  rw [if_pos hl]
theorem read_ends {b : List UInt8} {f : Frm} (h : readAll T b = .ok f) : b.length ≤ 2000 ∧ ∃ x r, readF b = some (x, r) ∧ r.length = (if x.con.kind ≤ 4 then 32 else 0) := by
  by_cases hl : 2000 < b.length
  · rw [readAll_long hl] at h
    cases h
  refine ⟨by omega, ?_⟩
  cases hr : readF b with
  | none =>
    rw [readAll_none (by omega) hr] at h
    cases h
  | some y =>
    obtain ⟨x, r⟩ := y
    refine ⟨x, r, rfl, Classical.byContradiction fun q => ?_⟩
    rw [readAll_some T (by omega) hr, told_form q] at h
    cases h
theorem read_more {b : List UInt8} {f : Frm} (h : readAll T b = .ok f) (y : UInt8) : readAll T (b ++ [y]) = if 2000 < b.length + 1 then .long else .form := by
  obtain ⟨_, x, r, h1, h2⟩ := read_ends h
  split
  · exact readAll_long (by simpa using by omega)
  · rw [readAll_some T (by simp; omega) (readF_more h1 [y])]
    refine told_form ?_
    rw [List.length_append, h2]
    simp
theorem read_less {b : List UInt8} {y : UInt8} {f : Frm} (h : readAll T (b ++ [y]) = .ok f) : readAll T b = .form := by
  obtain ⟨hl, x, r, h1, h2⟩ := read_ends h
  rw [List.length_append] at hl
  cases hb : readF b with
  | none => exact readAll_none (by omega) hb
  | some z =>
    obtain ⟨x', r'⟩ := z
    have h3 := readF_more hb [y]
    rw [h1] at h3
    injection h3 with h3
    injection h3 with h4 h5
    subst h4
    rw [readAll_some T (by omega) hb]
    refine told_form fun q => ?_
    rw [h5, List.length_append, q] at h2
    simp at h2
-- how long
theorem flat_le {α : Type} (f : α → List UInt8) (k : Nat) : ∀ l : List α, (∀ x, x ∈ l → (f x).length ≤ k) → (l.map f).flatten.length ≤ l.length * k
  | [], _ => by simp
  | x :: l, h => by
    have h1 := h x (by simp)
    have h2 := flat_le f k l fun y hy => h y (List.mem_cons_of_mem _ hy)
    rw [List.map_cons, List.flatten_cons, List.length_append, List.length_cons, Nat.add_mul]
    omega
theorem formN_le {n : Nat} (h : n < 2 ^ 64) : (formN n).length ≤ 9 := formN_len h
theorem body_le {f : Frm} (h : mayFM f) (o : FrmOk f) : (bodyFM f).length ≤ 1900 := by
  have hd := dom_may h o
  obtain ⟨⟨a1, a2⟩, ⟨b1, b2⟩, _, _, hk⟩ := h
  have n1 : (formN (fraM f).con.kind).length ≤ 9 := formN_le (by cases (fraM f).con <;> simp [Cont.kind])
  have n2 := formN_le (show (fraM f).frm < 2 ^ 64 by omega)
  have n3 := formN_le (show (fraM f).dst < 2 ^ 64 by omega)
  have key : (encC (fraM f).con).length ≤ 1200 := by
    have hc : (fraM f).con = conM f := rfl
    rw [hc] at hd ⊢
    have hD := hd.2.2
    unfold conM at hD ⊢
    rcases hk with ⟨k, _, hpk, hab, hl, hu⟩ | ⟨k, hm⟩ | ⟨k, _⟩ | ⟨k, hr⟩ | ⟨k, hc, hc2⟩ | ⟨k, ⟨hc, hc2⟩, hb, hp⟩
    · rw [if_pos k] at hD ⊢
      have e := flat_le encU 27 (f.pUpd.map fun u => (⟨u.1.toNat, u.2.1.toNat, u.2.2⟩ : Upd)) fun u hu' => by
        have h3 := hD.2.2.2.2 u hu'
        have q1 := formN_le (show u.node < 2 ^ 64 by omega)
        have q2 := formN_le (show u.st < 2 ^ 64 by omega)
        have q3 := formN_le h3.2.2
        simp only [encU, List.length_append]
        omega
      rw [List.length_map] at e
      have q1 := formN_le (show f.pKind.toNat < 2 ^ 64 by omega)
      have q2 := formN_le hD.2.1
      have q3 := formN_le (show f.pAbout.toNat < 2 ^ 64 by have := hD.2.2.1; omega)
      have q4 := formN_le (show (f.pUpd.map fun u => (⟨u.1.toNat, u.2.1.toNat, u.2.2⟩ : Upd)).length < 2 ^ 64 by rw [List.length_map]; omega)
      simp only [encC, List.length_append]
      omega
    · rw [if_neg (by rw [k]; decide), if_pos k] at hD ⊢
      obtain ⟨hp, g0, g2, hi8, _⟩ := hm
      have hpl := pre_len hp
      have q1 := formN_le (show f.gos.pre.length < 2 ^ 64 by omega)
      split
      · have q2 := formN_le (show f.gos.cnt.toNat < 2 ^ 64 by omega)
        have q3 := formN_le (show 1 < 2 ^ 64 by decide)
        have q4 := o.sum
        simp only [encC, List.length_append]
        omega
      · have q2 := formN_le (show f.gos.kind.toNat < 2 ^ 64 by have := f.gos.kind.toNat_lt; omega)
        have q3 := formN_le (show f.gos.items.length < 2 ^ 64 by omega)
        have q4 := formN_le (show flagN f.gos.ans < 2 ^ 64 by cases f.gos.ans <;> decide)
        have e := flat_le Att.raw 104 f.gos.items fun x _ => by rw [att_raw_len]; exact Nat.le_refl _
        simp only [encC, List.length_append]
        omega
    · rw [if_neg (by rw [k]; decide), if_neg (by rw [k]; decide), if_pos k] at hD ⊢
      have q1 := formN_le hD.2.1
      have q2 := formN_le hD.2.2
      have q3 := formN_le (show flagN f.cGone < 2 ^ 64 by cases f.cGone <;> decide)
      have q4 := o.key
      simp only [encC, List.length_append]
      omega
    · rw [if_neg (by rw [k]; decide), if_neg (by rw [k]; decide), if_neg (by rw [k]; decide), if_pos k]
      have := att_raw_len f.att
      simp only [encC]
      omega
    · rw [if_neg (by rw [k]; decide), if_neg (by rw [k]; decide), if_neg (by rw [k]; decide), if_neg (by rw [k]; decide), if_pos k]
      have q1 := formN_le (show f.chunk.toNat < 2 ^ 64 by omega)
      have q4 := o.root
      simp only [encC, List.length_append]
      omega
    · rw [if_neg (by rw [k]; decide), if_neg (by rw [k]; decide), if_neg (by rw [k]; decide), if_neg (by rw [k]; decide), if_neg (by rw [k]; decide)]
      have q1 := formN_le (show f.chunk.toNat < 2 ^ 64 by omega)
      have q2 := formN_le (show f.byt.length < 2 ^ 64 by omega)
      have q3 := formN_le (show f.prf.length < 2 ^ 64 by omega)
      have q4 := o.root
      have e := flat_le (fun x : List UInt8 => x) 32 f.prf fun x hx => by rw [o.prf x hx]; exact Nat.le_refl _
      simp only [encC, List.length_append]
      omega
  unfold bodyFM bodyF
  simp only [List.length_append]
  omega
end Mur
namespace Mur
open Go Go.RowKit
section
variable {α β : Type}
structure Step (p : Prs α) (b : List UInt8) (at_ : Nat) (bad : Bool) (at2 : Nat) (bad2 : Bool) (x : α) : Prop where
  ok : bad2 = false → bad = false ∧ p (b.drop at_) = some (x, b.drop at2)
  no : bad2 = true → bad = true ∨ p (b.drop at_) = none
variable {p : Prs α} {q : Prs β} {b : List UInt8} {at_ at1 at2 : Nat} {bad bad1 bad2 : Bool} {x : α} {y : β}
theorem Step.of_ok (h : p (b.drop at_) = some (x, b.drop at1)) : Step p b at_ bad at1 bad x := ⟨fun e => ⟨e, h⟩, fun e => .inl e⟩
theorem Step.of_no (h : p (b.drop at_) = none) (x : α) : Step p b at_ bad at_ true x := ⟨fun e => (by cases e), fun _ => .inr h⟩
theorem Step.if_ok {ok : α → Bool} (h : Step p b at_ bad at1 bad1 x) (hk : ok x = true) : Step (pIf p ok) b at_ bad at1 bad1 x := by
  refine ⟨fun e => ⟨(h.ok e).1, ?_⟩, fun e => (h.no e).imp id fun h2 => ?_⟩
  · unfold pIf
    rw [(h.ok e).2, Option.bind_some, if_pos hk]
  · unfold pIf
    rw [h2]
    rfl
theorem Step.if_no {ok : α → Bool} (h : Step p b at_ bad at1 bad1 x) (hk : ok x = false) (z : α) : Step (pIf p ok) b at_ bad at1 true z := by
  refine ⟨fun e => (by cases e), fun _ => ?_⟩
  cases bad1 with
  | true => exact (h.no rfl).imp id fun h2 => by unfold pIf; rw [h2]; rfl
  | false =>
    refine .inr ?_
    unfold pIf
    rw [(h.ok rfl).2, Option.bind_some]
    simp [hk]
theorem Step.seq (h : Step p b at_ bad at1 bad1 x) (k : Step q b at1 bad1 at2 bad2 y) : Step (pSeq p q) b at_ bad at2 bad2 (x, y) := by
  refine ⟨fun e => ?_, fun e => ?_⟩
  · have h1 := k.ok e
    have h2 := h.ok h1.1
    refine ⟨h2.1, ?_⟩
    unfold pSeq
    rw [h2.2, Option.bind_some, h1.2]
    rfl
  · cases bad1 with
    | true => exact (h.no rfl).imp id fun h2 => by unfold pSeq; rw [h2]; rfl
    | false =>
      refine .inr ?_
      have h2 := h.ok rfl
      rcases k.no e with h3 | h3
      · cases h3
      · unfold pSeq
        rw [h2.2, Option.bind_some, h3]
        rfl
theorem Step.map (h : Step p b at_ bad at1 bad1 x) (f : α → β) : Step (fun c => (p c).map fun y => (f y.1, y.2)) b at_ bad at1 bad1 (f x) :=
  ⟨fun e => ⟨(h.ok e).1, by rw [(h.ok e).2]; rfl⟩, fun e => (h.no e).imp id fun h2 => by rw [h2]; rfl⟩
theorem Step.map' (h : Step p b at_ bad at1 bad1 x) (f : α → β) {z : β} (hz : f x = z) : Step (fun c => (p c).map fun y => (f y.1, y.2)) b at_ bad at1 bad1 z := hz ▸ h.map f
-- so many of them
theorem pMany_none {k : Nat} {c : List UInt8} (h : pMany p k c = none) : ∀ N, k ≤ N → pMany p N c = none := by
  induction k generalizing c with
  | zero => cases h
  | succ k ih =>
    intro N hN
    obtain ⟨M, rfl⟩ : ∃ M, N = M + 1 := ⟨N - 1, by omega⟩
    unfold pMany at h ⊢
    cases hp : p c with
    | none => rfl
    | some y =>
      rw [hp, Option.bind_some] at h
      rw [Option.bind_some, ih (Option.map_eq_none_iff.1 h) M (by omega)]
      rfl
theorem pMany_snoc : ∀ {k : Nat} {c r : List UInt8} {l : List α}, pMany p k c = some (l, r) → pMany p (k + 1) c = (p r).map fun y => (l ++ [y.1], y.2)
  | 0, c, r, l, h => by
    cases h
    unfold pMany
    cases hp : p c <;> rfl
  | k + 1, c, r, l, h => by
    unfold pMany at h
    obtain ⟨⟨x1, r1⟩, h1, h2⟩ := Option.bind_eq_some_iff.1 h
    obtain ⟨⟨l2, r2⟩, h3, h4⟩ := Option.map_eq_some_iff.1 h2
    simp only [Prod.mk.injEq] at h4
    obtain ⟨rfl, rfl⟩ := h4
    have h5 := pMany_snoc h3
    show (p c).bind _ = _
    rw [h1, Option.bind_some]
    show (pMany p (k + 1) r1).map _ = _
    rw [h5]
    cases hp : p r2 <;> rfl
theorem pMany_le (hp : ∀ c x r, p c = some (x, r) → r.length < c.length) : ∀ {k : Nat} {c r : List UInt8} {l : List α}, pMany p k c = some (l, r) → k ≤ c.length
  | 0, _, _, _, _ => Nat.zero_le _
  | k + 1, c, r, l, h => by
    unfold pMany at h
    obtain ⟨⟨x1, r1⟩, h1, h2⟩ := Option.bind_eq_some_iff.1 h
    obtain ⟨⟨l2, r2⟩, h3, _⟩ := Option.map_eq_some_iff.1 h2
    have h5 : k ≤ r1.length := pMany_le hp h3
    have h6 := hp _ _ _ h1
    omega
structure Some_ (p : Prs α) (b : List UInt8) (at_ at2 : Nat) (bad2 : Bool) (l : List α) : Prop where
  ok : bad2 = false → pMany p l.length (b.drop at_) = some (l, b.drop at2)
  no : bad2 = true → ∀ N, l.length ≤ N → pMany p N (b.drop at_) = none
theorem Some_.nil : Some_ p b at_ at_ false [] := ⟨fun _ => rfl, fun e => (by cases e)⟩
theorem Some_.snoc {l : List α} (h : Some_ p b at_ at1 false l) (k : Step p b at1 false at2 bad2 x) : Some_ p b at_ at2 bad2 (l ++ [x]) := by
  have h1 := h.ok rfl
  have h2 := pMany_snoc h1
  refine ⟨fun e => ?_, fun e N hN => ?_⟩
  · rw [List.length_append]
    show pMany p (l.length + 1) _ = _
    rw [h2, (k.ok e).2]
    rfl
  · rw [List.length_append] at hN
    refine pMany_none (k := l.length + 1) ?_ N hN
    rw [h2]
    rcases k.no e with h3 | h3
    · cases h3
    · rw [h3]
      rfl
theorem Step.many {l : List α} {N : Nat} (h : Step readI b at_ bad at1 false N) (k : Some_ p b at1 at2 bad2 l) (hl : l.length ≤ N) (hf : bad2 = false → l.length = N) : Step (readL p) b at_ bad at2 bad2 l := by
  have h1 := h.ok rfl
  refine ⟨fun e => ⟨h1.1, ?_⟩, fun e => .inr ?_⟩
  · unfold readL
    rw [h1.2, Option.bind_some]
    show pMany p N _ = _
    rw [← hf e]
    exact k.ok e
  · unfold readL
    rw [h1.2, Option.bind_some]
    exact k.no e N hl
theorem Step.many_bad {N : Nat} (h : Step readI b at_ bad at1 true N) (l : List α) : Step (readL p) b at_ bad at1 true l := ⟨fun e => (by cases e), fun _ => (h.no rfl).imp id fun h2 => by unfold readL; rw [h2]; rfl⟩
theorem Step.many_big (hp : ∀ c x r, p c = some (x, r) → r.length < c.length) {N : Nat} (h : Step readI b at_ bad at1 bad1 N) (hN : b.length < N) (l : List α) : Step (readL p) b at_ bad at1 true l := by
  cases bad1 with
  | true => exact h.many_bad l
  | false =>
    refine ⟨fun e => (by cases e), fun _ => .inr ?_⟩
    unfold readL
    rw [(h.ok rfl).2, Option.bind_some]
    show pMany p N _ = none
    cases hm : pMany p N (b.drop at1) with
    | none => rfl
    | some y =>
      have := pMany_le hp hm
      rw [List.length_drop] at this
      omega
end
-- bytes
variable {b x : List UInt8} {at_ at1 nx v : Nat} {bad bad1 : Bool}
theorem readB_ok (h : readN (b.drop at_) = some (v, b.drop nx)) (hv : nx + v ≤ b.length) : readB (b.drop at_) = some ((b.take (nx + v)).drop nx, b.drop (nx + v)) := by
  unfold readB
  rw [h, Option.bind_some]
  show readS v (b.drop nx) = _
  unfold readS
  rw [if_neg (by rw [List.length_drop]; omega), List.drop_drop, List.take_drop, Nat.add_comm]
theorem readB_no (h : readN (b.drop at_) = none) : readB (b.drop at_) = none := by
  unfold readB
  rw [h]
  rfl
theorem readB_short (h : readN (b.drop at_) = some (v, b.drop nx)) (hn : nx ≤ b.length) (hv : b.length < nx + v) : readB (b.drop at_) = none := by
  unfold readB
  rw [h, Option.bind_some]
  show readS v (b.drop nx) = _
  unfold readS
  rw [if_pos (by rw [List.length_drop]; omega)]
theorem readS_ok {k : Nat} (h : at_ + k ≤ b.length) : readS k (b.drop at_) = some ((b.take (at_ + k)).drop at_, b.drop (at_ + k)) := by
  unfold readS
  rw [if_neg (by rw [List.length_drop]; omega), List.drop_drop, List.take_drop]
theorem readS_no {k : Nat} (h : b.length < at_ + k) (h2 : at_ ≤ b.length) : readS k (b.drop at_) = none := by
  unfold readS
  rw [if_pos (by rw [List.length_drop]; omega)]
theorem Step.att_ok (h : Step (readS 104) b at_ bad at1 bad1 x) (hx : x.length = 104) (hV : 1 ≤ be8 ((x.take 72).drop 64) ∧ be8 ((x.take 72).drop 64) ≤ 5000) : Step readA b at_ bad at1 bad1 (attOf x hx hV.2) := by
  refine ⟨fun e => ⟨(h.ok e).1, ?_⟩, fun e => (h.no e).imp id fun h2 => ?_⟩
  · have h1 := (codecS 104).un _ _ _ (h.ok e).2
    have e1 : (b.drop at_).take 104 = x := by rw [h1.1, List.take_left' hx]
    have e2 : (b.drop at_).drop 104 = b.drop at1 := by rw [h1.1, List.drop_left' hx]
    unfold readA
    rw [e2]
    subst e1
    rw [dif_pos hx, dif_pos hV]
  · unfold readS at h2
    split at h2
    · rename_i hl
      unfold readA
      rw [dif_neg (by rw [List.length_take]; omega)]
    · cases h2
theorem Step.att_no (h : Step (readS 104) b at_ bad at1 bad1 x) (hx : x.length = 104) (hV : ¬ (1 ≤ be8 ((x.take 72).drop 64) ∧ be8 ((x.take 72).drop 64) ≤ 5000)) (z : Att) : Step readA b at_ bad at1 true z := by
  refine ⟨fun e => (by cases e), fun _ => ?_⟩
  cases bad1 with
  | true =>
    refine (h.no rfl).imp id fun h2 => ?_
    unfold readS at h2
    split at h2
    · rename_i hl
      unfold readA
      rw [dif_neg (by rw [List.length_take]; omega)]
    · cases h2
  | false =>
    refine .inr ?_
    have h1 := (codecS 104).un _ _ _ (h.ok rfl).2
    have e1 : (b.drop at_).take 104 = x := by rw [h1.1, List.take_left' hx]
    unfold readA
    subst e1
    rw [dif_pos hx, dif_neg hV]
-- each takes a byte at least
theorem readA_less (c : List UInt8) (x : Att) (r : List UInt8) (h : readA c = some (x, r)) : r.length < c.length := by
  have h1 := (codecA.un c x r h).1
  have h2 := att_raw_len x
  rw [h1, List.length_append]
  omega
theorem formN_pos (n : Nat) : 0 < (formN n).length := by simp [formN]
theorem readU_less (c : List UInt8) (x : Upd) (r : List UInt8) (h : readU c = some (x, r)) : r.length < c.length := by
  have h1 := (codecU.un c x r h).1
  have h2 := formN_pos x.node
  rw [h1, List.length_append]
  unfold encU
  rw [List.length_append]
  omega
theorem readD_less (c : List UInt8) (x : List UInt8) (r : List UInt8) (h : readS 32 c = some (x, r)) : r.length < c.length := by
  have h1 := (codecS 32).un c x r h
  rw [h1.1, List.length_append, h1.2]
  omega
end Mur
namespace Mur
open Go Go.RowKit
def FormAt (N m i : Nat) (tl : List UInt8) : Prop := digs N = digs m ++ tl ∧ tl.length = i
theorem formAt_zero (N : Nat) : FormAt N N 0 [] := ⟨by simp, rfl⟩
theorem formAt_step {N m i : Nat} {tl : List UInt8} (h : FormAt N m i tl) (hm : m ≠ 0) : FormAt N (m / 256) (i + 1) (UInt8.ofNat (m % 256) :: tl) := by
  refine ⟨?_, by rw [List.length_cons, h.2]⟩
  rw [h.1, digs_pos hm, List.append_assoc]
  rfl
theorem formAt_end {N i : Nat} {tl : List UInt8} (h : FormAt N 0 i tl) : formN N = UInt8.ofNat i :: tl := by
  have e : digs N = tl := by rw [h.1, digs_zero, List.nil_append]
  unfold formN
  rw [e, h.2]
theorem formAt_le {N m i : Nat} {tl : List UInt8} (h : FormAt N m i tl) (hN : N < 2 ^ 64) : i ≤ 8 ∧ (m ≠ 0 → i < 8) := by
  have h1 := digs_len (n := N) (k := 8) (by simpa using hN)
  rw [h.1, List.length_append, h.2] at h1
  refine ⟨by omega, fun hm => ?_⟩
  rw [digs_pos hm, List.length_append] at h1
  simp at h1
  omega
def nineF (i : Nat) (tl : List UInt8) : List UInt8 := List.replicate (9 - i) 0 ++ tl
theorem nineF_len {i : Nat} {tl : List UInt8} (h : tl.length = i) (hi : i ≤ 9) : (nineF i tl).length = 9 := by
  simp [nineF, h]
  omega
theorem nineF_set {i : Nat} {tl : List UInt8} (x : UInt8) (hi : i < 9) : (nineF i tl).set (9 - (i + 1)) x = nineF (i + 1) (x :: tl) := by
  unfold nineF
  have e : List.replicate (9 - i) (0 : UInt8) = List.replicate (9 - (i + 1)) 0 ++ [0] := by
    rw [show 9 - i = (9 - (i + 1)) + 1 by omega, List.replicate_succ']
  rw [e, List.append_assoc, List.set_append_right _ _ (by simp)]
  simp
theorem nineF_drop {i : Nat} {tl : List UInt8} : (nineF i tl).drop (9 - i) = tl := by
  unfold nineF
  exact List.drop_left' (by simp)
theorem beN_take {l : List UInt8} {i : Nat} {x : UInt8} (h : l[i]? = some x) : beN (l.take (i + 1)) = beN (l.take i) * 256 + x.toNat := by
  obtain ⟨hi, rfl⟩ := List.getElem?_eq_some_iff.1 h
  rw [List.take_succ_eq_append_getElem hi, beN_snoc]
end Mur
namespace Mur
open Go Go.RowKit Go.Lib
def Inc (p q : List UInt8) : Prop := ¬ p <+: q ∧ ¬ q <+: p
theorem Inc.symm {p q : List UInt8} (h : Inc p q) : Inc q p := ⟨h.2, h.1⟩
theorem Inc.snoc {p q : List UInt8} (h : Inc p q) (x : UInt8) : Inc (p ++ [x]) q := ⟨fun k => h.1 ((List.prefix_append p [x]).trans k), fun k => by
  rcases List.prefix_concat_iff.1 k with e | e
  · exact h.1 (by rw [e]; exact List.prefix_append p [x])
  · exact h.2 e⟩
structure Two (I : Bool → List Att) (U : List Att) : Prop where
  us : Sorted U
  ul : U.length ≤ 200
  uok : ∀ y, y ∈ U → may y.n
  is : ∀ b, Sorted (I b)
  iu : ∀ b x, x ∈ I b → x ∈ U
  ui : ∀ x, x ∈ U → x ∈ I false ∨ x ∈ I true
structure Inv (I : Bool → List Att) (U : List Att) (S : Bool → List Att) (post : List (Bool × Msg)) : Prop where
  srt : ∀ b, Sorted (S b)
  sub : ∀ b x, x ∈ S b → x ∈ U
  may_ : ∀ y, y ∈ post → mayM y.2
  sumd : ∀ y, y ∈ post → y.2.kind = 1 → y.2.sum = sumL y.2.pre (I !y.1) ∧ y.2.cnt = ((cntL y.2.pre (I !y.1) : Nat) : Int) ∧ ∀ b, belowL y.2.pre (S b) = belowL y.2.pre (I b)
  inc : post.Pairwise (fun x y => x.2.kind = 1 ∨ y.2.kind = 1 → Inc x.2.pre y.2.pre)
  its : ∀ y, y ∈ post → ∀ x, x ∈ y.2.items → x ∈ U
section
variable {I S : Bool → List Att} {U : List Att} {post post' rest : List (Bool × Msg)} {b : Bool} {m : Msg}
theorem Inv.len (h : Inv I U S post) (T : Two I U) (b : Bool) : (S b).length ≤ 200 := Nat.le_trans (nodup_le (h.srt b).nodup (h.sub b)) T.ul
theorem Inv.put (h : Inv I U S ((b, m) :: rest)) (M : List Msg) (hm : ∀ n, n ∈ M → mayM n) (hi : ∀ n, n ∈ M → ∀ x, x ∈ n.items → x ∈ U)
    (hs : ∀ n, n ∈ M → n.kind = 1 → n.sum = sumL n.pre (I b) ∧ n.cnt = ((cntL n.pre (I b) : Nat) : Int) ∧ ∀ c, belowL n.pre (S c) = belowL n.pre (I c))
    (hp : M.Pairwise (fun x y => x.kind = 1 ∨ y.kind = 1 → Inc x.pre y.pre)) (hq : ∀ n, n ∈ M → ∀ y, y ∈ rest → n.kind = 1 ∨ y.2.kind = 1 → Inc y.2.pre n.pre) : Inv I U S (rest ++ M.map fun n => (!b, n)) := by
  have hin := List.pairwise_cons.1 h.inc
  have hmem : ∀ y, y ∈ rest ++ (M.map fun n => (!b, n)) → y ∈ rest ∨ ∃ n, n ∈ M ∧ y = (!b, n) := fun y hy => (List.mem_append.1 hy).imp id fun k => by
    obtain ⟨n, hn, rfl⟩ := List.mem_map.1 k
    exact ⟨n, hn, rfl⟩
  refine ⟨h.srt, h.sub, fun y hy => ?_, fun y hy hk => ?_, ?_, fun y hy => ?_⟩
  · rcases hmem y hy with k | ⟨n, hn, rfl⟩
    · exact h.may_ y (List.mem_cons_of_mem _ k)
    · exact hm n hn
  · rcases hmem y hy with k | ⟨n, hn, rfl⟩
    · exact h.sumd y (List.mem_cons_of_mem _ k) hk
    · have := hs n hn hk
      simpa using this
  · refine List.pairwise_append.2 ⟨hin.2, List.pairwise_map.2 hp, fun y hy z hz => ?_⟩
    obtain ⟨n, hn, rfl⟩ := List.mem_map.1 hz
    exact fun q => hq n hn y hy q.symm
  · rcases hmem y hy with k | ⟨n, hn, rfl⟩
    · exact h.its y (List.mem_cons_of_mem _ k)
    · exact hi n hn
end
end Mur
namespace Mur
open Go Go.RowKit Go.Lib
section
variable {I S : Bool → List Att} {U : List Att} {rest : List (Bool × Msg)} {b : Bool} {m : Msg}
def upd (S : Bool → List Att) (b : Bool) (L : List Att) : Bool → List Att := fun c => if c = b then L else S c
end
end Mur
namespace Mur
open Go Go.RowKit Go.Lib
theorem take_snoc {l : List Att} {i : Nat} {y : Att} (h : l[i]? = some y) : l.take (i + 1) = l.take i ++ [y] := by
  obtain ⟨h1, rfl⟩ := List.getElem?_eq_some_iff.1 h
  exact List.take_succ_eq_append_getElem h1
end Mur
namespace Mur
open Go Go.RowKit Wk
section
variable {P : Program} {w : World} {a : Act} {o : Oper}
theorem SlA.kcell {n : Nat} {L : List Att} {g off : Nat} (h : SlA w (some ⟨g, off, none⟩) n L) {i : Nat} {x : Att} (hx : L[i]? = some x) {j : Nat} (hj : j < 32) : w.cell? ⟨g, off + i * 97 + j * 1, none⟩ = some (.int .u8 (((x.k.getD j 0).toNat : Nat) : Int)) := by
  have h1 := h.key hx
  have hk := x.hk
  have h2 := h1 j (.int .u8 (((x.k.getD j 0).toNat : Nat) : Int)) (by
    have hj' : j < x.k.length := by omega
    simp [b8s, List.getElem?_eq_getElem hj'])
  rw [Nat.mul_one]
  exact h2
end
end Mur
namespace Mur
end Mur
namespace Mur
open Go Go.RowKit Wk
def msgC (kd : UInt8) (P : Option Addr) (pn pc : Nat) (s : List UInt8) (n : Int) (A : Option Addr) (an ac : Nat) (b : Bool) : List Value := .int .u8 ((kd.toNat : Nat) : Int) :: .slice P pn pc :: (b8s s ++ [.int .i64 n, .slice A an ac, .bool b])
section
variable {kd : UInt8} {P A : Option Addr} {pn pc an ac : Nat} {s : List UInt8} {n : Int} {b : Bool}
theorem msgC_length (hs : s.length = 32) : (msgC kd P pn pc s n A an ac b).length = 37 := by simp [msgC, b8s_length, hs]
theorem msgC_size (hs : s.length = 32) : (msgC kd P pn pc s n A an ac b).toArray.size = 37 := msgC_length hs
theorem msgC_one : ∀ v ∈ msgC kd P pn pc s n A an ac b, v.oneCell' = true := by
  intro v hv
  simp only [msgC, List.mem_cons, List.mem_append, List.not_mem_nil, or_false] at hv
  rcases hv with rfl | rfl | h | rfl | rfl | rfl
  · rfl
  · rfl
  · obtain ⟨x, _, rfl⟩ := List.mem_map.1 h
    rfl
  · rfl
  · rfl
  · rfl
theorem msgC_all : (msgC kd P pn pc s n A an ac b).toArray.all (·.oneCell') = true := Array.all_eq_true_iff_forall_mem.2 fun v hv => msgC_one v (by simpa using hv)
variable {w : World} {g o : Nat}
theorem msg_kind (h : w.rangeAt g o (msgC kd P pn pc s n A an ac b)) : w.cell? ⟨g, o, none⟩ = some (.int .u8 ((kd.toNat : Nat) : Int)) := h 0 _ rfl
theorem msg_pre (h : w.rangeAt g o (msgC kd P pn pc s n A an ac b)) : w.cell? ⟨g, o + 1, none⟩ = some (.slice P pn pc) := h 1 _ rfl
theorem msg_at (hs : s.length = 32) (i : Nat) : (msgC kd P pn pc s n A an ac b)[34 + i]? = [Value.int .i64 n, .slice A an ac, .bool b][i]? := by
  unfold msgC
  rw [show 34 + i = 32 + i + 1 + 1 by omega, List.getElem?_cons_succ, List.getElem?_cons_succ, List.getElem?_append_right (by rw [b8s_length, hs]; omega), b8s_length, hs]
  congr 1
  omega
theorem msg_cnt (hs : s.length = 32) (h : w.rangeAt g o (msgC kd P pn pc s n A an ac b)) : w.cell? ⟨g, o + 34, none⟩ = some (.int .i64 n) := h 34 _ (msg_at hs 0)
theorem msg_items (hs : s.length = 32) (h : w.rangeAt g o (msgC kd P pn pc s n A an ac b)) : w.cell? ⟨g, o + 35, none⟩ = some (.slice A an ac) := h 35 _ (msg_at hs 1)
theorem msg_ans (hs : s.length = 32) (h : w.rangeAt g o (msgC kd P pn pc s n A an ac b)) : w.cell? ⟨g, o + 36, none⟩ = some (.bool b) := h 36 _ (msg_at hs 2)
theorem msg_sum (h : w.rangeAt g o (msgC kd P pn pc s n A an ac b)) : w.rangeAt g (o + 2) (b8s s) := fun j v hv => by
  have := h (2 + j) v (by
    unfold msgC
    rw [show 2 + j = j + 1 + 1 by omega, List.getElem?_cons_succ, List.getElem?_cons_succ, List.getElem?_append_left (List.getElem?_eq_some_iff.1 hv).1]
    exact hv)
  rw [← Nat.add_assoc] at this
  exact this
end
-- halves of a key's bytes, as within takes them
def shn (b : UInt8) (i : Nat) : UInt8 := if i % 2 = 0 then b >>> 4 else b
theorem nib_shn (k : List UInt8) (i : Nat) : nib k i = shn (k.getD (i / 2) 0) i &&& 15 := by
  unfold nib shn
  split
  · apply UInt8.toNat_inj.1
    rw [u8_and15, u8_shr4]
    have := (k.getD (i / 2) 0).toNat_lt
    omega
  · rfl
section
variable {P : Program} {w : World} {a : Act} {o : Oper}
theorem shr8_n (t ty : TypeId) (x y : Operand) (ho : o.op = .binOp .shr t x y ty) (b : UInt8) (i : Nat) (hx : a.eval x = .int .u8 ((b.toNat : Nat) : Int)) (hy : a.eval y = .int .i64 ((4 - 4 * (i % 2) : Nat) : Int)) : (execOp a.eval o).run P w = .ok (.value (.int .u8 (((shn b i).toNat : Nat) : Int))) w := by
  have hb' := b.toNat_lt
  have key : (binOp .shr t (.int .u8 ((b.toNat : Nat) : Int)) (.int .i64 ((4 - 4 * (i % 2) : Nat) : Int))).run P w = .ok (.int .u8 (((shn b i).toNat : Nat) : Int)) w := by
    have : (Op.shift .shr .u8 ((b.toNat : Nat) : Int) .i64 ((4 - 4 * (i % 2) : Nat) : Int)).run P w = .ok (.int .u8 (((shn b i).toNat : Nat) : Int)) w := by
      unfold Op.shift
      rw [if_neg (by omega)]
      have hb : IntKind.u8.bits = 8 := rfl
      unfold shn
      rcases Nat.mod_two_eq_zero_or_one i with e | e
      · rw [e]
        have h1 : min (((4 - 4 * 0 : Nat) : Int).toNat) IntKind.u8.bits = 4 := by rw [hb]; rfl
        have h2 : Int.fdiv ((b.toNat : Nat) : Int) (2 ^ 4) = ((b.toNat / 16 : Nat) : Int) := by
          rw [Int.fdiv_eq_ediv_of_nonneg _ (by decide)]
          exact_mod_cast rfl
        simp only [h1, h2, Sem.run_pure, if_true, u8_shr4]
      · rw [e]
        have h1 : min (((4 - 4 * 1 : Nat) : Int).toNat) IntKind.u8.bits = 0 := by rw [hb]; rfl
        have h2 : Int.fdiv ((b.toNat : Nat) : Int) (2 ^ 0) = ((b.toNat : Nat) : Int) := by simp
        simp only [h1, h2, Sem.run_pure]
        simp
    exact this
  have hg : (eqGuard .shr t x y (.int .u8 ((b.toNat : Nat) : Int)) (.int .i64 ((4 - 4 * (i % 2) : Nat) : Int))).run P w = .ok () w := rfl
  unfold execOp
  simp only [ho, hx, hy]
  simp only [Sem.run_bind, Sem.run_pure, hg, Result.andThen_ok, key]
end
-- what is built
section
variable {kd : UInt8} {P A : Option Addr} {pn pc an ac : Nat} {s : List UInt8} {n : Int} {b : Bool} {R : Option (Array Value)} {rest : List (Nat × Value)}
end
theorem own8_low {w : World} {base base' e n c : Nat} {A : Option Addr} {l : List UInt8} (h : Own8 w base e A n c l) (hb : base' ≤ base) : Own8 w base' e A n c l := own8 (own_le h.own hb)
def msgZ : List Value := msgC 0 none 0 0 z32 0 none 0 0 false
end Mur
namespace Go.Proofs.YtgbadghjnpbiaaaDoor
open Go.RowKit Wk
open Mur (b8s msgC z32)
end Go.Proofs.YtgbadghjnpbiaaaDoor
namespace Mur
open Go Go.RowKit Wk
def flatR (R : List (List Value)) : List Value := R.flatten
def Sized (sz : Nat) (R : List (List Value)) : Prop := ∀ r, r ∈ R → r.length = sz ∧ ∀ v, v ∈ r → v.oneCell' = true
theorem flatR_len {sz : Nat} : ∀ {R : List (List Value)}, Sized sz R → (flatR R).length = R.length * sz
  | [], _ => by simp [flatR]
  | r :: R, h => by
    have h1 := (h r (by simp)).1
    have h2 := flatR_len (R := R) (sz := sz) fun q hq => h q (List.mem_cons_of_mem _ hq)
    show (r ++ flatR R).length = _
    rw [List.length_append, h1, h2, List.length_cons, Nat.add_mul]
    omega
theorem flatR_one {sz : Nat} {R : List (List Value)} (h : Sized sz R) : ∀ v, v ∈ flatR R → v.oneCell' = true := fun v hv => by
  obtain ⟨r, hr, hv⟩ := List.mem_flatten.1 hv
  exact (h r hr).2 v hv
theorem flatR_drop {sz : Nat} : ∀ {R : List (List Value)} (_ : Sized sz R) (i : Nat), flatR (R.drop i) = (flatR R).drop (i * sz)
  | _, _, 0 => by simp
  | [], _, i + 1 => by simp [flatR]
  | r :: R, h, i + 1 => by
    have h1 := (h r (by simp)).1
    rw [List.drop_succ_cons, flatR_drop (fun q hq => h q (List.mem_cons_of_mem _ hq)) i]
    show _ = (r ++ flatR R).drop _
    rw [Nat.add_mul, Nat.one_mul, Nat.add_comm, ← List.drop_drop, List.drop_left' h1]
theorem flatR_append (R T : List (List Value)) : flatR (R ++ T) = flatR R ++ flatR T := by simp [flatR]
structure SlR (w : World) (sz : Nat) (A : Option Addr) (n : Nat) (R : List (List Value)) : Prop where
  len : R.length = n
  szd : Sized sz R
  sl : Sl w A n sz (flatR R)
structure OwnR (w : World) (base e sz : Nat) (A : Option Addr) (n c : Nat) (R : List (List Value)) : Prop where
  own : w.ownsRow base e sz (.slice A n c) n (flatR R)
  szd : Sized sz R
  len : R.length = n
  nc : n ≤ c
  cm : c ≤ maxLen
  nil : A = none → c = 0
  sl : Sl w A n sz (flatR R)
  at_ : ∀ g off, A = some ⟨g, off, none⟩ → base ≤ g ∧ g < w.heap.size
  lt : ∀ k, (Value.slice A n c).ownBlock = some k → base ≤ k ∧ k < w.heap.size
section
variable {w w' : World} {base e sz n c : Nat} {A : Option Addr} {R T : List (List Value)}
theorem ownR (h : w.ownsRow base e sz (.slice A n c) n (flatR R)) (hs : Sized sz R) (hp : 0 < sz) : OwnR w base e sz A n c R := by
  obtain ⟨A2, c2, e3, h1, h2, h4, h5, h6⟩ := own_sl h
  injection e3 with e3 _ e4
  subst e3 e4
  have hl : R.length = n := by
    have := h.1
    rw [flatR_len hs] at this
    exact Nat.eq_of_mul_eq_mul_right hp this
  exact ⟨h, hs, hl, h1, h2, h4, h5, h6, World.ownsRow.lt h⟩
theorem OwnR.slR (h : OwnR w base e sz A n c R) : SlR w sz A n R := ⟨h.len, h.szd, h.sl⟩
theorem ownR_nil (w : World) (base e : Nat) (hp : 0 < sz) : OwnR w base e sz none 0 0 [] := ownR ⟨by simp [flatR], .inl ⟨rfl, rfl⟩⟩ (fun r hr => by cases hr) hp
theorem OwnR.chg {S : List Nat} (h : OwnR w base e sz A n c R) (hp : 0 < sz) (ch : Chg S w w') (ho : ∀ g, (Value.slice A n c).ownBlock = some g → base ≤ g → g < w.heap.size → Off g S) : OwnR w' base e sz A n c R := ownR (own_chg h.own ch ho) h.szd hp
theorem SlR.chg {S : List Nat} (h : SlR w sz A n R) (ch : Chg S w w') (ho : ∀ g off, A = some ⟨g, off, none⟩ → g < w.heap.size → Off g S) : SlR w' sz A n R := ⟨h.len, h.szd, h.sl.chg ch ho⟩
theorem SlR.row (h : SlR w sz A n R) {i : Nat} {r : List Value} (hr : R[i]? = some r) (hp : 0 < sz) : ∃ g off, A = some ⟨g, off, none⟩ ∧ w.rangeAt g (off + i * sz) r := by
  obtain ⟨hi, rfl⟩ := List.getElem?_eq_some_iff.1 hr
  have h1 := (h.szd R[i] (List.getElem_mem _)).1
  obtain ⟨g, off, e, hg⟩ := h.sl.2 (fun e => by
    have := congrArg List.length e
    rw [flatR_len h.szd, List.length_nil] at this
    have h3 : 0 < R.length * sz := Nat.mul_pos (by omega) hp
    omega)
  refine ⟨g, off, e, fun j v hv => ?_⟩
  have hj := (List.getElem?_eq_some_iff.1 hv).1
  have key : (flatR R)[i * sz + j]? = some v := by
    rw [← List.getElem?_drop, ← flatR_drop h.szd, List.drop_eq_getElem_cons hi]
    show (R[i] ++ flatR (R.drop (i + 1)))[j]? = _
    rw [List.getElem?_append_left hj]
    exact hv
  have := hg (i * sz + j) v key
  rwa [← Nat.add_assoc] at this
theorem slR_box {g : Nat} {t : TypeId} {fr : Nat × Nat} {r : List Value} (hr : r.length = sz) (h1 : ∀ v, v ∈ r → v.oneCell' = true) (h : w.heap[g]? = some (.cells r.toArray t fr)) : SlR w sz (some ⟨g, 0, none⟩) 1 [r] :=
  ⟨rfl, fun q hq => by rw [List.mem_singleton.1 hq]; exact ⟨hr, h1⟩, by simp [flatR, hr], fun _ => ⟨g, 0, rfl, by simpa [flatR] using range_row h⟩⟩
end
section
variable {P : Program} {w : World} {a : Act} {o : Oper}
theorem appendR (s x : Operand) (t e : TypeId) (ho : o.op = .call { callee := .builtin .append, args := #[s, x], argTypes := #[t, t] }) (ht : P.underlying t = some (.slice e)) (z : Value) (sz bytes : Nat) (hinfo : (P.info? e).map (fun i => (i.zero, i.size, i.bytes)) = some (some z, sz, bytes)) (hz : z.cells.size = sz) (hp : 0 < sz) (hby : bytes ≤ 1000)
    (base : Nat) (A0 : Option Addr) (n c0 : Nat) (xs : List (List Value)) (A : Option Addr) (m c : Nat) (ys : List (List Value)) (hs : a.eval s = .slice A0 n c0) (hx : a.eval x = .slice A m c) (HO : OwnR w base e sz A0 n c0 xs) (HR : SlR w sz A m ys) (hA : A = none → c = 0)
    (hbase : base ≤ w.heap.size) (hl : n + m ≤ 1000000) (k : Nat) (hk : n + m = k) :
    ∃ v1 w1, (execOp a.eval o).run P w = .ok (.value v1) w1 ∧ ∃ A1 c1, v1 = .slice A1 k c1 ∧ OwnR w1 base e sz A1 k c1 (xs ++ ys) ∧ Chg (blk (.slice A0 n c0)) w w1 ∧ (∀ q, (Value.slice A1 k c1).ownBlock = some q → (Value.slice A0 n c0).ownBlock = some q ∨ q = w.heap.size) := by
  subst hk
  have hb : (n + m) * bytes ≤ 1000000 * 1000 := Nat.mul_le_mul hl hby
  obtain ⟨v1, w1, h1, h2, h3, h4⟩ := append_run (P := P) s x t e ho ht z sz bytes hinfo hz hp base (.slice A0 n c0) n (flatR xs) A m c (flatR ys) hs hx HO.own HR.sl hA (flatR_one HR.szd) hbase (by unfold maxLen; omega) (by omega)
  rw [← flatR_append] at h2
  obtain ⟨A1, c1, rfl, _⟩ := own_sl h2
  refine ⟨_, w1, h1, A1, c1, rfl, ownR h2 (fun r hr => (List.mem_append.1 hr).elim (HO.szd r) (HR.szd r)) hp, h3, fun q hq => ?_⟩
  rcases h4 with h4 | h4
  · exact .inl (h4 ▸ hq)
  · rw [h4] at hq
    exact .inr (Option.some.inj hq).symm
theorem buildR1 (t e : TypeId) (x : Operand) (ho : o.op = .buildSlice t 1 #[(0, x)]) (ht : P.underlying t = some (.slice e)) (z : List Value) (sz bytes : Nat) (hinfo : (P.info? e).map (fun i => (i.zero, i.size, i.bytes)) = some (some (.agg z.toArray), sz, bytes)) (hzl : z.length = sz) (hp : 0 < sz) (h1000 : sz ≤ 1000)
    (r : List Value) (hr : r.length = sz) (hx : a.eval x = .agg r.toArray) :
    ∃ v w1, (execOp a.eval o).run P w = .ok (.value v) w1 ∧ v = .slice (some ⟨w.heap.size, 0, none⟩) 1 1 ∧ w1.heap[w.heap.size]? = some (.cells r.toArray e (0, 0)) ∧ Chg [] w w1 ∧ w.heap.size < w1.heap.size := by
  obtain ⟨i0, hi, hzz⟩ := Option.map_eq_some_iff.1 hinfo
  simp only [Prod.mk.injEq] at hzz
  obtain ⟨hz0, hz1, hz2⟩ := hzz
  have hfill : ∀ Z : Array Value, Z.size = sz → Instr.fill (fun i => some (i * sz, sz)) Z [(0, .agg r.toArray)] = some r.toArray := by
    intro Z hZ
    have := fill_part (place := fun i => some (i * sz, sz)) (L := Z.toList) (vs := r) (v := .agg r.toArray) (i := 0) (off := 0) (size := sz) (rest := []) (R := some r.toArray) (by simp) rfl hr (by rw [Array.length_toList, hZ]; omega) (by
      have e : splice Z.toList 0 r = r := by
        unfold splice
        rw [hr, List.drop_of_length_le (by rw [Array.length_toList, hZ]; omega)]
        simp
      rw [e]
      rfl)
    simpa using this
  have hrun : (Instr.buildSlice t 1 [(0, Value.agg r.toArray)].toArray).run P w = .ok (.slice (some ⟨w.heap.size, 0, none⟩) 1 1) (w.alloc (.cells r.toArray e)) := by
    have hs : (Value.agg z.toArray).cells.size = sz := by simpa [Value.cells] using hzl
    have hf := hfill ((Array.range (1 * sz)).map ((Value.agg z.toArray).cells[· % sz]!)) (by rw [Array.size_map, Array.size_range, Nat.one_mul])
    unfold Instr.buildSlice
    simp [run_underlying ht, Go.sizeOf, typeInfo, zeroValue, hi, hz0, hz1, hs]
    simp at hf
    rw [hf, if_neg (by omega), if_neg (by omega)]
    rfl
  refine ⟨_, _, ?_, rfl, heap_alloc_new w _, Chg.alloc w _, by simp⟩
  unfold execOp
  simp only [ho, List.map_toArray, List.map_cons, List.map_nil, hx]
  simp only [Sem.run_bind, hrun, Result.andThen_ok, Sem.run_pure]
end
end Mur
namespace Mur
open Go Go.RowKit Wk
section
variable {P : Program} {w : World} {a : Act} {o : Oper}
theorem ofNat_mod (u : Nat) : ((UInt8.ofNat u).toNat : Nat) = u % 256 := by simp
theorem ofNat_mod2 (u : Nat) : UInt8.ofNat (u % 256) = UInt8.ofNat u := UInt8.toNat_inj.1 (by simp)
theorem conv_u8o (s t : TypeId) (x : Operand) (ho : o.op = .convert s t x) (hs : (P.underlying s).isSome = true) (ht : P.underlying t = some (.int .u8)) (k : IntKind) (u : Nat) (hx : a.eval x = .int k ((u : Nat) : Int)) : (execOp a.eval o).run P w = .ok (.value (.int .u8 (((UInt8.ofNat u).toNat : Nat) : Int))) w := by
  rw [ofNat_mod]
  exact conv_u8 s t x ho hs ht k u hx
theorem add_u64 (t ty : TypeId) (x y : Operand) (ho : o.op = .binOp .add t x y ty) (i n z : Nat) (hx : a.eval x = .int .u64 ((i : Nat) : Int)) (hy : a.eval y = .int .u64 ((n : Nat) : Int)) (hz : i + n = z) (hl : z < 18446744073709551616) :
    (execOp a.eval o).run P w = .ok (.value (.int .u64 ((z : Nat) : Int))) w := by
  subst hz
  have hm : IntKind.u64.wrap (((i : Nat) : Int) + ((n : Nat) : Int)) = (((i + n : Nat)) : Int) := by
    show (((i : Nat) : Int) + ((n : Nat) : Int)) % 18446744073709551616 = _
    omega
  have hg : (eqGuard .add t x y (.int .u64 ((i : Nat) : Int)) (.int .u64 ((n : Nat) : Int))).run P w = .ok () w := rfl
  have key2 : (binOp .add t (.int .u64 ((i : Nat) : Int)) (.int .u64 ((n : Nat) : Int))).run P w = .ok (.int .u64 (((i + n : Nat)) : Int)) w := by
    have : (binOp .add t (.int .u64 ((i : Nat) : Int)) (.int .u64 ((n : Nat) : Int))).run P w = .ok (.int .u64 (IntKind.u64.wrap (((i : Nat) : Int) + ((n : Nat) : Int)))) w := rfl
    rw [this, hm]
  unfold execOp
  simp only [ho, hx, hy]
  simp only [Sem.run_bind, Sem.run_pure, hg, Result.andThen_ok, key2]
theorem arr_slice_from (t e : TypeId) (x y : Operand) (n l : Nat) (ho : o.op = .slice t x (some y) none none) (ht : P.underlying t = some (.array n e)) (hsz : (P.info? e).map (·.size) = some 1) (g : Nat) (hx : a.eval x = .pointer (some ⟨g, 0, none⟩)) (hy : a.eval y = .int .i64 ((l : Nat) : Int)) (hl : l < n) :
    (execOp a.eval o).run P w = .ok (.value (.slice (some ⟨g, l, none⟩) (n - l) (n - l))) w := by
  obtain ⟨i, hi, hs⟩ := Option.map_eq_some_iff.1 hsz
  unfold execOp
  simp only [ho, hx, hy, Option.map_none, Option.map_some]
  have e0 : (⟨g, 0, none⟩ : Addr).add l = ⟨g, l, none⟩ := by rw [Addr.add_mid, Nat.zero_add]
  simp [Instr.sliceAt, Instr.slice, Instr.sureAddr, run_underlying ht, Instr.sliceBounds, Go.sizeOf, typeInfo, hi, hs, e0, run_sliceBound w .i64 (l : Int) n _ (by omega) (by omega)]
  omega
end
theorem made_zeros (k : Nat) : madeCells #[Value.int .u8 0] k = (b8s (List.replicate k 0)).toArray := by
  unfold madeCells
  apply Array.ext
  · simp [b8s]
  · intro i h1 h2
    simp [b8s, Nat.mod_one]
section
variable {P : Program} {w : World} {a : Act} {o : Oper}
theorem make0 (t e : TypeId) (x y : Operand) (ho : o.op = .makeSlice t x y) (ht : P.underlying t = some (.slice e)) (hinfo : (P.info? e).map (fun i => (i.zero, i.size, i.bytes)) = some (some (.int .u8 0), 1, 1)) (k : Nat) (hk : k ≤ 140737488355328) (hx : a.eval x = .int .i64 0) (hy : a.eval y = .int .i64 ((k : Nat) : Int)) :
    ∃ v w1, (execOp a.eval o).run P w = .ok (.value v) w1 ∧ v = .slice (some ⟨w.heap.size, 0, none⟩) 0 k ∧ Own8 w1 w.heap.size e (some ⟨w.heap.size, 0, none⟩) 0 k [] ∧ Chg [] w w1 ∧ w.heap.size < w1.heap.size := by
  obtain ⟨i, hi, hs⟩ := Option.map_eq_some_iff.1 hinfo
  simp only [Prod.mk.injEq] at hs
  have h := run_make (P := P) w t e i (.int .u8 0) ht hi hs.1 .i64 .i64 0 ((k : Nat) : Int) (by omega) (by omega) (by rw [hs.2.2]; omega) (by omega)
  rw [hs.2.1, Int.toNat_natCast, Nat.mul_one, show (Value.int .u8 0).cells = #[.int .u8 0] from rfl, made_zeros] at h
  refine ⟨_, w.alloc (.cells (b8s (List.replicate k 0)).toArray e), ?_, rfl, own8 ⟨rfl, .inr ⟨w.heap.size, k, (b8s (List.replicate k 0)).toArray, rfl, Nat.le_refl _, heap_alloc_new w _, Nat.zero_le _, by unfold maxLen; omega, by simp [b8s], rfl⟩⟩, Chg.alloc w _, by simp⟩
  unfold execOp
  simp only [ho, hx, hy, Sem.run_bind, h, Result.andThen_ok, Sem.run_pure]
  rfl
end
theorem beN_lt56 {l : List UInt8} {i : Nat} (h : i ≤ 7) : beN (l.take i) < 72057594037927936 := by
  have h1 := beN_lt (l.take i)
  have h2 : 256 ^ (l.take i).length ≤ 256 ^ 7 := Nat.pow_le_pow_right (by decide) (by rw [List.length_take]; omega)
  exact Nat.lt_of_lt_of_le h1 h2
theorem beN_lt64 {l : List UInt8} (h : l.length ≤ 8) : beN l < 18446744073709551616 := Nat.lt_of_lt_of_le (beN_lt l) (Nat.le_trans (Nat.pow_le_pow_right (by decide) h) (by decide : 256 ^ 8 ≤ 18446744073709551616))
theorem beN_more {l : List UInt8} {i : Nat} (h : i < l.length) : beN (l.take i) * 256 + (l.getD i 0).toNat = beN (l.take (i + 1)) := by
  rw [beN_take (x := l.getD i 0) (by rw [List.getD_eq_getElem?_getD, List.getElem?_eq_getElem h]; rfl)]
section
variable {b r : List UInt8} {p : Nat} {s : UInt8}
theorem readN_ok (h : b.drop p = s :: r) (h8 : s.toNat ≤ 8) (hl : s.toNat ≤ r.length) (h0 : s.toNat = 0 ∨ (r.getD 0 0).toNat ≠ 0) : readN (b.drop p) = some (beN (r.take s.toNat), b.drop (p + 1 + s.toNat)) := by
  have e : r = b.drop (p + 1) := by rw [← List.drop_drop, h]; rfl
  rw [h, readN_cons, if_neg, ← List.drop_drop, ← e]
  rintro (h1 | h1 | ⟨h1, h2⟩)
  · omega
  · omega
  · rcases h0 with h0 | h0
    · omega
    · rcases r with _ | ⟨x, r⟩
      · cases h2
      · injection h2 with h2
        subst h2
        exact h0 rfl
theorem readN_big (h : b.drop p = s :: r) (h8 : 8 < s.toNat) : readN (b.drop p) = none := by rw [h, readN_cons, if_pos (.inl h8)]
theorem readN_short (h : b.drop p = s :: r) (hl : r.length < s.toNat) : readN (b.drop p) = none := by rw [h, readN_cons, if_pos (.inr (.inl hl))]
theorem readN_zero (h : b.drop p = s :: r) (hs : 0 < s.toNat) (hr : 0 < r.length) (h0 : (r.getD 0 0).toNat = 0) : readN (b.drop p) = none := by
  have hh : r.head? = some 0 := by
    rcases r with _ | ⟨x, r⟩
    · cases hr
    · exact congrArg some (UInt8.toNat_inj.1 h0)
  rw [h, readN_cons, if_pos (.inr (.inr ⟨hs, hh⟩))]
theorem readN_nil (h : b.length ≤ p) : readN (b.drop p) = none := by rw [List.drop_of_length_le h]; rfl
theorem drop_cons (h : p < b.length) : ∃ s r, b.drop p = s :: r := ⟨_, _, List.drop_eq_getElem_cons h⟩
end
theorem form_byt {w : World} {g j N : Nat} {tl : List UInt8} {T : TypeId} {fr : Nat × Nat} (hF : FormAt N 0 (9 - j) tl) (hj : 1 ≤ j ∧ j ≤ 9) (h : w.heap[g]? = some (.cells (b8s ((nineF (9 - j) tl).set (j - 1) (UInt8.ofNat (9 - j)))).toArray T fr)) : Byt w (some ⟨g, j - 1, none⟩) (9 - (j - 1)) (formN N) := by
  have e1 : (nineF (9 - j) tl).set (j - 1) (UInt8.ofNat (9 - j)) = nineF (9 - j + 1) (UInt8.ofNat (9 - j) :: tl) := by
    rw [show j - 1 = 9 - (9 - j + 1) by omega, nineF_set _ (by omega)]
  rw [e1, ← formAt_end hF] at h
  have hl : (formN N).length = 9 - j + 1 := by rw [formAt_end hF, List.length_cons, hF.2]
  have hn : (nineF (9 - j + 1) (formN N)).length = 9 := nineF_len hl (by omega)
  have h1 := byt_sub (byt_blk _ hn h) (j - 1) 9 (9 - (j - 1)) (by omega) (Nat.le_refl _)
  rw [List.take_of_length_le (by omega)] at h1
  have e2 : (nineF (9 - j + 1) (formN N)).drop (j - 1) = formN N := by
    rw [show j - 1 = 9 - (9 - j + 1) by omega]
    exact nineF_drop
  rw [e2, Nat.zero_add] at h1
  exact h1
-- what is passed over at one stroke
end Mur
namespace Mur
open Go Go.RowKit Wk
theorem mayM_iff {kd : UInt8} {p s : List UInt8} {n : Int} {l : List Att} {b : Bool} : mayM ⟨kd, p, s, n, l, b⟩ ↔ isPre p = true ∧ 0 ≤ n ∧ n ≤ 200 ∧ l.length ≤ 8 ∧ ((kd = 1 ∧ l = [] ∧ b = false) ∨ (kd = 2 ∧ (∀ x, x ∈ l → may x.n ∧ under p x.k = true) ∧ Sorted l ∧ s = z32 ∧ n = 0)) := Iff.rfl
theorem sorted_one {I : List Att} {x : Att} (hx : I[0]? = some x) : Sorted (I.take 1) := by
  obtain ⟨h, rfl⟩ := List.getElem?_eq_some_iff.1 hx
  rw [List.take_succ_eq_append_getElem h]
  exact List.pairwise_singleton _ _
theorem sorted_more {I : List Att} {i : Nat} {x z : Att} (hs : Sorted (I.take i)) (hx : I[i]? = some x) (hz : I[i - 1]? = some z) (hi : 0 < i) (h : z.lt x) : Sorted (I.take (i + 1)) := by
  obtain ⟨h1, rfl⟩ := List.getElem?_eq_some_iff.1 hx
  rw [List.take_succ_eq_append_getElem h1]
  refine List.pairwise_append.2 ⟨hs, List.pairwise_singleton _ _, fun a ha b hb => ?_⟩
  rw [List.mem_singleton.1 hb]
  obtain ⟨j, hj, rfl⟩ := List.getElem_of_mem ha
  rw [List.length_take] at hj
  have hzt : (I.take i)[i - 1]? = some z := by rw [List.getElem?_take, if_pos (by omega)]; exact hz
  rcases Nat.lt_or_ge j (i - 1) with h2 | h2
  · exact Att.lt_trans (hs.lt (List.getElem?_eq_getElem (by rw [List.length_take]; omega)) hzt h2) h
  · obtain rfl : j = i - 1 := by omega
    rw [List.getElem?_eq_getElem (by rw [List.length_take]; omega)] at hzt
    rw [Option.some.inj hzt]
    exact h
theorem not_sorted {I : List Att} {i : Nat} {x z : Att} (hx : I[i]? = some x) (hz : I[i - 1]? = some z) (hi : 0 < i) (h : ¬ z.lt x) : ¬ Sorted I := fun hs => h (hs.lt hz hx (by omega))
structure Raw where
  kd : UInt8
  P : Option Addr
  pn : Nat
  pc : Nat
  s : List UInt8
  n : Int
  A : Option Addr
  an : Nat
  ac : Nat
  b : Bool
  hs : s.length = 32
def Raw.C (r : Raw) : List Value := msgC r.kd r.P r.pn r.pc r.s r.n r.A r.an r.ac r.b
def Raw.subs (r : Raw) : List Nat := pblk r.P r.pn ++ pblk r.A r.an
structure RawOk (w : World) (r : Raw) (m : Msg) : Prop where
  kd : r.kd = m.kind
  s : r.s = m.sum
  n : r.n = m.cnt
  b : r.b = m.ans
  byt : Byt w r.P r.pn m.pre
  sl : SlA w r.A r.an m.items
  nilP : r.P = none → r.pc = 0
  nilA : r.A = none → r.ac = 0
  anc : r.an ≤ r.ac ∧ r.ac ≤ 9223372036854775807
  pnc : r.pn ≤ r.pc ∧ r.pc ≤ 9223372036854775807
theorem RawOk.keep {w w' : World} {r : Raw} {m : Msg} {F : List Nat} (h : RawOk w r m) (k : Keep F w w') (hF : ∀ q, q ∈ r.subs → q ∈ F) : RawOk w' r m :=
  ⟨h.kd, h.s, h.n, h.b, byt_keep h.byt k fun q hq => hF q (List.mem_append_left _ hq), h.sl.keep k fun g _ e hn => hF g (List.mem_append_right _ (pblk_mem e hn)), h.nilP, h.nilA, h.anc, h.pnc⟩
def subsL (R : List Raw) : List Nat := R.flatMap Raw.subs
def RawsOk (w : World) : List Raw → List Msg → Prop
  | [], [] => True
  | r :: R, m :: M => RawOk w r m ∧ RawsOk w R M
  | _, _ => False
theorem RawsOk.keep {w w' : World} {F : List Nat} (k : Keep F w w') : ∀ {R : List Raw} {M : List Msg}, RawsOk w R M → (∀ q, q ∈ subsL R → q ∈ F) → RawsOk w' R M
  | [], [], _, _ => trivial
  | [], _ :: _, h, _ => h.elim
  | _ :: _, [], h, _ => h.elim
  | r :: R, m :: M, h, hF => ⟨h.1.keep k fun q hq => hF q (by simp only [subsL, List.flatMap_cons, List.mem_append]; exact .inl hq), RawsOk.keep k h.2 fun q hq => hF q (by simp only [subsL, List.flatMap_cons, List.mem_append]; exact .inr hq)⟩
theorem RawsOk.snoc {w : World} {r : Raw} {m : Msg} (hr : RawOk w r m) : ∀ {R : List Raw} {M : List Msg}, RawsOk w R M → RawsOk w (R ++ [r]) (M ++ [m])
  | [], [], _ => ⟨hr, trivial⟩
  | [], _ :: _, h => h.elim
  | _ :: _, [], h => h.elim
  | _ :: _, _ :: _, h => ⟨h.1, RawsOk.snoc hr h.2⟩
theorem RawsOk.length {w : World} : ∀ {R : List Raw} {M : List Msg}, RawsOk w R M → R.length = M.length
  | [], [], _ => rfl
  | [], _ :: _, h => h.elim
  | _ :: _, [], h => h.elim
  | _ :: _, _ :: _, h => by rw [List.length_cons, List.length_cons, RawsOk.length h.2]
theorem RawsOk.at {w : World} : ∀ {R : List Raw} {M : List Msg} {i : Nat} {r : Raw}, RawsOk w R M → R[i]? = some r → ∃ m, M[i]? = some m ∧ RawOk w r m
  | [], [], i, r, _, hr => by simp at hr
  | [], _ :: _, _, _, h, _ => h.elim
  | _ :: _, [], _, _, h, _ => h.elim
  | r0 :: _, m0 :: _, 0, r, h, hr => by
    simp at hr
    subst hr
    exact ⟨m0, by simp, h.1⟩
  | _ :: _, _ :: _, i + 1, r, h, hr => by
    obtain ⟨m, h1, h2⟩ := RawsOk.at h.2 (i := i) (r := r) (by simpa using hr)
    exact ⟨m, by simpa using h1, h2⟩
end Mur
namespace Mur
open Go Go.RowKit Wk
section
variable {α : Type}
theorem flat_part {L : List (List α)} {sz : List Nat} (hs : L.map List.length = sz) (i n : Nat) :
    L.flatten = (L.take i).flatten ++ (((L.drop i).take n).flatten ++ (L.drop (i + n)).flatten) ∧ (L.take i).flatten.length = (sz.take i).sum ∧ ((L.drop i).take n).flatten.length = ((sz.drop i).take n).sum := by
  refine ⟨?_, ?_, ?_⟩
  · rw [← List.drop_drop, ← List.flatten_append, List.take_append_drop, ← List.flatten_append, List.take_append_drop]
  · rw [List.length_flatten, List.map_take, hs]
  · rw [List.length_flatten, List.map_take, List.map_drop, hs]
end
section
variable {w : World} {g o : Nat} {L : List (List Value)} {sz : List Nat}
theorem segs_rng (hs : L.map List.length = sz) (h : w.rangeAt g o L.flatten) (i n : Nat) {x : List Value} {k : Nat} (hx : ((L.drop i).take n).flatten = x) (hk : (sz.take i).sum = k) : w.rangeAt g (o + k) x := fun j v hv => by
  obtain ⟨h1, h2, _⟩ := flat_part hs i n
  rw [hx] at h1
  have hj := (List.getElem?_eq_some_iff.1 hv).1
  have := h (k + j) v (by
    rw [h1, List.getElem?_append_right (by omega), h2, hk, Nat.add_sub_cancel_left, List.getElem?_append_left hj]
    exact hv)
  rw [← Nat.add_assoc] at this
  exact this
theorem segs_cell (hs : L.map List.length = sz) (h : w.rangeAt g o L.flatten) (i : Nat) {v : Value} {k : Nat} (hx : L[i]? = some [v]) (hk : (sz.take i).sum = k) : w.cell? ⟨g, o + k, none⟩ = some v := by
  obtain ⟨hi, he⟩ := List.getElem?_eq_some_iff.1 hx
  have := segs_rng hs h i 1 (x := [v]) (k := k) (by rw [List.drop_eq_getElem_cons hi, he]; rfl) hk
  exact this 0 v rfl
theorem segs_row (hs : L.map List.length = sz) (h : w.rangeAt g o L.flatten) (i : Nat) {x : List Value} {k : Nat} (hx : L[i]? = some x) (hk : (sz.take i).sum = k) : w.rangeAt g (o + k) x := by
  obtain ⟨hi, he⟩ := List.getElem?_eq_some_iff.1 hx
  exact segs_rng hs h i 1 (by rw [List.drop_eq_getElem_cons hi, he]; simp) hk
variable {P : Program} {a : Act} {p : Oper}
theorem store_segs (ty : TypeId) (x y : Operand) (ho : p.op = .store ty x y) (off : Nat) (hx : a.eval x = .pointer (some ⟨g, off, none⟩)) (vs : List Value) (hy : a.eval y = .agg vs.toArray) (hi : (P.info? ty).map (·.size) = some vs.length) (h1 : ∀ v ∈ vs, v.oneCell' = true)
    (t : TypeId) (hs : L.map List.length = sz) (hg : w.heap[g]? = some (.cells L.flatten.toArray t (0, 0))) (i : Nat) (V : List (List Value)) (hV : V.flatten = vs) (hk : (sz.take i).sum = off) (hn : ((sz.drop i).take V.length).sum = vs.length)
    (L2 : List (List Value)) (hL : L.take i ++ (V ++ L.drop (i + V.length)) = L2) : ∃ w', (execOp a.eval p).run P w = .ok .skip w' ∧ w'.heap[g]? = some (.cells L2.flatten.toArray t (0, 0)) ∧ Chg [g] w w' := by
  obtain ⟨e1, e2, e3⟩ := flat_part hs i V.length
  obtain ⟨w', a1, a2, a3⟩ := storeR (P := P) ty x y ho g off hx vs hy hi h1 t L.flatten hg (by rw [e1, List.length_append, e2, List.length_append, e3, hk, hn]; omega)
  refine ⟨w', a1, ?_, a3⟩
  rw [a2, e1, splice_mid (by rw [e2, hk]) (by rw [e3, hn]), ← hL, List.flatten_append, List.flatten_append, hV]
theorem store_seg1 (ty : TypeId) (x y : Operand) (ho : p.op = .store ty x y) (hi : (P.info? ty).map (·.size) = some 1) (off : Nat) (hx : a.eval x = .pointer (some ⟨g, off, none⟩)) (v : Value) (hy : a.eval y = v) (h1 : v.oneCell' = true)
    (t : TypeId) (hs : L.map List.length = sz) (hg : w.heap[g]? = some (.cells L.flatten.toArray t (0, 0))) (i : Nat) (hk : (sz.take i).sum = off) (hn : ((sz.drop i).take 1).sum = 1)
    (L2 : List (List Value)) (hL : L.take i ++ ([v] :: L.drop (i + 1)) = L2) : ∃ w', (execOp a.eval p).run P w = .ok .skip w' ∧ w'.heap[g]? = some (.cells L2.flatten.toArray t (0, 0)) ∧ Chg [g] w w' := by
  obtain ⟨e1, e2, e3⟩ := flat_part hs i 1
  have hlt : off < L.flatten.length := by rw [e1, List.length_append, e2, List.length_append, e3, hk, hn]; omega
  obtain ⟨w', a1, a2, a3⟩ := store1 (P := P) ty x y ho hi g off hx v hy h1 t L.flatten.toArray hg (by simpa using hlt)
  refine ⟨w', a1, ?_, a3⟩
  have e4 : L.flatten.set off v = L2.flatten := by
    have := splice_set L.flatten off v [] hlt
    have e5 : splice (L.flatten.set off v) (off + 1) [] = L.flatten.set off v := by simp [splice]
    rw [e5, e1, splice_mid (vs := [v]) (by rw [e2, hk]) (by rw [e3, hn]; rfl)] at this
    rw [e1, this, ← hL, List.flatten_append, List.flatten_cons]
  rw [a2, List.setIfInBounds_toArray, e4]
end
theorem cutA_blk {A : Option Addr} {c k : Nat} {Q : Nat → Prop} (h : ∀ a, A = some a → Q a.block) : ∀ a, cutA A c k = some a → Q a.block := fun a ha => by
  unfold cutA at ha
  split at ha
  · exact h a ha
  · obtain ⟨a', h1, rfl⟩ := Option.map_eq_some_iff.1 ha
    have e : (a'.add k).block = a'.block := by unfold Addr.add; split <;> rfl
    rw [e]
    exact h a' h1
theorem cutA_ne {w : World} {A : Option Addr} {n c k : Nat} {l : List UInt8} (h : Byt w A n l) (hn : 0 < n) : cutA A c k ≠ none := fun e => by
  obtain ⟨g, off, rfl, _⟩ := h.2 hn
  unfold cutA at e
  split at e <;> cases e
theorem byt_chgp {S : List Nat} {w w' : World} {A : Option Addr} {n : Nat} {l : List UInt8} (h : Byt w A n l) (c : Chg S w w') (ho : ∀ g off, A = some ⟨g, off, none⟩ → 0 < n → g < w.heap.size → Off g S) : Byt w' A n l := by
  rcases Nat.eq_zero_or_pos n with h0 | h0
  · subst h0
    exact ⟨h.1, fun h1 => absurd h1 (Nat.lt_irrefl 0)⟩
  · exact byt_chg h c fun g off e hl => ho g off e h0 hl
theorem rng_byt {w : World} {g off n : Nat} {l : List UInt8} (h : Byt w (some ⟨g, off, none⟩) n l) : w.rangeAt g off (b8s l) := fun j v hv => by
  have hj : j < l.length := by have := (List.getElem?_eq_some_iff.1 hv).1; rwa [b8s_length] at this
  have h1 := b8s_get l j hj
  rw [hv] at h1
  rw [Option.some.inj h1]
  obtain ⟨g2, off2, e, hc⟩ := h.2 (by have := h.1; omega)
  cases e
  exact hc j (by have := h.1; omega)
section
variable {P : Program} {w : World} {a : Act} {o : Oper}
theorem s2a (t e : TypeId) (x : Operand) (n : Nat) (ho : o.op = .sliceToArrayPointer t x) (ht : P.underlying t = some (.array n e)) (A : Option Addr) (m c : Nat) (hx : a.eval x = .slice A m c) (hm : n ≤ m) : (execOp a.eval o).run P w = .ok (.value (.pointer A)) w := by
  unfold execOp
  simp only [ho, hx]
  simp [Instr.arrayAt, run_underlying ht]
  omega
theorem run_op_cutF (t : TypeId) (x y z : Operand) (ho : o.op = .slice t x (some y) (some z) none) (e : TypeId) (ht : P.underlying t = some (.slice e)) (hsz : (P.info? e).map (·.size) = some 1)
    (A : Option Addr) (n c l m : Nat) (hx : a.eval x = .slice A n c) (hy : a.eval y = .int .i64 (l : Int)) (hz : a.eval z = .int .i64 (m : Int)) (hl : l ≤ m) (hm : m ≤ n) (hnc : n ≤ c) :
    (execOp a.eval o).run P w = .ok (.value (.slice (cutA A c l) (m - l) (c - l))) w := by
  unfold execOp
  simp only [ho, hx, hy, hz, Option.map_some, Option.map_none, Sem.run_bind, run_cut t e ht hsz A n c l m hl hm hnc, Result.andThen_ok, Sem.run_pure]
theorem makeZ (t e : TypeId) (x : Operand) (ho : o.op = .makeSlice t x x) (ht : P.underlying t = some (.slice e)) (hinfo : (P.info? e).map (fun i => (i.zero, i.size, i.bytes)) = some (some (.int .u8 0), 1, 1)) (k : Nat) (hk : k ≤ 1000000) (hx : a.eval x = .int .i64 ((k : Nat) : Int)) :
    ∃ v w1, (execOp a.eval o).run P w = .ok (.value v) w1 ∧ v = .slice (some ⟨w.heap.size, 0, none⟩) k k ∧ w1.heap[w.heap.size]? = some (.cells (b8s (List.replicate k 0)).toArray e (0, 0)) ∧ Chg [] w w1 ∧ w.heap.size < w1.heap.size := by
  obtain ⟨i, hi, hs⟩ := Option.map_eq_some_iff.1 hinfo
  simp only [Prod.mk.injEq] at hs
  have h := run_make (P := P) w t e i (.int .u8 0) ht hi hs.1 .i64 .i64 ((k : Nat) : Int) ((k : Nat) : Int) (by omega) (by omega) (by rw [hs.2.2]; omega) (by omega)
  rw [hs.2.1, Int.toNat_natCast, Nat.mul_one, show (Value.int .u8 0).cells = #[.int .u8 0] from rfl, made_zeros] at h
  refine ⟨_, w.alloc (.cells (b8s (List.replicate k 0)).toArray e), ?_, rfl, heap_alloc_new w _, Chg.alloc w _, by simp⟩
  unfold execOp
  simp only [ho, hx, Sem.run_bind, h, Result.andThen_ok, Sem.run_pure]
end
structure Sl3 where
  A : Option Addr
  n : Nat
  c : Nat
def sl0 : Sl3 := ⟨none, 0, 0⟩
def Sl3.v (s : Sl3) : Value := .slice s.A s.n s.c
def frmL (k : UInt8) (a b to : Int) (pk : UInt8) (sq : Nat) (ab : Int) (u : Sl3) (gk : UInt8) (p : Sl3) (gs : List UInt8) (gn : Int) (i : Sl3) (ga : Bool) (ck : List UInt8) (cn : Int) (ci cc : Nat) (cg : Bool) (ak ar : List UInt8) (an : Int) (at_ rt : List UInt8) (ch : Int) (y f : Sl3) : List (List Value) :=
  [[.int .u8 ((k.toNat : Nat) : Int)], [.int .i64 a], [.int .i64 b], [.int .i64 to], [.int .u8 ((pk.toNat : Nat) : Int)], [.int .u64 ((sq : Nat) : Int)], [.int .i64 ab], [.slice u.A u.n u.c], [.int .u8 ((gk.toNat : Nat) : Int)], [.slice p.A p.n p.c], b8s gs, [.int .i64 gn], [.slice i.A i.n i.c], [.bool ga],
    b8s ck, [.int .i64 cn], [.int .u64 ((ci : Nat) : Int)], [.int .u64 ((cc : Nat) : Int)], [.bool cg], b8s ak, b8s ar, [.int .i64 an], b8s at_, b8s rt, [.int .i64 ch], [.slice y.A y.n y.c], [.slice f.A f.n f.c]]
def frmS : List Nat := [1, 1, 1, 1, 1, 1, 1, 1, 1, 1, 32, 1, 1, 1, 32, 1, 1, 1, 1, 32, 32, 1, 32, 32, 1, 1, 1]
section
variable {k : UInt8} {a b to : Int} {pk : UInt8} {sq : Nat} {ab : Int} {u : Sl3} {gk : UInt8} {p : Sl3} {gs : List UInt8} {gn : Int} {i : Sl3} {ga : Bool} {ck : List UInt8} {cn : Int} {ci cc : Nat} {cg : Bool} {ak ar : List UInt8} {an : Int} {at_ rt : List UInt8} {ch : Int} {y f : Sl3}
theorem frmL_sz (h1 : gs.length = 32) (h2 : ck.length = 32) (h3 : ak.length = 32) (h4 : ar.length = 32) (h5 : at_.length = 32) (h6 : rt.length = 32) : (frmL k a b to pk sq ab u gk p gs gn i ga ck cn ci cc cg ak ar an at_ rt ch y f).map List.length = frmS := by
  simp [frmL, frmS, b8s_length, h1, h2, h3, h4, h5, h6]
theorem frmL_size (h : (frmL k a b to pk sq ab u gk p gs gn i ga ck cn ci cc cg ak ar an at_ rt ch y f).map List.length = frmS) : (frmL k a b to pk sq ab u gk p gs gn i ga ck cn ci cc cg ak ar an at_ rt ch y f).flatten.toArray.size = 213 := by
  rw [List.size_toArray, List.length_flatten, h]
  rfl
theorem frmL_one : ∀ v ∈ (frmL k a b to pk sq ab u gk p gs gn i ga ck cn ci cc cg ak ar an at_ rt ch y f).flatten, v.oneCell' = true := by
  intro v hv
  obtain ⟨l, hl, hv⟩ := List.mem_flatten.1 hv
  have hb : ∀ x : List UInt8, l = b8s x → v.oneCell' = true := fun x e => b8s_one x v (e ▸ hv)
  have hs : ∀ z : Value, z.oneCell' = true → l = [z] → v.oneCell' = true := fun z hz e => by
    rw [e] at hv
    rw [List.mem_singleton.1 hv]
    exact hz
  simp only [frmL, List.mem_cons, List.not_mem_nil, or_false] at hl
  rcases hl with e | e | e | e | e | e | e | e | e | e | e | e | e | e | e | e | e | e | e | e | e | e | e | e | e | e | e <;> first | exact hb _ e | exact hs _ rfl e
theorem frmL_all : (frmL k a b to pk sq ab u gk p gs gn i ga ck cn ci cc cg ak ar an at_ rt ch y f).flatten.toArray.all (·.oneCell') = true := Array.all_eq_true_iff_forall_mem.2 fun v hv => frmL_one v (by simpa using hv)
theorem frmL_att : (((frmL k a b to pk sq ab u gk p gs gn i ga ck cn ci cc cg ak ar an at_ rt ch y f).drop 19).take 4).flatten = attC ak ar an at_ := by
  show b8s ak ++ (b8s ar ++ (Value.int .i64 an :: (b8s at_ ++ []))) = _
  rw [List.append_nil]
  rfl
end
theorem att_parts (k r : List UInt8) (n : Int) (t : List UInt8) : ([b8s k, b8s r, [.int .i64 n], b8s t] : List (List Value)).flatten = attC k r n t := by
  show b8s k ++ (b8s r ++ (Value.int .i64 n :: (b8s t ++ []))) = _
  rw [List.append_nil]
  rfl
def claimC (ck : List UInt8) (cn : Int) (ci cc : Nat) (cg : Bool) : List Value := b8s ck ++ [.int .i64 cn, .int .u64 ((ci : Nat) : Int), .int .u64 ((cc : Nat) : Int), .bool cg]
section
variable {ck : List UInt8} {cn : Int} {ci cc : Nat} {cg : Bool}
theorem claimC_length (h : ck.length = 32) : (claimC ck cn ci cc cg).length = 36 := by simp [claimC, b8s_length, h]
theorem claimC_one : ∀ v ∈ claimC ck cn ci cc cg, v.oneCell' = true := by
  intro v hv
  simp only [claimC, List.mem_append, List.mem_cons, List.not_mem_nil, or_false] at hv
  rcases hv with h | rfl | rfl | rfl | rfl
  · exact b8s_one _ v h
  · rfl
  · rfl
  · rfl
  · rfl
end
structure Zs where
  u : Sl3
  p : Sl3
  i : Sl3
  y : Sl3
  f : Sl3
def zs0 : Zs := ⟨sl0, sl0, sl0, sl0, sl0⟩
abbrev frmP (f : Frm) (z : Zs) : List (List Value) := frmL f.kind f.frm f.dst f.pTo f.pKind f.pSeq f.pAbout z.u f.gos.kind z.p f.gos.sum f.gos.cnt z.i f.gos.ans f.cKey f.cNode f.cInc f.cCnt f.cGone f.att.k f.att.r f.att.n f.att.t f.root f.chunk z.y z.f
def updC (u : Int × UInt8 × Nat) : List Value := [.int .i64 u.1, .int .u8 ((u.2.1.toNat : Nat) : Int), .int .u64 ((u.2.2 : Nat) : Int)]
theorem upd_sized (l : List (Int × UInt8 × Nat)) : Sized 3 (l.map updC) := fun c hc => by
  obtain ⟨r, _, rfl⟩ := List.mem_map.1 hc
  exact ⟨rfl, fun v hv => by simp only [updC, List.mem_cons, List.not_mem_nil, or_false] at hv; rcases hv with rfl | rfl | rfl <;> rfl⟩
structure SlN (s : Sl3) : Prop where
  nil : s.A = none → s.c = 0
  nc : s.n ≤ s.c
  cm : s.c ≤ 9223372036854775807
theorem SlN.zero : SlN sl0 := ⟨fun _ => rfl, Nat.le_refl _, by decide⟩
structure LiesF (w : World) (z : Zs) (f : Frm) : Prop where
  upd : SlR w 3 z.u.A z.u.n (f.pUpd.map updC)
  pre : Byt w z.p.A z.p.n f.gos.pre
  its : SlA w z.i.A z.i.n f.gos.items
  byt : Byt w z.y.A z.y.n f.byt
  prf : SlR w 32 z.f.A z.f.n (f.prf.map b8s)
  nu : SlN z.u
  np : SlN z.p
  ni : SlN z.i
  ny : SlN z.y
  nf : SlN z.f
def Zs.In (z : Zs) (Q : Nat → Prop) : Prop := (∀ g off, z.u.A = some ⟨g, off, none⟩ → Q g) ∧ (∀ g off, z.p.A = some ⟨g, off, none⟩ → Q g) ∧ (∀ g off, z.i.A = some ⟨g, off, none⟩ → Q g) ∧ (∀ g off, z.y.A = some ⟨g, off, none⟩ → Q g) ∧ (∀ g off, z.f.A = some ⟨g, off, none⟩ → Q g)
theorem LiesF.chg {w w' : World} {z : Zs} {f : Frm} {S : List Nat} (h : LiesF w z f) (c : Chg S w w') (ho : z.In fun g => g < w.heap.size → Off g S) : LiesF w' z f :=
  ⟨h.upd.chg c ho.1, byt_chg h.pre c ho.2.1, h.its.chg c ho.2.2.1, byt_chg h.byt c ho.2.2.2.1, h.prf.chg c ho.2.2.2.2, h.nu, h.np, h.ni, h.ny, h.nf⟩
theorem slR_nil (w : World) (sz : Nat) (A : Option Addr) : SlR w sz A 0 [] := ⟨rfl, fun _ h => (by cases h), Sl.nil w A sz⟩
theorem byt_nil0 (w : World) (A : Option Addr) : Byt w A 0 [] := ⟨rfl, fun h => absurd h (Nat.lt_irrefl 0)⟩
structure FrmIn (f : Frm) : Prop where
  ok : FrmOk f
  frm : -9223372036854775808 ≤ f.frm ∧ f.frm ≤ 9223372036854775807
  dst : -9223372036854775808 ≤ f.dst ∧ f.dst ≤ 9223372036854775807
  pTo : -9223372036854775808 ≤ f.pTo ∧ f.pTo ≤ 9223372036854775807
  pAb : -9223372036854775808 ≤ f.pAbout ∧ f.pAbout ≤ 9223372036854775807
  upd : ∀ u, u ∈ f.pUpd → -9223372036854775808 ≤ u.1 ∧ u.1 ≤ 9223372036854775807
  cnt : -9223372036854775808 ≤ f.gos.cnt ∧ f.gos.cnt ≤ 9223372036854775807
  cNo : -9223372036854775808 ≤ f.cNode ∧ f.cNode ≤ 9223372036854775807
  chk : -9223372036854775808 ≤ f.chunk ∧ f.chunk ≤ 9223372036854775807
end Mur
namespace Go.Proofs.YtgbadghjnpbiaaaDoor
open Go.RowKit Wk
open Mur (b8s z32 sl0 frmL claimC)
theorem built_head0 : Program.built Tryd.prog 39 [] = some (frmL 0 0 0 0 0 0 0 sl0 0 sl0 z32 0 sl0 false z32 0 0 0 false z32 z32 0 z32 z32 0 sl0 sl0).flatten.toArray := by kernel_rfl
theorem built_head1 (k : UInt8) : Program.built Tryd.prog 39 [(0, .int .u8 ((k.toNat : Nat) : Int))] = some (frmL k 0 0 0 0 0 0 sl0 0 sl0 z32 0 sl0 false z32 0 0 0 false z32 z32 0 z32 z32 0 sl0 sl0).flatten.toArray := by kernel_rfl
theorem built_head3 (k : UInt8) (a b : Int) : Program.built Tryd.prog 39 [(0, .int .u8 ((k.toNat : Nat) : Int)), (1, .int .i64 a), (2, .int .i64 b)] = some (frmL k a b 0 0 0 0 sl0 0 sl0 z32 0 sl0 false z32 0 0 0 false z32 z32 0 z32 z32 0 sl0 sl0).flatten.toArray := by kernel_rfl
end Go.Proofs.YtgbadghjnpbiaaaDoor
namespace Mur
theorem FrmIn.sz {f : Frm} {z : Zs} (h : FrmIn f) : (frmP f z).map List.length = frmS := frmL_sz h.ok.sum h.ok.key f.att.hk f.att.hr f.att.ht h.ok.root
end Mur
namespace Go
open Wk Mur
abbrev frmh (k : UInt8) (a b : Int) : List (List Value) := frmL k a b 0 0 0 0 sl0 0 sl0 z32 0 sl0 false z32 0 0 0 false z32 z32 0 z32 z32 0 sl0 sl0
theorem fl {P : Program} {a : Act} {w : World} {o : Oper} (ty : TypeId) (x g off : Nat) (v : Value) {L : List (List Value)} {t : TypeId} {fr : Nat × Nat} (hs : L.map List.length = frmS) (h : w.heap[g]? = some (.cells L.flatten.toArray t fr)) (i : Nat) (hx : L[i]? = some [v] := by exact rfl) (hk : (frmS.take i).sum = off := by exact rfl)
    (ho : o.op = .load ty (.tmp x) := by exact rfl) (hi : (match P.underlying ty with | some (.struct _) | some (.array _ _) | none => false | _ => true) = true := by kernel_rfl) (hp : a.eval (.tmp x) = .pointer (some ⟨g, off, none⟩) := by kernel_rfl) : (execOp a.eval o).run P w = .ok (.value v) w := by
  have hc := segs_cell hs (range_row h) i hx hk
  rw [Nat.zero_add] at hc
  exact load1 ty (.tmp x) ho hi ⟨g, off, none⟩ hp v hc
end Go
namespace Mur
open Go Go.RowKit Wk
section
variable {α : Type} {p : Prs α} {b : List UInt8} {at_ at1 at2 at3 : Nat} {bad bad1 bad2 bad3 : Bool}
theorem readC_no {k : Nat} (h : k < 1 ∨ 6 < k) (c : List UInt8) : readC k c = none := by
  unfold readC
  rw [if_neg (by omega), if_neg (by omega), if_neg (by omega), if_neg (by omega), if_neg (by omega), if_neg (by omega)]
theorem readK_le {c r : List UInt8} {v : Nat} (h : readK c = some (v, r)) : v ≤ 255 := (codecK.un _ _ _ h).2
theorem u8_small {v : Nat} (h : v ≤ 255) : (UInt8.ofNat v).toNat = v := by
  simp
  omega
theorem Step.gos_sum {v : Nat} {c : Cont} (h : Step readK b at_ bad at1 bad1 v) (k : Step readSm b at1 bad1 at2 bad2 c) (hv : UInt8.ofNat v = 1) : Step readGo b at_ bad at2 bad2 c := by
  have hv1 : v ≤ 255 → v = 1 := fun h1 => by
    have := congrArg UInt8.toNat hv
    rw [u8_small h1] at this
    exact this
  refine ⟨fun e => ?_, fun e => ?_⟩
  · have h1 := k.ok e
    have h2 := h.ok h1.1
    refine ⟨h2.1, ?_⟩
    unfold readGo
    rw [h2.2, Option.bind_some, if_pos (hv1 (readK_le h2.2))]
    exact h1.2
  · cases bad1 with
    | true => exact (h.no rfl).imp id fun h2 => by unfold readGo; rw [h2]; rfl
    | false =>
      have h2 := h.ok rfl
      rcases k.no e with h3 | h3
      · cases h3
      · refine .inr ?_
        unfold readGo
        rw [h2.2, Option.bind_some, if_pos (hv1 (readK_le h2.2))]
        exact h3
theorem Step.gos_items {v : Nat} {c : Cont} (h : Step readK b at_ bad at1 bad1 v) (k : Step (readIt v) b at1 bad1 at2 bad2 c) (hv : ¬ UInt8.ofNat v = 1) : Step readGo b at_ bad at2 bad2 c := by
  have hv1 : ¬ v = 1 := fun e => hv (by rw [e]; rfl)
  refine ⟨fun e => ?_, fun e => ?_⟩
  · have h1 := k.ok e
    have h2 := h.ok h1.1
    refine ⟨h2.1, ?_⟩
    unfold readGo
    rw [h2.2, Option.bind_some, if_neg hv1]
    exact h1.2
  · cases bad1 with
    | true => exact (h.no rfl).imp id fun h2 => by unfold readGo; rw [h2]; rfl
    | false =>
      have h2 := h.ok rfl
      rcases k.no e with h3 | h3
      · cases h3
      · refine .inr ?_
        unfold readGo
        rw [h2.2, Option.bind_some, if_neg hv1]
        exact h3
theorem Step.fra {v f d : Nat} {c : Cont} (h : Step (pSeq readK (pSeq readI readI)) b at_ bad at1 bad1 (v, (f, d))) (k : Step (readC (UInt8.ofNat v).toNat) b at1 bad1 at2 bad2 c) : Step readF b at_ bad at2 bad2 ⟨f, d, c⟩ := by
  have hk : ∀ {s r}, pSeq readK (pSeq readI readI) s = some ((v, (f, d)), r) → v ≤ 255 := fun {s r} e => by
    unfold pSeq at e
    obtain ⟨y, h1, h2⟩ := Option.bind_eq_some_iff.1 e
    obtain ⟨z, h3, h4⟩ := Option.map_eq_some_iff.1 h2
    simp only [Prod.mk.injEq] at h4
    obtain ⟨⟨rfl, _⟩, _⟩ := h4
    exact readK_le (v := y.1) (r := y.2) h1
  refine ⟨fun e => ?_, fun e => ?_⟩
  · have h1 := k.ok e
    have h2 := h.ok h1.1
    refine ⟨h2.1, ?_⟩
    have h3 := h1.2
    rw [u8_small (hk h2.2)] at h3
    unfold readF
    rw [h2.2, Option.bind_some]
    show (readC v _).map _ = _
    rw [h3]
    rfl
  · cases bad1 with
    | true => exact (h.no rfl).imp id fun h2 => by unfold readF; rw [h2]; rfl
    | false =>
      have h2 := h.ok rfl
      rcases k.no e with h3 | h3
      · cases h3
      · rw [u8_small (hk h2.2)] at h3
        refine .inr ?_
        unfold readF
        rw [h2.2, Option.bind_some]
        show (readC v _).map _ = _
        rw [h3]
        rfl
theorem Step.fra_no {v f d : Nat} (h : Step (pSeq readK (pSeq readI readI)) b at_ bad at1 bad1 (v, (f, d))) (hv : (UInt8.ofNat v).toNat < 1 ∨ 6 < (UInt8.ofNat v).toNat) : bad = true ∨ readF (b.drop at_) = none := by
  cases bad1 with
  | true => exact (h.no rfl).imp id fun h2 => by unfold readF; rw [h2]; rfl
  | false =>
    have h2 := h.ok rfl
    refine .inr ?_
    unfold readF
    rw [h2.2, Option.bind_some]
    show (readC v _).map _ = none
    have : v < 1 ∨ 6 < v := by
      rcases Nat.lt_or_ge 255 v with h3 | h3
      · exact .inr (by omega)
      · rw [u8_small h3] at hv
        exact hv
    rw [readC_no this]
    rfl
end
-- rows as they lie
def updU (u : Upd) : List Value := updC (((u.node : Nat) : Int), UInt8.ofNat u.st, u.inc)
def attL (x : Att) : List Value := attC x.k x.r x.n x.t
theorem updU_len (u : Upd) : (updU u).length = 3 := rfl
theorem updC_one (u : Int × UInt8 × Nat) : ∀ v ∈ updC u, v.oneCell' = true := (upd_sized [u] _ (List.mem_singleton.2 rfl)).2
theorem attL_len (x : Att) : (attL x).length = 97 := attC_length x.hk x.hr x.ht
theorem attL_flat : ∀ L : List Att, flatR (L.map attL) = rowA L
  | [] => rfl
  | x :: L => by
    have := attL_flat L
    simp only [flatR, List.map_cons, List.flatten_cons] at this ⊢
    rw [this]
    rfl
theorem SlR.slA {w : World} {A : Option Addr} {n : Nat} {L : List Att} (h : SlR w 97 A n (L.map attL)) : SlA w A n L := ⟨by rw [← h.len, List.length_map], by rw [← attL_flat]; exact h.sl⟩
theorem SlR.keepQ {w w' : World} {sz : Nat} {A : Option Addr} {n : Nat} {R : List (List Value)} {S : List Nat} (h : SlR w sz A n R) (c : Chg S w w') (ho : ∀ g off, A = some ⟨g, off, none⟩ → g < w.heap.size → Off g S) : SlR w' sz A n R := h.chg c ho
theorem updU_map (l : List Upd) : l.map updU = (l.map fun u => (((u.node : Nat) : Int), UInt8.ofNat u.st, u.inc)).map updC := by rw [List.map_map]; rfl
end Mur
namespace Mur
open Go Go.RowKit Wk
def inC : Cont → Prop
  | .probe _ s a l => s < 2 ^ 64 ∧ a ≤ 2 ^ 30 ∧ ∀ u, u ∈ l → u.node ≤ 2 ^ 30 ∧ u.inc < 2 ^ 64
  | .sum _ d n => d.length = 32 ∧ n ≤ 2 ^ 30
  | .items .. => True
  | .claim k i n _ => k.length = 32 ∧ i < 2 ^ 64 ∧ n < 2 ^ 64
  | .result _ => True
  | .want r c => r.length = 32 ∧ c ≤ 2 ^ 30
  | .chunk r c _ p => r.length = 32 ∧ c ≤ 2 ^ 30 ∧ ∀ x, x ∈ p → x.length = 32
theorem zN : (0 : Nat) < 2 ^ 64 := by decide
theorem zI : -9223372036854775808 ≤ (0 : Int) ∧ (0 : Int) ≤ 9223372036854775807 := by decide
theorem frmIn_head (k : UInt8) {a b : Int} (ha : -9223372036854775808 ≤ a ∧ a ≤ 9223372036854775807) (hb : -9223372036854775808 ≤ b ∧ b ≤ 9223372036854775807) : FrmIn (headM k a b) :=
  ⟨⟨zN, zN, zN, fun _ h => (by cases h), rfl, rfl, rfl, fun _ h => (by cases h)⟩, ha, hb, zI, zI, fun _ h => (by cases h), zI, zI, zI⟩
theorem frmIn_of {a b : Nat} (ha : a ≤ 2 ^ 30) (hb : b ≤ 2 ^ 30) {c : Cont} (h : inC c) : FrmIn (ofCon a b c) := by
  have hA : -9223372036854775808 ≤ ((a : Nat) : Int) ∧ ((a : Nat) : Int) ≤ 9223372036854775807 := by omega
  have hB : -9223372036854775808 ≤ ((b : Nat) : Int) ∧ ((b : Nat) : Int) ≤ 9223372036854775807 := by omega
  cases c with
  | probe k s m l =>
    obtain ⟨h1, h2, h3⟩ := h
    refine ⟨⟨h1, zN, zN, fun u hu => ?_, rfl, rfl, rfl, fun _ q => (by cases q)⟩, hA, hB, hB, ?_, fun u hu => ?_, zI, zI, zI⟩
    · obtain ⟨v, hv, rfl⟩ := List.mem_map.1 hu
      exact (h3 v hv).2
    · show -9223372036854775808 ≤ ((m : Nat) : Int) ∧ ((m : Nat) : Int) ≤ 9223372036854775807
      omega
    · obtain ⟨v, hv, rfl⟩ := List.mem_map.1 hu
      have := (h3 v hv).1
      show -9223372036854775808 ≤ ((v.node : Nat) : Int) ∧ ((v.node : Nat) : Int) ≤ 9223372036854775807
      omega
  | sum p d n =>
    obtain ⟨h1, h2⟩ := h
    refine ⟨⟨zN, zN, zN, fun _ q => (by cases q), h1, rfl, rfl, fun _ q => (by cases q)⟩, hA, hB, zI, zI, fun _ q => (by cases q), ?_, zI, zI⟩
    show -9223372036854775808 ≤ ((n : Nat) : Int) ∧ ((n : Nat) : Int) ≤ 9223372036854775807
    omega
  | items k p l g => exact ⟨⟨zN, zN, zN, fun _ q => (by cases q), rfl, rfl, rfl, fun _ q => (by cases q)⟩, hA, hB, zI, zI, fun _ q => (by cases q), zI, zI, zI⟩
  | claim k i n g => exact ⟨⟨zN, h.2.1, h.2.2, fun _ q => (by cases q), rfl, h.1, rfl, fun _ q => (by cases q)⟩, hA, hB, zI, zI, fun _ q => (by cases q), zI, hA, zI⟩
  | result x => exact ⟨⟨zN, zN, zN, fun _ q => (by cases q), rfl, rfl, rfl, fun _ q => (by cases q)⟩, hA, hB, zI, zI, fun _ q => (by cases q), zI, zI, zI⟩
  | want r c =>
    obtain ⟨h1, h2⟩ := h
    refine ⟨⟨zN, zN, zN, fun _ q => (by cases q), rfl, rfl, h1, fun _ q => (by cases q)⟩, hA, hB, zI, zI, fun _ q => (by cases q), zI, zI, ?_⟩
    show -9223372036854775808 ≤ ((c : Nat) : Int) ∧ ((c : Nat) : Int) ≤ 9223372036854775807
    omega
  | chunk r c y p =>
    obtain ⟨h1, h2, h3⟩ := h
    refine ⟨⟨zN, zN, zN, fun _ q => (by cases q), rfl, rfl, h1, h3⟩, hA, hB, zI, zI, fun _ q => (by cases q), zI, zI, ?_⟩
    show -9223372036854775808 ≤ ((c : Nat) : Int) ∧ ((c : Nat) : Int) ≤ 9223372036854775807
    omega
section
variable {w : World} {a b : Nat}
theorem lies_none {f : Frm} (h1 : f.pUpd = []) (h2 : f.gos.pre = []) (h3 : f.gos.items = []) (h4 : f.byt = []) (h5 : f.prf = []) : LiesF w zs0 f :=
  ⟨by rw [h1]; exact slR_nil w 3 none, by rw [h2]; exact byt_nil0 w none, by rw [h3]; exact SlA.nil w none, by rw [h4]; exact byt_nil0 w none, by rw [h5]; exact slR_nil w 32 none, SlN.zero, SlN.zero, SlN.zero, SlN.zero, SlN.zero⟩
theorem lies_probe {u : Sl3} {k s m : Nat} {l : List Upd} (h : SlR w 3 u.A u.n (l.map updU)) (hn : SlN u) : LiesF w ⟨u, sl0, sl0, sl0, sl0⟩ (ofCon a b (.probe k s m l)) :=
  ⟨updU_map l ▸ h, byt_nil0 w none, SlA.nil w none, byt_nil0 w none, slR_nil w 32 none, hn, SlN.zero, SlN.zero, SlN.zero, SlN.zero⟩
theorem lies_sum {p : Sl3} {x d : List UInt8} {n : Nat} (h : Byt w p.A p.n x) (hn : SlN p) : LiesF w ⟨sl0, p, sl0, sl0, sl0⟩ (ofCon a b (.sum x d n)) :=
  ⟨slR_nil w 3 none, h, SlA.nil w none, byt_nil0 w none, slR_nil w 32 none, SlN.zero, hn, SlN.zero, SlN.zero, SlN.zero⟩
theorem lies_items {p i : Sl3} {k : Nat} {x : List UInt8} {l : List Att} {g : Bool} (h : Byt w p.A p.n x) (hn : SlN p) (h2 : SlR w 97 i.A i.n (l.map attL)) (hn2 : SlN i) : LiesF w ⟨sl0, p, i, sl0, sl0⟩ (ofCon a b (.items k x l g)) :=
  ⟨slR_nil w 3 none, h, h2.slA, byt_nil0 w none, slR_nil w 32 none, SlN.zero, hn, hn2, SlN.zero, SlN.zero⟩
theorem lies_chunk {y f : Sl3} {r : List UInt8} {c : Nat} {x : List UInt8} {l : List (List UInt8)} (h : Byt w y.A y.n x) (hn : SlN y) (h2 : SlR w 32 f.A f.n (l.map b8s)) (hn2 : SlN f) : LiesF w ⟨sl0, sl0, sl0, y, f⟩ (ofCon a b (.chunk r c x l)) :=
  ⟨slR_nil w 3 none, byt_nil0 w none, SlA.nil w none, h, h2, SlN.zero, SlN.zero, SlN.zero, hn, hn2⟩
end
theorem sl0_in {Q : Nat → Prop} : ∀ g off, sl0.A = some ⟨g, off, none⟩ → Q g := fun _ _ e => by cases e
end Mur
