/- What the row rests on, part 7. -/
import Derived.Laws.Concat
import Derived.Test.YtgbadghjnpbiaaaGreatDoorRR6
import Derived.Test.YtgbadghjnpbiaaaGreatDoorRR4
import Derived.Test.YtgbadghjnpbiaaaGreatDoorRR5
namespace Mur
open Go Go.RowKit Wk
section
variable {α : Type}
theorem flat_part {L : List (List α)} {sz : List Nat} (hs : L.map List.length = sz) (i n : Nat) :
  L.flatten = (L.take i).flatten ++ (((L.drop i).take n).flatten ++ (L.drop (i + n)).flatten) ∧ (L.take i).flatten.length = (sz.take i).sum ∧ ((L.drop i).take n).flatten.length = ((sz.drop i).take n).sum := by
 refine ⟨?_, ?_, ?_⟩
 ·rw [← List.drop_drop, ← List.flatten_append, List.take_append_drop, ← List.flatten_append, List.take_append_drop]
 ·rw [List.length_flatten, List.map_take, hs]
 ·rw [List.length_flatten, List.map_take, List.map_drop, hs]
end
section
variable {w : World} {g o : Nat} {L : List (List Value)} {sz : List Nat}
theorem segs_rng (hs : L.map List.length = sz) (h : w.rangeAt g o L.flatten) (i n : Nat) {x : List Value} {k : Nat} (hx : ((L.drop i).take n).flatten = x) (hk : (sz.take i).sum = k) : w.rangeAt g (o + k) x := fun j v hv => by
 obtain ⟨h1, h2, _⟩ := flat_part hs i n
 rw [hx] at h1
 have hj := (List.getElem?_eq_some_iff.1 hv).1
 have := h (k + j) v (by
  rw [h1, List.getElem?_append_right (by omega), h2, hk, Nat.add_sub_cancel_left, List.getElem?_append_left hj]
  exact hv)
 rw [← Nat.add_assoc] at this
 exact this
theorem segs_cell (hs : L.map List.length = sz) (h : w.rangeAt g o L.flatten) (i : Nat) {v : Value} {k : Nat} (hx : L[i]? = some [v]) (hk : (sz.take i).sum = k) : w.cell? ⟨g, o + k, none⟩ = some v := by
 obtain ⟨hi, he⟩ := List.getElem?_eq_some_iff.1 hx
 have := segs_rng hs h i 1 (x := [v]) (k := k) (by rw [List.drop_eq_getElem_cons hi, he]; rfl) hk
 exact this 0 v rfl
theorem segs_row (hs : L.map List.length = sz) (h : w.rangeAt g o L.flatten) (i : Nat) {x : List Value} {k : Nat} (hx : L[i]? = some x) (hk : (sz.take i).sum = k) : w.rangeAt g (o + k) x := by
 obtain ⟨hi, he⟩ := List.getElem?_eq_some_iff.1 hx
 exact segs_rng hs h i 1 (by rw [List.drop_eq_getElem_cons hi, he]; simp) hk
variable {P : Program} {a : Act} {p : Oper}
theorem store_segs (ty : TypeId) (x y : Operand) (ho : p.op = .store ty x y) (off : Nat) (hx : a.eval x = .pointer (some ⟨g, off, none⟩)) (vs : List Value) (hy : a.eval y = .agg vs.toArray) (hi : (P.info? ty).map (·.size) = some vs.length) (h1 : ∀ v ∈ vs, v.oneCell' = true)
  (t : TypeId) (hs : L.map List.length = sz) (hg : w.heap[g]? = some (.cells L.flatten.toArray t (0, 0))) (i : Nat) (V : List (List Value)) (hV : V.flatten = vs) (hk : (sz.take i).sum = off) (hn : ((sz.drop i).take V.length).sum = vs.length)
  (L2 : List (List Value)) (hL : L.take i ++ (V ++ L.drop (i + V.length)) = L2) : ∃ w', (execOp a.eval p).run P w = .ok .skip w' ∧ w'.heap[g]? = some (.cells L2.flatten.toArray t (0, 0)) ∧ Chg [g] w w' := by
 obtain ⟨e1, e2, e3⟩ := flat_part hs i V.length
 obtain ⟨w', a1, a2, a3⟩ := storeR (P := P) ty x y ho g off hx vs hy hi h1 t L.flatten hg (by rw [e1, List.length_append, e2, List.length_append, e3, hk, hn]; omega)
 refine ⟨w', a1, ?_, a3⟩
 rw [a2, e1, splice_mid (by rw [e2, hk]) (by rw [e3, hn]), ← hL, List.flatten_append, List.flatten_append, hV]
theorem store_seg1 (ty : TypeId) (x y : Operand) (ho : p.op = .store ty x y) (hi : (P.info? ty).map (·.size) = some 1) (off : Nat) (hx : a.eval x = .pointer (some ⟨g, off, none⟩)) (v : Value) (hy : a.eval y = v) (h1 : v.oneCell' = true)
  (t : TypeId) (hs : L.map List.length = sz) (hg : w.heap[g]? = some (.cells L.flatten.toArray t (0, 0))) (i : Nat) (hk : (sz.take i).sum = off) (hn : ((sz.drop i).take 1).sum = 1)
  (L2 : List (List Value)) (hL : L.take i ++ ([v] :: L.drop (i + 1)) = L2) : ∃ w', (execOp a.eval p).run P w = .ok .skip w' ∧ w'.heap[g]? = some (.cells L2.flatten.toArray t (0, 0)) ∧ Chg [g] w w' := by
 obtain ⟨e1, e2, e3⟩ := flat_part hs i 1
 have hlt : off < L.flatten.length := by rw [e1, List.length_append, e2, List.length_append, e3, hk, hn]; omega
 obtain ⟨w', a1, a2, a3⟩ := store1 (P := P) ty x y ho hi g off hx v hy h1 t L.flatten.toArray hg (by simpa using hlt)
 refine ⟨w', a1, ?_, a3⟩
 have e4 : L.flatten.set off v = L2.flatten := by
  have := splice_set L.flatten off v [] hlt
  have e5 : splice (L.flatten.set off v) (off + 1) [] = L.flatten.set off v := by simp [splice]
  rw [e5, e1, splice_mid (vs := [v]) (by rw [e2, hk]) (by rw [e3, hn]; rfl)] at this
  rw [e1, this, ← hL, List.flatten_append, List.flatten_cons]
 rw [a2, List.setIfInBounds_toArray, e4]
end
theorem cutA_blk {A : Option Addr} {c k : Nat} {Q : Nat → Prop} (h : ∀ a, A = some a → Q a.block) : ∀ a, cutA A c k = some a → Q a.block := fun a ha => by
 unfold cutA at ha
 split at ha
 ·exact h a ha
 ·obtain ⟨a', h1, rfl⟩ := Option.map_eq_some_iff.1 ha
  have e : (a'.add k).block = a'.block := by unfold Addr.add; split <;> rfl
  rw [e]
  exact h a' h1
theorem cutA_ne {w : World} {A : Option Addr} {n c k : Nat} {l : List UInt8} (h : Byt w A n l) (hn : 0 < n) : cutA A c k ≠ none := fun e => by
 obtain ⟨g, off, rfl, _⟩ := h.2 hn
 unfold cutA at e
 split at e <;> cases e
theorem byt_chgp {S : List Nat} {w w' : World} {A : Option Addr} {n : Nat} {l : List UInt8} (h : Byt w A n l) (c : Chg S w w') (ho : ∀ g off, A = some ⟨g, off, none⟩ → 0 < n → g < w.heap.size → Off g S) : Byt w' A n l := by
 rcases Nat.eq_zero_or_pos n with h0 | h0
 ·subst h0
  exact ⟨h.1, fun h1 => absurd h1 (Nat.lt_irrefl 0)⟩
 ·exact byt_chg h c fun g off e hl => ho g off e h0 hl
theorem rng_byt {w : World} {g off n : Nat} {l : List UInt8} (h : Byt w (some ⟨g, off, none⟩) n l) : w.rangeAt g off (b8s l) := fun j v hv => by
 have hj : j < l.length := by have := (List.getElem?_eq_some_iff.1 hv).1; rwa [b8s_length] at this
 have h1 := b8s_get l j hj
 rw [hv] at h1
 rw [Option.some.inj h1]
 obtain ⟨g2, off2, e, hc⟩ := h.2 (by have := h.1; omega)
 cases e
 exact hc j (by have := h.1; omega)
section
variable {P : Program} {w : World} {a : Act} {o : Oper}
theorem s2a (t e : TypeId) (x : Operand) (n : Nat) (ho : o.op = .sliceToArrayPointer t x) (ht : P.underlying t = some (.array n e)) (A : Option Addr) (m c : Nat) (hx : a.eval x = .slice A m c) (hm : n ≤ m) : (execOp a.eval o).run P w = .ok (.value (.pointer A)) w := by
 unfold execOp
 simp only [ho, hx]
 simp [Instr.arrayAt, run_underlying ht]
 omega
theorem run_op_cutF (t : TypeId) (x y z : Operand) (ho : o.op = .slice t x (some y) (some z) none) (e : TypeId) (ht : P.underlying t = some (.slice e)) (hsz : (P.info? e).map (·.size) = some 1)
  (A : Option Addr) (n c l m : Nat) (hx : a.eval x = .slice A n c) (hy : a.eval y = .int .i64 (l : Int)) (hz : a.eval z = .int .i64 (m : Int)) (hl : l ≤ m) (hm : m ≤ n) (hnc : n ≤ c) :
  (execOp a.eval o).run P w = .ok (.value (.slice (cutA A c l) (m - l) (c - l))) w := by
 unfold execOp
 simp only [ho, hx, hy, hz, Option.map_some, Option.map_none, Sem.run_bind, run_cut t e ht hsz A n c l m hl hm hnc, Result.andThen_ok, Sem.run_pure]
theorem makeZ (t e : TypeId) (x : Operand) (ho : o.op = .makeSlice t x x) (ht : P.underlying t = some (.slice e)) (hinfo : (P.info? e).map (fun i => (i.zero, i.size, i.bytes)) = some (some (.int .u8 0), 1, 1)) (k : Nat) (hk : k ≤ 1000000) (hx : a.eval x = .int .i64 ((k : Nat) : Int)) :
  ∃ v w1, (execOp a.eval o).run P w = .ok (.value v) w1 ∧ v = .slice (some ⟨w.heap.size, 0, none⟩) k k ∧ w1.heap[w.heap.size]? = some (.cells (b8s (List.replicate k 0)).toArray e (0, 0)) ∧ Chg [] w w1 ∧ w.heap.size < w1.heap.size := by
 obtain ⟨i, hi, hs⟩ := Option.map_eq_some_iff.1 hinfo
 simp only [Prod.mk.injEq] at hs
 have h := run_make (P := P) w t e i (.int .u8 0) ht hi hs.1 .i64 .i64 ((k : Nat) : Int) ((k : Nat) : Int) (by omega) (by omega) (by rw [hs.2.2]; omega) (by omega)
 rw [hs.2.1, Int.toNat_natCast, Nat.mul_one, show (Value.int .u8 0).cells = #[.int .u8 0] from rfl, made_zeros] at h
 refine ⟨_, w.alloc (.cells (b8s (List.replicate k 0)).toArray e), ?_, rfl, heap_alloc_new w _, Chg.alloc w _, by simp⟩
 unfold execOp
 simp only [ho, hx, Sem.run_bind, h, Result.andThen_ok, Sem.run_pure]
end
structure Sl3 where
 A : Option Addr
 n : Nat
 c : Nat
def sl0 : Sl3 := ⟨none, 0, 0⟩
def Sl3.v (s : Sl3) : Value := .slice s.A s.n s.c
def frmL (k : UInt8) (a b to : Int) (pk : UInt8) (sq : Nat) (ab : Int) (u : Sl3) (gk : UInt8) (p : Sl3) (gs : List UInt8) (gn : Int) (i : Sl3) (ga : Bool) (ck : List UInt8) (cn : Int) (ci cc : Nat) (cg : Bool) (ak ar : List UInt8) (an : Int) (at_ rt : List UInt8) (ch : Int) (y f : Sl3) : List (List Value) :=
 [[.int .u8 ((k.toNat : Nat) : Int)], [.int .i64 a], [.int .i64 b], [.int .i64 to], [.int .u8 ((pk.toNat : Nat) : Int)], [.int .u64 ((sq : Nat) : Int)], [.int .i64 ab], [.slice u.A u.n u.c], [.int .u8 ((gk.toNat : Nat) : Int)], [.slice p.A p.n p.c], b8s gs, [.int .i64 gn], [.slice i.A i.n i.c], [.bool ga],
  b8s ck, [.int .i64 cn], [.int .u64 ((ci : Nat) : Int)], [.int .u64 ((cc : Nat) : Int)], [.bool cg], b8s ak, b8s ar, [.int .i64 an], b8s at_, b8s rt, [.int .i64 ch], [.slice y.A y.n y.c], [.slice f.A f.n f.c]]
def frmS : List Nat := [1, 1, 1, 1, 1, 1, 1, 1, 1, 1, 32, 1, 1, 1, 32, 1, 1, 1, 1, 32, 32, 1, 32, 32, 1, 1, 1]
section
variable {k : UInt8} {a b to : Int} {pk : UInt8} {sq : Nat} {ab : Int} {u : Sl3} {gk : UInt8} {p : Sl3} {gs : List UInt8} {gn : Int} {i : Sl3} {ga : Bool} {ck : List UInt8} {cn : Int} {ci cc : Nat} {cg : Bool} {ak ar : List UInt8} {an : Int} {at_ rt : List UInt8} {ch : Int} {y f : Sl3}
theorem frmL_sz (h1 : gs.length = 32) (h2 : ck.length = 32) (h3 : ak.length = 32) (h4 : ar.length = 32) (h5 : at_.length = 32) (h6 : rt.length = 32) : (frmL k a b to pk sq ab u gk p gs gn i ga ck cn ci cc cg ak ar an at_ rt ch y f).map List.length = frmS := by
 simp [frmL, frmS, b8s_length, h1, h2, h3, h4, h5, h6]
theorem frmL_size (h : (frmL k a b to pk sq ab u gk p gs gn i ga ck cn ci cc cg ak ar an at_ rt ch y f).map List.length = frmS) : (frmL k a b to pk sq ab u gk p gs gn i ga ck cn ci cc cg ak ar an at_ rt ch y f).flatten.toArray.size = 213 := by
 rw [List.size_toArray, List.length_flatten, h]
 rfl
theorem frmL_one : ∀ v ∈ (frmL k a b to pk sq ab u gk p gs gn i ga ck cn ci cc cg ak ar an at_ rt ch y f).flatten, v.oneCell' = true := by
 intro v hv
 obtain ⟨l, hl, hv⟩ := List.mem_flatten.1 hv
 have hb : ∀ x : List UInt8, l = b8s x → v.oneCell' = true := fun x e => b8s_one x v (e ▸ hv)
 have hs : ∀ z : Value, z.oneCell' = true → l = [z] → v.oneCell' = true := fun z hz e => by
  rw [e] at hv
  rw [List.mem_singleton.1 hv]
  exact hz
 simp only [frmL, List.mem_cons, List.not_mem_nil, or_false] at hl
 rcases hl with e | e | e | e | e | e | e | e | e | e | e | e | e | e | e | e | e | e | e | e | e | e | e | e | e | e | e <;> first | exact hb _ e | exact hs _ rfl e
theorem frmL_all : (frmL k a b to pk sq ab u gk p gs gn i ga ck cn ci cc cg ak ar an at_ rt ch y f).flatten.toArray.all (·.oneCell') = true := Array.all_eq_true_iff_forall_mem.2 fun v hv => frmL_one v (by simpa using hv)
theorem frmL_att : (((frmL k a b to pk sq ab u gk p gs gn i ga ck cn ci cc cg ak ar an at_ rt ch y f).drop 19).take 4).flatten = attC ak ar an at_ := by
 show b8s ak ++ (b8s ar ++ (Value.int .i64 an :: (b8s at_ ++ []))) = _
 rw [List.append_nil]
 rfl
end
theorem att_parts (k r : List UInt8) (n : Int) (t : List UInt8) : ([b8s k, b8s r, [.int .i64 n], b8s t] : List (List Value)).flatten = attC k r n t := by
 show b8s k ++ (b8s r ++ (Value.int .i64 n :: (b8s t ++ []))) = _
 rw [List.append_nil]
 rfl
def claimC (ck : List UInt8) (cn : Int) (ci cc : Nat) (cg : Bool) : List Value := b8s ck ++ [.int .i64 cn, .int .u64 ((ci : Nat) : Int), .int .u64 ((cc : Nat) : Int), .bool cg]
section
variable {ck : List UInt8} {cn : Int} {ci cc : Nat} {cg : Bool}
theorem claimC_length (h : ck.length = 32) : (claimC ck cn ci cc cg).length = 36 := by simp [claimC, b8s_length, h]
theorem claimC_one : ∀ v ∈ claimC ck cn ci cc cg, v.oneCell' = true := by
 intro v hv
 simp only [claimC, List.mem_append, List.mem_cons, List.not_mem_nil, or_false] at hv
 rcases hv with h | rfl | rfl | rfl | rfl
 ·exact b8s_one _ v h
 ·rfl
 ·rfl
 ·rfl
 ·rfl
end
structure Zs where
 u : Sl3
 p : Sl3
 i : Sl3
 y : Sl3
 f : Sl3
def zs0 : Zs := ⟨sl0, sl0, sl0, sl0, sl0⟩
abbrev frmP (f : Frm) (z : Zs) : List (List Value) := frmL f.kind f.frm f.dst f.pTo f.pKind f.pSeq f.pAbout z.u f.gos.kind z.p f.gos.sum f.gos.cnt z.i f.gos.ans f.cKey f.cNode f.cInc f.cCnt f.cGone f.att.k f.att.r f.att.n f.att.t f.root f.chunk z.y z.f
def updC (u : Int × UInt8 × Nat) : List Value := [.int .i64 u.1, .int .u8 ((u.2.1.toNat : Nat) : Int), .int .u64 ((u.2.2 : Nat) : Int)]
theorem upd_sized (l : List (Int × UInt8 × Nat)) : Sized 3 (l.map updC) := fun c hc => by
 obtain ⟨r, _, rfl⟩ := List.mem_map.1 hc
 exact ⟨rfl, fun v hv => by simp only [updC, List.mem_cons, List.not_mem_nil, or_false] at hv; rcases hv with rfl | rfl | rfl <;> rfl⟩
structure SlN (s : Sl3) : Prop where
 nil : s.A = none → s.c = 0
 nc : s.n ≤ s.c
 cm : s.c ≤ 9223372036854775807
theorem SlN.zero : SlN sl0 := ⟨fun _ => rfl, Nat.le_refl _, by decide⟩
structure LiesF (w : World) (z : Zs) (f : Frm) : Prop where
 upd : SlR w 3 z.u.A z.u.n (f.pUpd.map updC)
 pre : Byt w z.p.A z.p.n f.gos.pre
 its : SlA w z.i.A z.i.n f.gos.items
 byt : Byt w z.y.A z.y.n f.byt
 prf : SlR w 32 z.f.A z.f.n (f.prf.map b8s)
 nu : SlN z.u
 np : SlN z.p
 ni : SlN z.i
 ny : SlN z.y
 nf : SlN z.f
def Zs.In (z : Zs) (Q : Nat → Prop) : Prop := (∀ g off, z.u.A = some ⟨g, off, none⟩ → Q g) ∧ (∀ g off, z.p.A = some ⟨g, off, none⟩ → Q g) ∧ (∀ g off, z.i.A = some ⟨g, off, none⟩ → Q g) ∧ (∀ g off, z.y.A = some ⟨g, off, none⟩ → Q g) ∧ (∀ g off, z.f.A = some ⟨g, off, none⟩ → Q g)
theorem LiesF.chg {w w' : World} {z : Zs} {f : Frm} {S : List Nat} (h : LiesF w z f) (c : Chg S w w') (ho : z.In fun g => g < w.heap.size → Off g S) : LiesF w' z f :=
 ⟨h.upd.chg c ho.1, byt_chg h.pre c ho.2.1, h.its.chg c ho.2.2.1, byt_chg h.byt c ho.2.2.2.1, h.prf.chg c ho.2.2.2.2, h.nu, h.np, h.ni, h.ny, h.nf⟩
theorem slR_nil (w : World) (sz : Nat) (A : Option Addr) : SlR w sz A 0 [] := ⟨rfl, fun _ h => (by cases h), Sl.nil w A sz⟩
theorem byt_nil0 (w : World) (A : Option Addr) : Byt w A 0 [] := ⟨rfl, fun h => absurd h (Nat.lt_irrefl 0)⟩
structure FrmIn (f : Frm) : Prop where
 ok : FrmOk f
 frm : -9223372036854775808 ≤ f.frm ∧ f.frm ≤ 9223372036854775807
 dst : -9223372036854775808 ≤ f.dst ∧ f.dst ≤ 9223372036854775807
 pTo : -9223372036854775808 ≤ f.pTo ∧ f.pTo ≤ 9223372036854775807
 pAb : -9223372036854775808 ≤ f.pAbout ∧ f.pAbout ≤ 9223372036854775807
 upd : ∀ u, u ∈ f.pUpd → -9223372036854775808 ≤ u.1 ∧ u.1 ≤ 9223372036854775807
 cnt : -9223372036854775808 ≤ f.gos.cnt ∧ f.gos.cnt ≤ 9223372036854775807
 cNo : -9223372036854775808 ≤ f.cNode ∧ f.cNode ≤ 9223372036854775807
 chk : -9223372036854775808 ≤ f.chunk ∧ f.chunk ≤ 9223372036854775807
end Mur
namespace Go.Proofs.YtgbadghjnpbiaaaGreatDoor
open Go.RowKit Wk
open Mur (b8s z32 sl0 frmL claimC)
theorem built_head0 : Program.built Tryz.prog 38 [] = some (frmL 0 0 0 0 0 0 0 sl0 0 sl0 z32 0 sl0 false z32 0 0 0 false z32 z32 0 z32 z32 0 sl0 sl0).flatten.toArray := by kernel_rfl
theorem built_head1 (k : UInt8) : Program.built Tryz.prog 38 [(0, .int .u8 ((k.toNat : Nat) : Int))] = some (frmL k 0 0 0 0 0 0 sl0 0 sl0 z32 0 sl0 false z32 0 0 0 false z32 z32 0 z32 z32 0 sl0 sl0).flatten.toArray := by kernel_rfl
theorem built_head3 (k : UInt8) (a b : Int) : Program.built Tryz.prog 38 [(0, .int .u8 ((k.toNat : Nat) : Int)), (1, .int .i64 a), (2, .int .i64 b)] = some (frmL k a b 0 0 0 0 sl0 0 sl0 z32 0 sl0 false z32 0 0 0 false z32 z32 0 z32 z32 0 sl0 sl0).flatten.toArray := by kernel_rfl
end Go.Proofs.YtgbadghjnpbiaaaGreatDoor
namespace Mur
theorem FrmIn.sz {f : Frm} {z : Zs} (h : FrmIn f) : (frmP f z).map List.length = frmS := frmL_sz h.ok.sum h.ok.key f.att.hk f.att.hr f.att.ht h.ok.root
end Mur
namespace Go
open Wk Mur
abbrev frmh (k : UInt8) (a b : Int) : List (List Value) := frmL k a b 0 0 0 0 sl0 0 sl0 z32 0 sl0 false z32 0 0 0 false z32 z32 0 z32 z32 0 sl0 sl0
theorem fl {P : Program} {a : Act} {w : World} {o : Oper} (ty : TypeId) (x g off : Nat) (v : Value) {L : List (List Value)} {t : TypeId} {fr : Nat × Nat} (hs : L.map List.length = frmS) (h : w.heap[g]? = some (.cells L.flatten.toArray t fr)) (i : Nat) (hx : L[i]? = some [v] := by exact rfl) (hk : (frmS.take i).sum = off := by exact rfl)
  (ho : o.op = .load ty (.tmp x) := by exact rfl) (hi : (match P.underlying ty with | some (.struct _) | some (.array _ _) | none => false | _ => true) = true := by kernel_rfl) (hp : a.eval (.tmp x) = .pointer (some ⟨g, off, none⟩) := by kernel_rfl) : (execOp a.eval o).run P w = .ok (.value v) w := by
 have hc := segs_cell hs (range_row h) i hx hk
 rw [Nat.zero_add] at hc
 exact load1 ty (.tmp x) ho hi ⟨g, off, none⟩ hp v hc
end Go
namespace Go
open Wk Mur
theorem sgR {w : World} {L : List (List Value)} {sz : List Nat} {g : Nat} {t : TypeId} {fr : Nat × Nat} {x : List Value} {k : Nat} (hs : L.map List.length = sz) (h : w.heap[g]? = some (.cells L.flatten.toArray t fr)) (i n : Nat) (hx : ((L.drop i).take n).flatten = x) (hk : (sz.take i).sum = k := by exact rfl) : w.rangeAt g k x := by
 have := segs_rng hs (range_row h) i n hx hk
 rwa [Nat.zero_add] at this
theorem sgW {w : World} {L : List (List Value)} {sz : List Nat} {g : Nat} {t : TypeId} {fr : Nat × Nat} {x : List Value} {k : Nat} (hs : L.map List.length = sz) (h : w.heap[g]? = some (.cells L.flatten.toArray t fr)) (i : Nat) (hx : L[i]? = some x := by exact rfl) (hk : (sz.take i).sum = k := by exact rfl) : w.rangeAt g k x := by
 have := segs_row hs (range_row h) i hx hk
 rwa [Nat.zero_add] at this
section
variable {P : Program} {ops : Array Oper} {Q : Exit → Act → World → Prop} {a : Act} {w : World} {o : Oper}
theorem sA {n : Nat} (vs : Array Value) (hv : vs.size = n) {g : Nat} {t : TypeId} {cs : Array Value} (hg : w.heap[g]? = some (.cells cs t (0, 0))) (hn : cs.size = n) (h1 : vs.all (·.oneCell') = true := by exact Mur.frmL_all) {ty : TypeId} {x y : Operand} (ho : o.op = .store ty x y := by exact rfl) (hx : a.eval x = .pointer (some ⟨g, 0, none⟩) := by kernel_rfl) (hy : a.eval y = .agg vs := by kernel_rfl) (hi : (P.info? ty).map (·.size) = some n := by kernel_rfl) :
  ∃ w', (execOp a.eval o).run P w = .ok .skip w' ∧ w'.heap[g]? = some (.cells vs t (0, 0)) ∧ Chg [g] w w' := storeArr ty x y ho g hx vs n hv h1 hy hi t cs hg hn
theorem sG {L : List (List Value)} {sz : List Nat} {g : Nat} {t : TypeId} (off : Nat) (v : Value) (hs : L.map List.length = sz) (hg : w.heap[g]? = some (.cells L.flatten.toArray t (0, 0))) (i : Nat) (L2 : List (List Value)) {ty : TypeId} {x y : Operand} (ho : o.op = .store ty x y := by exact rfl) (hi : (P.info? ty).map (·.size) = some 1 := by kernel_rfl) (hx : a.eval x = .pointer (some ⟨g, off, none⟩) := by kernel_rfl) (hy : a.eval y = v := by kernel_rfl) (h1 : v.oneCell' = true := by exact rfl) (hk : (sz.take i).sum = off := by exact rfl) (hn : ((sz.drop i).take 1).sum = 1 := by exact rfl) (hL : L.take i ++ ([v] :: L.drop (i + 1)) = L2 := by exact rfl) :
  ∃ w', (execOp a.eval o).run P w = .ok .skip w' ∧ w'.heap[g]? = some (.cells L2.flatten.toArray t (0, 0)) ∧ Chg [g] w w' := store_seg1 ty x y ho hi off hx v hy h1 t hs hg i hk hn L2 hL
theorem rF (i d off : Nat) (v : Value) {L : List (List Value)} {g : Nat} {t : TypeId} {fr : Nat × Nat} (hs : L.map List.length = frmS) (h : w.heap[g]? = some (.cells L.flatten.toArray t fr)) (n : Nat) (k : From P ops Q (i + 1) (a.put (some d) v) w) {ty : TypeId} {x : Nat} (hi : ops[i]? = some o := by exact rfl) (hd : o.dst = some d := by exact rfl) (ho : o.op = .load ty (.tmp x) := by exact rfl) (hx : L[n]? = some [v] := by exact rfl) (hk : (frmS.take n).sum = off := by exact rfl)
  (hu : (match P.underlying ty with | some (.struct _) | some (.array _ _) | none => false | _ => true) = true := by kernel_rfl) (hp : a.eval (.tmp x) = .pointer (some ⟨g, off, none⟩) := by kernel_rfl) (hw : Region.wanted o (yielded ops a.tmps) = true := by kernel_rfl) : From P ops Q i a w := rPure i (some d) v hi hd hw (fl ty x g off v hs h n hx hk ho hu hp) k
end
end Go
namespace Mur
open Go Go.RowKit Wk
section
variable {α : Type} {p : Prs α} {b : List UInt8} {at_ at1 at2 at3 : Nat} {bad bad1 bad2 bad3 : Bool}
theorem readC_no {k : Nat} (h : k < 1 ∨ 6 < k) (c : List UInt8) : readC k c = none := by
 unfold readC
 rw [if_neg (by omega), if_neg (by omega), if_neg (by omega), if_neg (by omega), if_neg (by omega), if_neg (by omega)]
theorem readK_le {c r : List UInt8} {v : Nat} (h : readK c = some (v, r)) : v ≤ 255 := (codecK.un _ _ _ h).2
theorem u8_small {v : Nat} (h : v ≤ 255) : (UInt8.ofNat v).toNat = v := by
 simp
 omega
theorem Step.gos_sum {v : Nat} {c : Cont} (h : Step readK b at_ bad at1 bad1 v) (k : Step readSm b at1 bad1 at2 bad2 c) (hv : UInt8.ofNat v = 1) : Step readGo b at_ bad at2 bad2 c := by
 have hv1 : v ≤ 255 → v = 1 := fun h1 => by
  have := congrArg UInt8.toNat hv
  rw [u8_small h1] at this
  exact this
 refine ⟨fun e => ?_, fun e => ?_⟩
 ·have h1 := k.ok e
  have h2 := h.ok h1.1
  refine ⟨h2.1, ?_⟩
  unfold readGo
  rw [h2.2, Option.bind_some, if_pos (hv1 (readK_le h2.2))]
  exact h1.2
 ·cases bad1 with
  | true => exact (h.no rfl).imp id fun h2 => by unfold readGo; rw [h2]; rfl
  | false =>
   have h2 := h.ok rfl
   rcases k.no e with h3 | h3
   ·cases h3
   ·refine .inr ?_
    unfold readGo
    rw [h2.2, Option.bind_some, if_pos (hv1 (readK_le h2.2))]
    exact h3
theorem Step.gos_items {v : Nat} {c : Cont} (h : Step readK b at_ bad at1 bad1 v) (k : Step (readIt v) b at1 bad1 at2 bad2 c) (hv : ¬ UInt8.ofNat v = 1) : Step readGo b at_ bad at2 bad2 c := by
 have hv1 : ¬ v = 1 := fun e => hv (by rw [e]; rfl)
 refine ⟨fun e => ?_, fun e => ?_⟩
 ·have h1 := k.ok e
  have h2 := h.ok h1.1
  refine ⟨h2.1, ?_⟩
  unfold readGo
  rw [h2.2, Option.bind_some, if_neg hv1]
  exact h1.2
 ·cases bad1 with
  | true => exact (h.no rfl).imp id fun h2 => by unfold readGo; rw [h2]; rfl
  | false =>
   have h2 := h.ok rfl
   rcases k.no e with h3 | h3
   ·cases h3
   ·refine .inr ?_
    unfold readGo
    rw [h2.2, Option.bind_some, if_neg hv1]
    exact h3
theorem Step.fra {v f d : Nat} {c : Cont} (h : Step (pSeq readK (pSeq readI readI)) b at_ bad at1 bad1 (v, (f, d))) (k : Step (readC (UInt8.ofNat v).toNat) b at1 bad1 at2 bad2 c) : Step readF b at_ bad at2 bad2 ⟨f, d, c⟩ := by
 have hk : ∀ {s r}, pSeq readK (pSeq readI readI) s = some ((v, (f, d)), r) → v ≤ 255 := fun {s r} e => by
  unfold pSeq at e
  obtain ⟨y, h1, h2⟩ := Option.bind_eq_some_iff.1 e
  obtain ⟨z, h3, h4⟩ := Option.map_eq_some_iff.1 h2
  simp only [Prod.mk.injEq] at h4
  obtain ⟨⟨rfl, _⟩, _⟩ := h4
  exact readK_le (v := y.1) (r := y.2) h1
 refine ⟨fun e => ?_, fun e => ?_⟩
 ·have h1 := k.ok e
  have h2 := h.ok h1.1
  refine ⟨h2.1, ?_⟩
  have h3 := h1.2
  rw [u8_small (hk h2.2)] at h3
  unfold readF
  rw [h2.2, Option.bind_some]
  show (readC v _).map _ = _
  rw [h3]
  rfl
 ·cases bad1 with
  | true => exact (h.no rfl).imp id fun h2 => by unfold readF; rw [h2]; rfl
  | false =>
   have h2 := h.ok rfl
   rcases k.no e with h3 | h3
   ·cases h3
   ·rw [u8_small (hk h2.2)] at h3
    refine .inr ?_
    unfold readF
    rw [h2.2, Option.bind_some]
    show (readC v _).map _ = _
    rw [h3]
    rfl
theorem Step.fra_no {v f d : Nat} (h : Step (pSeq readK (pSeq readI readI)) b at_ bad at1 bad1 (v, (f, d))) (hv : (UInt8.ofNat v).toNat < 1 ∨ 6 < (UInt8.ofNat v).toNat) : bad = true ∨ readF (b.drop at_) = none := by
 cases bad1 with
 | true => exact (h.no rfl).imp id fun h2 => by unfold readF; rw [h2]; rfl
 | false =>
  have h2 := h.ok rfl
  refine .inr ?_
  unfold readF
  rw [h2.2, Option.bind_some]
  show (readC v _).map _ = none
  have : v < 1 ∨ 6 < v := by
   rcases Nat.lt_or_ge 255 v with h3 | h3
   ·exact .inr (by omega)
   ·rw [u8_small h3] at hv
    exact hv
  rw [readC_no this]
  rfl
end
-- rows as they lie
def updU (u : Upd) : List Value := updC (((u.node : Nat) : Int), UInt8.ofNat u.st, u.inc)
def attL (x : Att) : List Value := attC x.k x.r x.n x.t
theorem updU_len (u : Upd) : (updU u).length = 3 := rfl
theorem updC_one (u : Int × UInt8 × Nat) : ∀ v ∈ updC u, v.oneCell' = true := (upd_sized [u] _ (List.mem_singleton.2 rfl)).2
theorem attL_len (x : Att) : (attL x).length = 97 := attC_length x.hk x.hr x.ht
theorem attL_flat : ∀ L : List Att, flatR (L.map attL) = rowA L
 | [] => rfl
 | x :: L => by
  have := attL_flat L
  simp only [flatR, List.map_cons, List.flatten_cons] at this ⊢
  rw [this]
  rfl
theorem SlR.slA {w : World} {A : Option Addr} {n : Nat} {L : List Att} (h : SlR w 97 A n (L.map attL)) : SlA w A n L := ⟨by rw [← h.len, List.length_map], by rw [← attL_flat]; exact h.sl⟩
theorem SlR.keepQ {w w' : World} {sz : Nat} {A : Option Addr} {n : Nat} {R : List (List Value)} {S : List Nat} (h : SlR w sz A n R) (c : Chg S w w') (ho : ∀ g off, A = some ⟨g, off, none⟩ → g < w.heap.size → Off g S) : SlR w' sz A n R := h.chg c ho
theorem updU_map (l : List Upd) : l.map updU = (l.map fun u => (((u.node : Nat) : Int), UInt8.ofNat u.st, u.inc)).map updC := by rw [List.map_map]; rfl
end Mur
namespace Mur
open Go Go.RowKit Wk
def inC : Cont → Prop
 | .probe _ s a l => s < 2 ^ 64 ∧ a ≤ 2 ^ 30 ∧ ∀ u, u ∈ l → u.node ≤ 2 ^ 30 ∧ u.inc < 2 ^ 64
 | .sum _ d n => d.length = 32 ∧ n ≤ 2 ^ 30
 | .items .. => True
 | .claim k i n _ => k.length = 32 ∧ i < 2 ^ 64 ∧ n < 2 ^ 64
 | .result _ => True
 | .want r c => r.length = 32 ∧ c ≤ 2 ^ 30
 | .chunk r c _ p => r.length = 32 ∧ c ≤ 2 ^ 30 ∧ ∀ x, x ∈ p → x.length = 32
theorem zN : (0 : Nat) < 2 ^ 64 := by decide
theorem zI : -9223372036854775808 ≤ (0 : Int) ∧ (0 : Int) ≤ 9223372036854775807 := by decide
theorem frmIn_head (k : UInt8) {a b : Int} (ha : -9223372036854775808 ≤ a ∧ a ≤ 9223372036854775807) (hb : -9223372036854775808 ≤ b ∧ b ≤ 9223372036854775807) : FrmIn (headM k a b) :=
 ⟨⟨zN, zN, zN, fun _ h => (by cases h), rfl, rfl, rfl, fun _ h => (by cases h)⟩, ha, hb, zI, zI, fun _ h => (by cases h), zI, zI, zI⟩
theorem frmIn_of {a b : Nat} (ha : a ≤ 2 ^ 30) (hb : b ≤ 2 ^ 30) {c : Cont} (h : inC c) : FrmIn (ofCon a b c) := by
 have hA : -9223372036854775808 ≤ ((a : Nat) : Int) ∧ ((a : Nat) : Int) ≤ 9223372036854775807 := by omega
 have hB : -9223372036854775808 ≤ ((b : Nat) : Int) ∧ ((b : Nat) : Int) ≤ 9223372036854775807 := by omega
 cases c with
 | probe k s m l =>
  obtain ⟨h1, h2, h3⟩ := h
  refine ⟨⟨h1, zN, zN, fun u hu => ?_, rfl, rfl, rfl, fun _ q => (by cases q)⟩, hA, hB, hB, ?_, fun u hu => ?_, zI, zI, zI⟩
  ·obtain ⟨v, hv, rfl⟩ := List.mem_map.1 hu
   exact (h3 v hv).2
  ·show -9223372036854775808 ≤ ((m : Nat) : Int) ∧ ((m : Nat) : Int) ≤ 9223372036854775807
   omega
  ·obtain ⟨v, hv, rfl⟩ := List.mem_map.1 hu
   have := (h3 v hv).1
   show -9223372036854775808 ≤ ((v.node : Nat) : Int) ∧ ((v.node : Nat) : Int) ≤ 9223372036854775807
   omega
 | sum p d n =>
  obtain ⟨h1, h2⟩ := h
  refine ⟨⟨zN, zN, zN, fun _ q => (by cases q), h1, rfl, rfl, fun _ q => (by cases q)⟩, hA, hB, zI, zI, fun _ q => (by cases q), ?_, zI, zI⟩
  show -9223372036854775808 ≤ ((n : Nat) : Int) ∧ ((n : Nat) : Int) ≤ 9223372036854775807
  omega
 | items k p l g => exact ⟨⟨zN, zN, zN, fun _ q => (by cases q), rfl, rfl, rfl, fun _ q => (by cases q)⟩, hA, hB, zI, zI, fun _ q => (by cases q), zI, zI, zI⟩
 | claim k i n g => exact ⟨⟨zN, h.2.1, h.2.2, fun _ q => (by cases q), rfl, h.1, rfl, fun _ q => (by cases q)⟩, hA, hB, zI, zI, fun _ q => (by cases q), zI, hA, zI⟩
 | result x => exact ⟨⟨zN, zN, zN, fun _ q => (by cases q), rfl, rfl, rfl, fun _ q => (by cases q)⟩, hA, hB, zI, zI, fun _ q => (by cases q), zI, zI, zI⟩
 | want r c =>
  obtain ⟨h1, h2⟩ := h
  refine ⟨⟨zN, zN, zN, fun _ q => (by cases q), rfl, rfl, h1, fun _ q => (by cases q)⟩, hA, hB, zI, zI, fun _ q => (by cases q), zI, zI, ?_⟩
  show -9223372036854775808 ≤ ((c : Nat) : Int) ∧ ((c : Nat) : Int) ≤ 9223372036854775807
  omega
 | chunk r c y p =>
  obtain ⟨h1, h2, h3⟩ := h
  refine ⟨⟨zN, zN, zN, fun _ q => (by cases q), rfl, rfl, h1, h3⟩, hA, hB, zI, zI, fun _ q => (by cases q), zI, zI, ?_⟩
  show -9223372036854775808 ≤ ((c : Nat) : Int) ∧ ((c : Nat) : Int) ≤ 9223372036854775807
  omega
section
variable {w : World} {a b : Nat}
theorem lies_none {f : Frm} (h1 : f.pUpd = []) (h2 : f.gos.pre = []) (h3 : f.gos.items = []) (h4 : f.byt = []) (h5 : f.prf = []) : LiesF w zs0 f :=
 ⟨by rw [h1]; exact slR_nil w 3 none, by rw [h2]; exact byt_nil0 w none, by rw [h3]; exact SlA.nil w none, by rw [h4]; exact byt_nil0 w none, by rw [h5]; exact slR_nil w 32 none, SlN.zero, SlN.zero, SlN.zero, SlN.zero, SlN.zero⟩
theorem lies_probe {u : Sl3} {k s m : Nat} {l : List Upd} (h : SlR w 3 u.A u.n (l.map updU)) (hn : SlN u) : LiesF w ⟨u, sl0, sl0, sl0, sl0⟩ (ofCon a b (.probe k s m l)) :=
 ⟨updU_map l ▸ h, byt_nil0 w none, SlA.nil w none, byt_nil0 w none, slR_nil w 32 none, hn, SlN.zero, SlN.zero, SlN.zero, SlN.zero⟩
theorem lies_sum {p : Sl3} {x d : List UInt8} {n : Nat} (h : Byt w p.A p.n x) (hn : SlN p) : LiesF w ⟨sl0, p, sl0, sl0, sl0⟩ (ofCon a b (.sum x d n)) :=
 ⟨slR_nil w 3 none, h, SlA.nil w none, byt_nil0 w none, slR_nil w 32 none, SlN.zero, hn, SlN.zero, SlN.zero, SlN.zero⟩
theorem lies_items {p i : Sl3} {k : Nat} {x : List UInt8} {l : List Att} {g : Bool} (h : Byt w p.A p.n x) (hn : SlN p) (h2 : SlR w 97 i.A i.n (l.map attL)) (hn2 : SlN i) : LiesF w ⟨sl0, p, i, sl0, sl0⟩ (ofCon a b (.items k x l g)) :=
 ⟨slR_nil w 3 none, h, h2.slA, byt_nil0 w none, slR_nil w 32 none, SlN.zero, hn, hn2, SlN.zero, SlN.zero⟩
theorem lies_chunk {y f : Sl3} {r : List UInt8} {c : Nat} {x : List UInt8} {l : List (List UInt8)} (h : Byt w y.A y.n x) (hn : SlN y) (h2 : SlR w 32 f.A f.n (l.map b8s)) (hn2 : SlN f) : LiesF w ⟨sl0, sl0, sl0, y, f⟩ (ofCon a b (.chunk r c x l)) :=
 ⟨slR_nil w 3 none, byt_nil0 w none, SlA.nil w none, h, h2, SlN.zero, SlN.zero, SlN.zero, hn, hn2⟩
end
theorem sl0_in {Q : Nat → Prop} : ∀ g off, sl0.A = some ⟨g, off, none⟩ → Q g := fun _ _ e => by cases e
end Mur
namespace Mur
open Go Go.RowKit Wk
def fieldsC : Array (Nat × Nat) := #[(0, 32), (32, 1), (33, 1), (34, 1), (35, 1)]
end Mur
namespace Go.Proofs.YtgbadghjnpbiaaaGreatDoor
open Go.RowKit Wk
open Mur (b8s claimC z32 updC)
set_option maxRecDepth 100000
theorem wfU {n : Nat} (h : n < 18446744073709551616) : (Lit.int .u64 ((n : Nat) : Int)).wf = true := by
 have h3 : IntKind.u64.min = 0 := by decide
 have h4 : IntKind.u64.max = 18446744073709551615 := by decide
 simp only [Lit.wf, h3, h4, Bool.and_eq_true, decide_eq_true_eq]
 omega
theorem wf8 (n : UInt8) : (Lit.int .u8 ((n.toNat : Nat) : Int)).wf = true := by
 have h3 : IntKind.u8.min = 0 := by decide
 have h4 : IntKind.u8.max = 255 := by decide
 have := n.toNat_lt
 simp only [Lit.wf, h3, h4, Bool.and_eq_true, decide_eq_true_eq]
 omega
theorem built_claim {k : List UInt8} (hk : k.length = 32) (n : Int) : Program.built Tryz.prog 33 [(1, .int .i64 n), (0, .agg (b8s k).toArray)] = some (claimC k n 0 0 false).toArray := by
 refine (show Program.built Tryz.prog 33 [(1, .int .i64 n), (0, .agg (b8s k).toArray)] = Instr.fill (fun i => Mur.fieldsC[i]?) (claimC z32 0 0 0 false).toArray [(1, .int .i64 n), (0, .agg (b8s k).toArray)] from by kernel_rfl).trans ?_
 refine Mur.fill_part (off := 32) (size := 1) (vs := [.int .i64 n]) rfl rfl rfl (by rw [Mur.claimC_length rfl]; omega) ?_
 have e2 : splice (claimC z32 0 0 0 false) 32 [.int .i64 n] = claimC z32 n 0 0 false := by
  have := Mur.splice_mid (A := b8s z32) (B := [Value.int .i64 0]) (C := [.int .u64 0, .int .u64 0, .bool false]) (vs := [Value.int .i64 n]) (off := 32) rfl rfl
  simpa [claimC] using this
 rw [e2]
 refine Mur.fill_part (off := 0) (size := 32) (vs := b8s k) rfl rfl (by rw [Mur.b8s_length, hk]) (by rw [Mur.claimC_length rfl]; omega) ?_
 have e : splice (claimC z32 n 0 0 false) 0 (b8s k) = claimC k n 0 0 false := Mur.splice_mid (A := []) (B := b8s z32) (vs := b8s k) (off := 0) rfl (by rw [Mur.b8s_length, Mur.b8s_length, hk]; rfl)
 rw [e]
 rfl
section
variable {ck ck' : List UInt8} {cn cn' : Int} {ci ci' cc cc' : Nat} {cg cg' : Bool}
theorem keyLits_claim (hk : ck.length = 32) (hn : (Lit.int .i64 cn).wf = true) (hi : ci < 18446744073709551616) (hc : cc < 18446744073709551616) : Tryz.prog.keyLits 3 33 (claimC ck cn ci cc cg) = some (litsD ck ++ [Lit.int .i64 cn, Lit.int .u64 ((ci : Nat) : Int), Lit.int .u64 ((cc : Nat) : Int), Lit.bool cg]) := by
 have hc0 : Tryz.prog.cellsOf 33 = 36 := by kernel_rfl
 have c1 : Tryz.prog.cellsOf 28 = 32 := by kernel_rfl
 have c2 : Tryz.prog.cellsOf 3 = 1 := by kernel_rfl
 have c3 : Tryz.prog.cellsOf 23 = 1 := by kernel_rfl
 have c4 : Tryz.prog.cellsOf 4 = 1 := by kernel_rfl
 have hl : (b8s ck).length = 32 := by rw [Mur.b8s_length, hk]
 have e1 : ((claimC ck cn ci cc cg).drop 0).take 32 = b8s ck := by
  show (b8s ck ++ _).take 32 = _
  rw [List.take_left' hl]
 have ed : ∀ i, (claimC ck cn ci cc cg).drop (32 + i) = ([.int .i64 cn, .int .u64 ((ci : Nat) : Int), .int .u64 ((cc : Nat) : Int), .bool cg] : List Value).drop i := fun i => by
  rw [← List.drop_drop]
  show ((b8s ck ++ _).drop 32).drop i = _
  rw [List.drop_left' hl]
 have e2 : ((claimC ck cn ci cc cg).drop 32).take 1 = [.int .i64 cn] := by rw [ed 0]; rfl
 have e3 : ((claimC ck cn ci cc cg).drop 33).take 1 = [.int .u64 ((ci : Nat) : Int)] := by rw [ed 1]; rfl
 have e4 : ((claimC ck cn ci cc cg).drop 34).take 1 = [.int .u64 ((cc : Nat) : Int)] := by rw [ed 2]; rfl
 have e5 : ((claimC ck cn ci cc cg).drop 35).take 1 = [.bool cg] := by rw [ed 3]; rfl
 have l1 := Mur.keyLits_dig digT ck hk
 have l2 : Tryz.prog.keyLits 2 3 [.int .i64 cn] = some [.int .i64 cn] := by
  unfold Program.keyLits
  simp only [Tryz.underlying3]
  exact if_pos ⟨trivial, hn⟩
 have l3 : ∀ n : Nat, n < 18446744073709551616 → Tryz.prog.keyLits 2 23 [.int .u64 ((n : Nat) : Int)] = some [.int .u64 ((n : Nat) : Int)] := fun n h => by
  unfold Program.keyLits
  simp only [Tryz.underlying23]
  exact if_pos ⟨trivial, wfU h⟩
 have l4 : Tryz.prog.keyLits 2 4 [.bool cg] = some [.bool cg] := by
  unfold Program.keyLits
  simp only [Tryz.underlying4]
 unfold Program.keyLits
 simp only [Tryz.underlying33]
 rw [if_pos ⟨by rw [Mur.claimC_length hk, hc0], by decide +kernel⟩]
 simp only [List.mapM_cons, List.mapM_nil, c1, c2, c3, c4, e1, e2, e3, e4, e5, l1, l2, l3 _ hi, l3 _ hc, l4]
 simp [litsD]
theorem claim_lits (hk : ck.length = 32) (hk' : ck'.length = 32) : litsD ck ++ [Lit.int .i64 cn, Lit.int .u64 ((ci : Nat) : Int), Lit.int .u64 ((cc : Nat) : Int), Lit.bool cg] = litsD ck' ++ [Lit.int .i64 cn', Lit.int .u64 ((ci' : Nat) : Int), Lit.int .u64 ((cc' : Nat) : Int), Lit.bool cg'] ↔ ck = ck' ∧ cn = cn' ∧ ci = ci' ∧ cc = cc' ∧ cg = cg' := by
 constructor
 ·intro h
  have h1 := List.append_inj h (by rw [litsD_length, litsD_length])
  have h2 := h1.2
  simp only [List.cons.injEq, Lit.int.injEq, Lit.bool.injEq, true_and, and_true] at h2
  exact ⟨(litsD_inj hk hk').1 h1.1, h2.1, by omega, by omega, h2.2.2.2⟩
 ·rintro ⟨rfl, rfl, rfl, rfl, rfl⟩
  rfl
theorem quiet_claim : Tryz.prog.eqGuardType Tryz.prog.depth 33 = false := by kernel_rfl
variable {w : World} {a : Act} {o : Oper}
theorem eql_claim (hk : ck.length = 32) (hk' : ck'.length = 32) (hn : (Lit.int .i64 cn).wf = true) (hn' : (Lit.int .i64 cn').wf = true) (hi : ci < 18446744073709551616) (hi' : ci' < 18446744073709551616) (hc : cc < 18446744073709551616) (hc' : cc' < 18446744073709551616) (w : World) :
  (Op.equalIn 10000 33 (.agg (claimC ck cn ci cc cg).toArray) (.agg (claimC ck' cn' ci' cc' cg').toArray)).run Tryz.prog w = .ok (decide (ck = ck' ∧ cn = cn' ∧ ci = ci' ∧ cc = cc' ∧ cg = cg')) w := by
 have hf : ∀ {a : List UInt8} {m : Int} {i j : Nat} {b : Bool}, a.length = 32 → (Value.agg (claimC a m i j b).toArray).formed Tryz.prog 33 = true := by
  intro a m i j b h1
  have hc : Tryz.prog.cellsOf 33 = 36 := by kernel_rfl
  simp [Value.formed, Tryz.underlying33, hc, Mur.claimC_length h1]
 obtain ⟨b, hb, hiff⟩ := run_equalIn_deep (P := Tryz.prog) 9997 3 33 (by kernel_rfl) w 3 3 (.agg (claimC ck cn ci cc cg).toArray) (.agg (claimC ck' cn' ci' cc' cg').toArray) _ _ (hf hk) (hf hk') (keyLits_claim hk hn hi hc) (keyLits_claim hk' hn' hi' hc')
 rw [claim_lits hk hk'] at hiff
 rw [show (10000 : Nat) = 9997 + 3 from rfl, hb]
 congr 1
 by_cases e : ck = ck' ∧ cn = cn' ∧ ci = ci' ∧ cc = cc' ∧ cg = cg'
 ·rw [decide_eq_true e]; exact hiff.2 e
 ·rw [decide_eq_false e]
  cases b
  ·rfl
  ·exact absurd (hiff.1 rfl) e
theorem run_eql_claim (x y : Operand) (ty : TypeId) (ho : o.op = .binOp .eql 33 x y ty) (hk : ck.length = 32) (hk' : ck'.length = 32) (hn : (Lit.int .i64 cn).wf = true) (hn' : (Lit.int .i64 cn').wf = true) (hi : ci < 18446744073709551616) (hi' : ci' < 18446744073709551616) (hc : cc < 18446744073709551616) (hc' : cc' < 18446744073709551616)
  (hx : a.eval x = .agg (claimC ck cn ci cc cg).toArray) (hy : a.eval y = .agg (claimC ck' cn' ci' cc' cg').toArray) : (execOp a.eval o).run Tryz.prog w = .ok (.value (.bool (decide (ck = ck' ∧ cn = cn' ∧ ci = ci' ∧ cc = cc' ∧ cg = cg')))) w := by
 unfold execOp
 simp only [ho, hx, hy, Sem.run_bind, run_eqGuard_agg w _ _ _ _ _ _ quiet_claim, Result.andThen_ok, run_eql_struct, Sem.run_pure, eql_claim hk hk' hn hn' hi hi' hc hc']
theorem run_neq_claim (x y : Operand) (ty : TypeId) (ho : o.op = .binOp .neq 33 x y ty) (hk : ck.length = 32) (hk' : ck'.length = 32) (hn : (Lit.int .i64 cn).wf = true) (hn' : (Lit.int .i64 cn').wf = true) (hi : ci < 18446744073709551616) (hi' : ci' < 18446744073709551616) (hc : cc < 18446744073709551616) (hc' : cc' < 18446744073709551616)
  (hx : a.eval x = .agg (claimC ck cn ci cc cg).toArray) (hy : a.eval y = .agg (claimC ck' cn' ci' cc' cg').toArray) : (execOp a.eval o).run Tryz.prog w = .ok (.value (.bool (!decide (ck = ck' ∧ cn = cn' ∧ ci = ci' ∧ cc = cc' ∧ cg = cg')))) w := by
 unfold execOp
 simp only [ho, hx, hy, Sem.run_bind, run_eqGuard_agg w _ _ _ _ _ _ quiet_claim, Result.andThen_ok, run_neq_struct, Sem.run_pure, eql_claim hk hk' hn hn' hi hi' hc hc']
end
-- updates
section
variable {u u' : Int × UInt8 × Nat}
theorem updC_len : (updC u).length = 3 := rfl
theorem keyLits_upd (hn : (Lit.int .i64 u.1).wf = true) (hi : u.2.2 < 18446744073709551616) : Tryz.prog.keyLits 3 61 (updC u) = some [Lit.int .i64 u.1, Lit.int .u8 ((u.2.1.toNat : Nat) : Int), Lit.int .u64 ((u.2.2 : Nat) : Int)] := by
 have hc0 : Tryz.prog.cellsOf 61 = 3 := by kernel_rfl
 have c2 : Tryz.prog.cellsOf 3 = 1 := by kernel_rfl
 have c3 : Tryz.prog.cellsOf 23 = 1 := by kernel_rfl
 have c4 : Tryz.prog.cellsOf 5 = 1 := by kernel_rfl
 have e2 : ((updC u).drop 0).take 1 = [.int .i64 u.1] := rfl
 have e3 : ((updC u).drop 1).take 1 = [.int .u8 ((u.2.1.toNat : Nat) : Int)] := rfl
 have e4 : ((updC u).drop 2).take 1 = [.int .u64 ((u.2.2 : Nat) : Int)] := rfl
 have l2 : Tryz.prog.keyLits 2 3 [.int .i64 u.1] = some [.int .i64 u.1] := by
  unfold Program.keyLits
  simp only [Tryz.underlying3]
  exact if_pos ⟨trivial, hn⟩
 have l3 : Tryz.prog.keyLits 2 23 [.int .u64 ((u.2.2 : Nat) : Int)] = some [.int .u64 ((u.2.2 : Nat) : Int)] := by
  unfold Program.keyLits
  simp only [Tryz.underlying23]
  exact if_pos ⟨trivial, wfU hi⟩
 have l4 : Tryz.prog.keyLits 2 5 [.int .u8 ((u.2.1.toNat : Nat) : Int)] = some [.int .u8 ((u.2.1.toNat : Nat) : Int)] := by
  unfold Program.keyLits
  simp only [Tryz.underlying5]
  exact if_pos ⟨trivial, wf8 _⟩
 unfold Program.keyLits
 simp only [Tryz.underlying61]
 rw [if_pos ⟨by rw [updC_len, hc0], by decide +kernel⟩]
 simp only [List.mapM_cons, List.mapM_nil, c2, c3, c4, e2, e3, e4, l2, l3, l4]
 rfl
theorem upd_lits : [Lit.int .i64 u.1, Lit.int .u8 ((u.2.1.toNat : Nat) : Int), Lit.int .u64 ((u.2.2 : Nat) : Int)] = [Lit.int .i64 u'.1, Lit.int .u8 ((u'.2.1.toNat : Nat) : Int), Lit.int .u64 ((u'.2.2 : Nat) : Int)] ↔ u = u' := by
 constructor
 ·intro h
  simp only [List.cons.injEq, Lit.int.injEq, true_and, and_true] at h
  obtain ⟨h1, h2, h3⟩ := h
  obtain ⟨a, b, c⟩ := u
  obtain ⟨a', b', c'⟩ := u'
  simp only at h1 h2 h3
  obtain rfl : b = b' := UInt8.toNat_inj.1 (by omega)
  obtain rfl : c = c' := by omega
  rw [h1]
 ·rintro rfl
  rfl
theorem quiet_upd : Tryz.prog.eqGuardType Tryz.prog.depth 61 = false := by kernel_rfl
variable {w : World} {a : Act} {o : Oper}
theorem eql_upd (hn : (Lit.int .i64 u.1).wf = true) (hn' : (Lit.int .i64 u'.1).wf = true) (hi : u.2.2 < 18446744073709551616) (hi' : u'.2.2 < 18446744073709551616) (w : World) :
  (Op.equalIn 10000 61 (.agg (updC u).toArray) (.agg (updC u').toArray)).run Tryz.prog w = .ok (decide (u = u')) w := by
 have hf : ∀ {v : Int × UInt8 × Nat}, (Value.agg (updC v).toArray).formed Tryz.prog 61 = true := by
  intro v
  have hc : Tryz.prog.cellsOf 61 = 3 := by kernel_rfl
  simp [Value.formed, Tryz.underlying61, hc, updC_len]
 obtain ⟨b, hb, hiff⟩ := run_equalIn_deep (P := Tryz.prog) 9997 3 61 (by kernel_rfl) w 3 3 (.agg (updC u).toArray) (.agg (updC u').toArray) _ _ hf hf (keyLits_upd hn hi) (keyLits_upd hn' hi')
 rw [upd_lits] at hiff
 rw [show (10000 : Nat) = 9997 + 3 from rfl, hb]
 congr 1
 by_cases e : u = u'
 ·rw [decide_eq_true e]; exact hiff.2 e
 ·rw [decide_eq_false e]
  cases b
  ·rfl
  ·exact absurd (hiff.1 rfl) e
theorem run_neq_upd (x y : Operand) (ty : TypeId) (ho : o.op = .binOp .neq 61 x y ty) (hn : (Lit.int .i64 u.1).wf = true) (hn' : (Lit.int .i64 u'.1).wf = true) (hi : u.2.2 < 18446744073709551616) (hi' : u'.2.2 < 18446744073709551616)
  (hx : a.eval x = .agg (updC u).toArray) (hy : a.eval y = .agg (updC u').toArray) : (execOp a.eval o).run Tryz.prog w = .ok (.value (.bool (!decide (u = u')))) w := by
 unfold execOp
 simp only [ho, hx, hy, Sem.run_bind, run_eqGuard_agg w _ _ _ _ _ _ quiet_upd, Result.andThen_ok, run_neq_struct, Sem.run_pure, eql_upd hn hn' hi hi']
end
end Go.Proofs.YtgbadghjnpbiaaaGreatDoor
namespace Mur
open Go Go.RowKit Wk
section
variable {P : Program}
theorem run_neq_dg {T e : TypeId} (h : DigT P T e) (d d' : List UInt8) (hd : d.length = 32) (hd' : d'.length = 32) (w : World) (x y : Operand) (ty : TypeId) {a : Act} {o : Oper} (ho : o.op = .binOp .neq T x y ty)
  (hx : a.eval x = .agg (b8s d).toArray) (hy : a.eval y = .agg (b8s d').toArray) : (execOp a.eval o).run P w = .ok (.value (.bool (!decide (d = d')))) w := by
 have hf : ∀ x : List UInt8, x.length = 32 → (Value.agg (b8s x).toArray).formed P T = true := by
  intro x hx
  simp [Value.formed, h.ty, h.ct, b8s_length, hx]
 obtain ⟨r, hr, hiff⟩ := run_equalIn_deep (P := P) 9998 2 T h.key w 2 2 (.agg (b8s d).toArray) (.agg (b8s d').toArray) _ _ (hf d hd) (hf d' hd') (keyLits_dig h d hd) (keyLits_dig h d' hd')
 rw [lits_inj hd hd'] at hiff
 have hr' : r = decide (d = d') := by
  by_cases e : d = d'
  ·rw [decide_eq_true e]; exact hiff.2 e
  ·rw [decide_eq_false e]
   cases r
   ·rfl
   ·exact absurd (hiff.1 rfl) e
 subst hr'
 unfold execOp
 simp only [ho, hx, hy, Sem.run_bind, run_eqGuard_agg w _ _ _ _ _ _ h.quiet, Result.andThen_ok, run_neq_struct, Sem.run_pure]
 rw [show (10000 : Nat) = 9998 + 2 from rfl, hr]
 rfl
end
section
variable {α : Type}
theorem take_sn {l : List α} {i : Nat} {y : α} (h : l[i]? = some y) : l.take (i + 1) = l.take i ++ [y] := by
 obtain ⟨h1, rfl⟩ := List.getElem?_eq_some_iff.1 h
 exact List.take_succ_eq_append_getElem h1
theorem map_at {β : Type} {l : List α} {i : Nat} {y : α} (f : α → β) (h : l[i]? = some y) : (l.map f)[i]? = some (f y) := by rw [List.getElem?_map, h]; rfl
end
theorem att_sized (L : List Att) : Sized 97 (L.map attL) := fun c hc => by
 obtain ⟨r, _, rfl⟩ := List.mem_map.1 hc
 exact ⟨attL_len r, attC_one⟩
theorem SlA.slR {w : World} {A : Option Addr} {n : Nat} {L : List Att} (h : SlA w A n L) : SlR w 97 A n (L.map attL) := ⟨by rw [List.length_map, h.len], att_sized L, by rw [attL_flat]; exact h.sl⟩
theorem frm_eq {f g : Frm} (h0 : ((f.kind.toNat : Nat) : Int) = ((g.kind.toNat : Nat) : Int)) (h1 : f.frm = g.frm) (h2 : f.dst = g.dst) (h3 : f.pTo = g.pTo) (h4 : ((f.pKind.toNat : Nat) : Int) = ((g.pKind.toNat : Nat) : Int)) (h5 : ((f.pSeq : Nat) : Int) = ((g.pSeq : Nat) : Int)) (h6 : f.pAbout = g.pAbout) (h7 : f.pUpd = g.pUpd)
  (h8 : ((f.gos.kind.toNat : Nat) : Int) = ((g.gos.kind.toNat : Nat) : Int)) (h9 : f.gos.pre = g.gos.pre) (h10 : f.gos.sum = g.gos.sum) (h11 : f.gos.cnt = g.gos.cnt) (h12 : f.gos.items = g.gos.items) (h13 : f.gos.ans = g.gos.ans)
  (h14 : f.cKey = g.cKey ∧ f.cNode = g.cNode ∧ f.cInc = g.cInc ∧ f.cCnt = g.cCnt ∧ f.cGone = g.cGone) (h15 : f.att = g.att) (h16 : f.root = g.root) (h17 : f.chunk = g.chunk) (h18 : f.byt = g.byt) (h19 : f.prf = g.prf) : f = g := by
 obtain ⟨k, a, b, c, d, e, p, q, ⟨m1, m2, m3, m4, m5, m6⟩, x, y, z, u, v, t, r, s, i, j⟩ := f
 obtain ⟨k', a', b', c', d', e', p', q', ⟨m1', m2', m3', m4', m5', m6'⟩, x', y', z', u', v', t', r', s', i', j'⟩ := g
 simp only at h0 h1 h2 h3 h4 h5 h6 h7 h8 h9 h10 h11 h12 h13 h14 h15 h16 h17 h18 h19
 obtain rfl : k = k' := UInt8.toNat_inj.1 (by omega)
 obtain rfl : d = d' := UInt8.toNat_inj.1 (by omega)
 obtain rfl : m1 = m1' := UInt8.toNat_inj.1 (by omega)
 obtain rfl : e = e' := by omega
 obtain ⟨rfl, rfl, rfl, rfl, rfl⟩ := h14
 subst h1 h2 h3 h6 h7 h9 h10 h11 h12 h13 h15 h16 h17 h18 h19
 rfl
end Mur
namespace Mur
open Go Go.RowKit Wk
def bareZ (f : Frm) (z : Zs) : Zs :=
 if f.kind = 1 then ⟨z.u, sl0, sl0, sl0, sl0⟩ else if f.kind = 2 then ⟨sl0, z.p, z.i, sl0, sl0⟩ else if f.kind = 6 then ⟨sl0, sl0, sl0, z.y, z.f⟩ else zs0
section
variable {f : Frm} {z : Zs}
theorem bareM_1 (h : f.kind = 1) : bareM f = { headM f.kind f.frm f.dst with pTo := f.pTo, pKind := f.pKind, pSeq := f.pSeq, pAbout := f.pAbout, pUpd := f.pUpd } := if_pos h
theorem bareM_2 (h : f.kind = 2) : bareM f = { headM f.kind f.frm f.dst with gos := f.gos } := by
 unfold bareM
 rw [if_neg (by rw [h]; decide), if_pos h]
theorem bareM_3 (h : f.kind = 3) : bareM f = { headM f.kind f.frm f.dst with cKey := f.cKey, cNode := f.cNode, cInc := f.cInc, cCnt := f.cCnt, cGone := f.cGone } := by
 unfold bareM
 rw [if_neg (by rw [h]; decide), if_neg (by rw [h]; decide), if_pos h]
theorem bareM_4 (h : f.kind = 4) : bareM f = { headM f.kind f.frm f.dst with att := f.att } := by
 unfold bareM
 rw [if_neg (by rw [h]; decide), if_neg (by rw [h]; decide), if_neg (by rw [h]; decide), if_pos h]
theorem bareM_5 (h : f.kind = 5) : bareM f = { headM f.kind f.frm f.dst with root := f.root, chunk := f.chunk } := by
 unfold bareM
 rw [if_neg (by rw [h]; decide), if_neg (by rw [h]; decide), if_neg (by rw [h]; decide), if_neg (by rw [h]; decide), if_pos h]
theorem bareM_6 (h : f.kind = 6) : bareM f = { headM f.kind f.frm f.dst with root := f.root, chunk := f.chunk, byt := f.byt, prf := f.prf } := by
 unfold bareM
 rw [if_neg (by rw [h]; decide), if_neg (by rw [h]; decide), if_neg (by rw [h]; decide), if_neg (by rw [h]; decide), if_neg (by rw [h]; decide), if_pos h]
theorem bareM_0 (h1 : ¬ f.kind = 1) (h2 : ¬ f.kind = 2) (h3 : ¬ f.kind = 3) (h4 : ¬ f.kind = 4) (h5 : ¬ f.kind = 5) (h6 : ¬ f.kind = 6) : bareM f = headM f.kind f.frm f.dst := by
 unfold bareM
 rw [if_neg h1, if_neg h2, if_neg h3, if_neg h4, if_neg h5, if_neg h6]
theorem bareZ_1 (h : f.kind = 1) : bareZ f z = ⟨z.u, sl0, sl0, sl0, sl0⟩ := if_pos h
theorem bareZ_2 (h : f.kind = 2) : bareZ f z = ⟨sl0, z.p, z.i, sl0, sl0⟩ := by
 unfold bareZ
 rw [if_neg (by rw [h]; decide), if_pos h]
theorem bareZ_6 (h : f.kind = 6) : bareZ f z = ⟨sl0, sl0, sl0, z.y, z.f⟩ := by
 unfold bareZ
 rw [if_neg (by rw [h]; decide), if_neg (by rw [h]; decide), if_pos h]
theorem bareZ_0 (h1 : ¬ f.kind = 1) (h2 : ¬ f.kind = 2) (h6 : ¬ f.kind = 6) : bareZ f z = zs0 := by
 unfold bareZ
 rw [if_neg h1, if_neg h2, if_neg h6]
theorem bareZ_3 (h : f.kind = 3) : bareZ f z = zs0 := bareZ_0 (by rw [h]; decide) (by rw [h]; decide) (by rw [h]; decide)
theorem bareZ_4 (h : f.kind = 4) : bareZ f z = zs0 := bareZ_0 (by rw [h]; decide) (by rw [h]; decide) (by rw [h]; decide)
theorem bareZ_5 (h : f.kind = 5) : bareZ f z = zs0 := bareZ_0 (by rw [h]; decide) (by rw [h]; decide) (by rw [h]; decide)
theorem lies_bare {w : World} (h : LiesF w z f) : LiesF w (bareZ f z) (bareM f) := by
 by_cases h1 : f.kind = 1
 ·rw [bareM_1 h1, bareZ_1 h1]
  exact ⟨h.upd, byt_nil0 w none, SlA.nil w none, byt_nil0 w none, slR_nil w 32 none, h.nu, SlN.zero, SlN.zero, SlN.zero, SlN.zero⟩
 by_cases h2 : f.kind = 2
 ·rw [bareM_2 h2, bareZ_2 h2]
  exact ⟨slR_nil w 3 none, h.pre, h.its, byt_nil0 w none, slR_nil w 32 none, SlN.zero, h.np, h.ni, SlN.zero, SlN.zero⟩
 by_cases h6 : f.kind = 6
 ·rw [bareM_6 h6, bareZ_6 h6]
  exact ⟨slR_nil w 3 none, byt_nil0 w none, SlA.nil w none, h.byt, h.prf, SlN.zero, SlN.zero, SlN.zero, h.ny, h.nf⟩
 rw [bareZ_0 h1 h2 h6]
 by_cases h3 : f.kind = 3
 ·rw [bareM_3 h3]
  exact lies_none rfl rfl rfl rfl rfl
 by_cases h4 : f.kind = 4
 ·rw [bareM_4 h4]
  exact lies_none rfl rfl rfl rfl rfl
 by_cases h5 : f.kind = 5
 ·rw [bareM_5 h5]
  exact lies_none rfl rfl rfl rfl rfl
 rw [bareM_0 h1 h2 h3 h4 h5 h6]
 exact lies_none rfl rfl rfl rfl rfl
theorem frmIn_bare (h : FrmIn f) : FrmIn (bareM f) := by
 have hh := frmIn_head f.kind h.frm h.dst
 by_cases h1 : f.kind = 1
 ·rw [bareM_1 h1]
  exact ⟨⟨h.ok.seq, zN, zN, h.ok.upd, rfl, rfl, rfl, fun _ q => (by cases q)⟩, h.frm, h.dst, h.pTo, h.pAb, h.upd, zI, zI, zI⟩
 by_cases h2 : f.kind = 2
 ·rw [bareM_2 h2]
  exact ⟨⟨zN, zN, zN, fun _ q => (by cases q), h.ok.sum, rfl, rfl, fun _ q => (by cases q)⟩, h.frm, h.dst, zI, zI, fun _ q => (by cases q), h.cnt, zI, zI⟩
 by_cases h3 : f.kind = 3
 ·rw [bareM_3 h3]
  exact ⟨⟨zN, h.ok.inc, h.ok.cnt, fun _ q => (by cases q), rfl, h.ok.key, rfl, fun _ q => (by cases q)⟩, h.frm, h.dst, zI, zI, fun _ q => (by cases q), zI, h.cNo, zI⟩
 by_cases h4 : f.kind = 4
 ·rw [bareM_4 h4]
  exact ⟨⟨zN, zN, zN, fun _ q => (by cases q), rfl, rfl, rfl, fun _ q => (by cases q)⟩, h.frm, h.dst, zI, zI, fun _ q => (by cases q), zI, zI, zI⟩
 by_cases h5 : f.kind = 5
 ·rw [bareM_5 h5]
  exact ⟨⟨zN, zN, zN, fun _ q => (by cases q), rfl, rfl, h.ok.root, fun _ q => (by cases q)⟩, h.frm, h.dst, zI, zI, fun _ q => (by cases q), zI, zI, h.chk⟩
 by_cases h6 : f.kind = 6
 ·rw [bareM_6 h6]
  exact ⟨⟨zN, zN, zN, fun _ q => (by cases q), rfl, rfl, h.ok.root, h.ok.prf⟩, h.frm, h.dst, zI, zI, fun _ q => (by cases q), zI, zI, h.chk⟩
 rw [bareM_0 h1 h2 h3 h4 h5 h6]
 exact hh
end
def goodU (u : Int × UInt8 × Nat) : Prop := (0 ≤ u.1 ∧ u.1 < 16) ∧ (1 ≤ u.2.1.toNat ∧ u.2.1.toNat ≤ 3) ∧ u.2.2 ≤ 1099511627776
end Mur
namespace Go.Proofs.YtgbadghjnpbiaaaGreatDoor
open Go.RowKit Wk
theorem run_eql_bool {w : World} {a : Act} {o : Oper} (x y : Operand) (ty : TypeId) (ho : o.op = .binOp .eql 4 x y ty) (p q : Bool) (hx : a.eval x = .bool p) (hy : a.eval y = .bool q) : (execOp a.eval o).run Tryz.prog w = .ok (.value (.bool (decide (p = q)))) w := by
 have key : (binOp .eql 4 (.bool p) (.bool q)).run Tryz.prog w = .ok (.bool (decide (p = q))) w := by
  cases p <;> cases q <;> kernel_rfl
 have hg : (eqGuard .eql 4 x y (.bool p) (.bool q)).run Tryz.prog w = .ok () w := by
  cases p <;> cases q <;> kernel_rfl
 unfold execOp
 simp only [ho, hx, hy]
 simp only [Sem.run_bind, Sem.run_pure, hg, Result.andThen_ok, key]
end Go.Proofs.YtgbadghjnpbiaaaGreatDoor
namespace Mur
open Go Go.RowKit
def mayK1 (f : Frm) : Prop := f.pTo = f.dst ∧ (1 ≤ f.pKind.toNat ∧ f.pKind.toNat ≤ 3) ∧ (0 ≤ f.pAbout ∧ f.pAbout < 16) ∧ f.pUpd.length ≤ 8 ∧ ∀ u, u ∈ f.pUpd → goodU u
def mayK2 (f : Frm) : Prop := mayM f.gos
def mayK3 (f : Frm) : Prop := f.cNode = f.frm ∧ f.cInc ≤ 1099511627776 ∧ f.cCnt ≤ 1099511627776
def mayK4 (f : Frm) : Prop := may f.att.n
def mayK5 (f : Frm) : Prop := 0 ≤ f.chunk ∧ f.chunk < 100
def mayK6 (f : Frm) : Prop := (0 ≤ f.chunk ∧ f.chunk < 100) ∧ f.byt.length ≤ 64 ∧ f.prf.length ≤ 10
section
variable {f : Frm} (h : nodeM f.frm ∧ nodeM f.dst ∧ f.frm ≠ f.dst ∧ f = bareM f)
include h
theorem mayFM_1 (k : f.kind = 1) : mayFM f ↔ mayK1 f := by
 refine ⟨fun q => ?_, fun q => ⟨h.1, h.2.1, h.2.2.1, h.2.2.2, .inl ⟨k, q⟩⟩⟩
 rcases q.2.2.2.2 with e | e | e | e | e | e
 ·exact e.2
 all_goals (rw [k] at e; exact absurd e.1 (by decide))
theorem mayFM_2 (k : f.kind = 2) : mayFM f ↔ mayK2 f := by
 refine ⟨fun q => ?_, fun q => ⟨h.1, h.2.1, h.2.2.1, h.2.2.2, .inr (.inl ⟨k, q⟩)⟩⟩
 rcases q.2.2.2.2 with e | e | e | e | e | e
 ·rw [k] at e; exact absurd e.1 (by decide)
 ·exact e.2
 all_goals (rw [k] at e; exact absurd e.1 (by decide))
theorem mayFM_3 (k : f.kind = 3) : mayFM f ↔ mayK3 f := by
 refine ⟨fun q => ?_, fun q => ⟨h.1, h.2.1, h.2.2.1, h.2.2.2, .inr (.inr (.inl ⟨k, q⟩))⟩⟩
 rcases q.2.2.2.2 with e | e | e | e | e | e
 ·rw [k] at e; exact absurd e.1 (by decide)
 ·rw [k] at e; exact absurd e.1 (by decide)
 ·exact e.2
 all_goals (rw [k] at e; exact absurd e.1 (by decide))
theorem mayFM_4 (k : f.kind = 4) : mayFM f ↔ mayK4 f := by
 refine ⟨fun q => ?_, fun q => ⟨h.1, h.2.1, h.2.2.1, h.2.2.2, .inr (.inr (.inr (.inl ⟨k, q⟩)))⟩⟩
 rcases q.2.2.2.2 with e | e | e | e | e | e
 ·rw [k] at e; exact absurd e.1 (by decide)
 ·rw [k] at e; exact absurd e.1 (by decide)
 ·rw [k] at e; exact absurd e.1 (by decide)
 ·exact e.2
 all_goals (rw [k] at e; exact absurd e.1 (by decide))
theorem mayFM_5 (k : f.kind = 5) : mayFM f ↔ mayK5 f := by
 refine ⟨fun q => ?_, fun q => ⟨h.1, h.2.1, h.2.2.1, h.2.2.2, .inr (.inr (.inr (.inr (.inl ⟨k, q⟩))))⟩⟩
 rcases q.2.2.2.2 with e | e | e | e | e | e
 ·rw [k] at e; exact absurd e.1 (by decide)
 ·rw [k] at e; exact absurd e.1 (by decide)
 ·rw [k] at e; exact absurd e.1 (by decide)
 ·rw [k] at e; exact absurd e.1 (by decide)
 ·exact e.2
 all_goals (rw [k] at e; exact absurd e.1 (by decide))
theorem mayFM_6 (k : f.kind = 6) : mayFM f ↔ mayK6 f := by
 refine ⟨fun q => ?_, fun q => ⟨h.1, h.2.1, h.2.2.1, h.2.2.2, .inr (.inr (.inr (.inr (.inr ⟨k, q⟩))))⟩⟩
 rcases q.2.2.2.2 with e | e | e | e | e | e
 ·rw [k] at e; exact absurd e.1 (by decide)
 ·rw [k] at e; exact absurd e.1 (by decide)
 ·rw [k] at e; exact absurd e.1 (by decide)
 ·rw [k] at e; exact absurd e.1 (by decide)
 ·rw [k] at e; exact absurd e.1 (by decide)
 ·exact e.2
end
end Mur
namespace Mur
open Go Go.RowKit Wk
def enc3 (u : Int × UInt8 × Nat) : List UInt8 := formN (u64n u.1) ++ formN u.2.1.toNat ++ formN u.2.2
theorem updC_all (u : Int × UInt8 × Nat) : (updC u).toArray.all (·.oneCell') = true := Array.all_eq_true_iff_forall_mem.2 fun v hv => updC_one u v (by simpa using hv)
theorem updC_size (u : Int × UInt8 × Nat) : (updC u).toArray.size = 3 := rfl
theorem enc3_len {u : Int × UInt8 × Nat} (h : u.2.2 < 2 ^ 64) : (enc3 u).length ≤ 27 := by
 have h1 := formN_len (u64n_lt u.1)
 have h2 := formN_len (n := u.2.1.toNat) (by have := u.2.1.toNat_lt; omega)
 have h3 := formN_len h
 unfold enc3
 rw [List.length_append, List.length_append]
 omega
theorem flat_sn {α : Type} (f : α → List UInt8) {l : List α} {i : Nat} {x : α} (h : l[i]? = some x) : ((l.take (i + 1)).map f).flatten = ((l.take i).map f).flatten ++ f x := by
 rw [take_sn h, List.map_append, List.flatten_append]
 simp
theorem u64n_to {i : Int} (h : 0 ≤ i) (h2 : i < 9223372036854775808) : u64n i = i.toNat := by
 unfold u64n
 have : IntKind.u64.wrap i = i := by
  show i % 18446744073709551616 = i
  omega
 rw [this]
theorem u64n_of {n : Nat} (h : n < 9223372036854775808) : u64n ((n : Nat) : Int) = n := by
 rw [u64n_to (by omega) (by omega)]
 rfl
section
variable {f : Frm} (h : mayFM f)
include h
theorem headB : formN (u64n ((f.kind.toNat : Nat) : Int)) ++ formN (u64n f.frm) ++ formN (u64n f.dst) ++ encC (conM f) = bodyFM f := by
 have e := kind_con h
 obtain ⟨⟨a1, a2⟩, ⟨b1, b2⟩, _⟩ := h
 have hk := f.kind.toNat_lt
 rw [u64n_of (by omega), u64n_to a1 (by omega), u64n_to b1 (by omega)]
 unfold bodyFM bodyF
 rw [e]
 show _ = formN f.kind.toNat ++ (formN f.frm.toNat ++ (formN f.dst.toNat ++ encC (conM f)))
 simp only [List.append_assoc]
theorem bodyB_1 (k : f.kind = 1) : formN (u64n ((f.kind.toNat : Nat) : Int)) ++ formN (u64n f.frm) ++ formN (u64n f.dst) ++ formN f.pKind.toNat ++ formN f.pSeq ++ formN (u64n f.pAbout) ++ (formN f.pUpd.length ++ (f.pUpd.map enc3).flatten) = bodyFM f := by
 have e : (conM f) = .probe f.pKind.toNat f.pSeq f.pAbout.toNat (f.pUpd.map fun u => ⟨u.1.toNat, u.2.1.toNat, u.2.2⟩) := if_pos k
 have hm : mayK1 f := (mayFM_1 ⟨h.1, h.2.1, h.2.2.1, h.2.2.2.1⟩ k).1 h
 rw [← headB h, e]
 have e2 : ((f.pUpd.map fun u => (⟨u.1.toNat, u.2.1.toNat, u.2.2⟩ : Upd)).map encU) = f.pUpd.map enc3 := by
  rw [List.map_map]
  refine List.map_congr_left fun u hu => ?_
  obtain ⟨⟨q1, q2⟩, _⟩ := hm.2.2.2.2 u hu
  show formN u.1.toNat ++ (formN u.2.1.toNat ++ formN u.2.2) = formN (u64n u.1) ++ formN u.2.1.toNat ++ formN u.2.2
  rw [u64n_to q1 (by omega), List.append_assoc]
 simp only [encC, e2, List.length_map, u64n_to hm.2.2.1.1 (by have := hm.2.2.1.2; omega), List.append_assoc]
theorem bodyB_2s (k : f.kind = 2) (g : f.gos.kind = 1) : formN (u64n ((f.kind.toNat : Nat) : Int)) ++ formN (u64n f.frm) ++ formN (u64n f.dst) ++ formN (u64n ((f.gos.kind.toNat : Nat) : Int)) ++ (formN f.gos.pre.length ++ f.gos.pre) ++ f.gos.sum ++ formN (u64n f.gos.cnt) = bodyFM f := by
 have e : (conM f) = .sum f.gos.pre f.gos.sum f.gos.cnt.toNat := by
  unfold conM
  rw [if_neg (by rw [k]; decide), if_pos k, if_pos g]
 have hm : mayM f.gos := (mayFM_2 ⟨h.1, h.2.1, h.2.2.1, h.2.2.2.1⟩ k).1 h
 rw [← headB h, e, u64n_to hm.2.1 (by have := hm.2.2.1; omega), g]
 have e1 : u64n (((1 : UInt8).toNat : Nat) : Int) = 1 := rfl
 simp only [encC, e1, List.append_assoc]
theorem bodyB_2i (k : f.kind = 2) (g : ¬ f.gos.kind = 1) : formN (u64n ((f.kind.toNat : Nat) : Int)) ++ formN (u64n f.frm) ++ formN (u64n f.dst) ++ formN (u64n ((f.gos.kind.toNat : Nat) : Int)) ++ (formN f.gos.pre.length ++ f.gos.pre) ++ (formN f.gos.items.length ++ (f.gos.items.map Att.raw).flatten) ++ formN (flagN f.gos.ans) = bodyFM f := by
 have e : (conM f) = .items f.gos.kind.toNat f.gos.pre f.gos.items f.gos.ans := by
  unfold conM
  rw [if_neg (by rw [k]; decide), if_pos k, if_neg g]
 have hk := f.gos.kind.toNat_lt
 rw [← headB h, e, u64n_of (n := f.gos.kind.toNat) (by omega)]
 simp only [encC, List.append_assoc]
theorem bodyB_3 (k : f.kind = 3) : formN (u64n ((f.kind.toNat : Nat) : Int)) ++ formN (u64n f.frm) ++ formN (u64n f.dst) ++ f.cKey ++ formN f.cInc ++ formN f.cCnt ++ formN (flagN f.cGone) = bodyFM f := by
 have e : (conM f) = .claim f.cKey f.cInc f.cCnt f.cGone := by
  unfold conM
  rw [if_neg (by rw [k]; decide), if_neg (by rw [k]; decide), if_pos k]
 rw [← headB h, e]
 simp only [encC, List.append_assoc]
theorem bodyB_4 (k : f.kind = 4) : formN (u64n ((f.kind.toNat : Nat) : Int)) ++ formN (u64n f.frm) ++ formN (u64n f.dst) ++ f.att.raw = bodyFM f := by
 have e : (conM f) = .result f.att := by
  unfold conM
  rw [if_neg (by rw [k]; decide), if_neg (by rw [k]; decide), if_neg (by rw [k]; decide), if_pos k]
 rw [← headB h, e]
 rfl
theorem bodyB_5 (k : f.kind = 5) : formN (u64n ((f.kind.toNat : Nat) : Int)) ++ formN (u64n f.frm) ++ formN (u64n f.dst) ++ f.root ++ formN (u64n f.chunk) = bodyFM f := by
 have e : (conM f) = .want f.root f.chunk.toNat := by
  unfold conM
  rw [if_neg (by rw [k]; decide), if_neg (by rw [k]; decide), if_neg (by rw [k]; decide), if_neg (by rw [k]; decide), if_pos k]
 have hm : mayK5 f := (mayFM_5 ⟨h.1, h.2.1, h.2.2.1, h.2.2.2.1⟩ k).1 h
 rw [← headB h, e, u64n_to hm.1 (by have := hm.2; omega)]
 simp only [encC, List.append_assoc]
theorem bodyB_6 (k : f.kind = 6) : formN (u64n ((f.kind.toNat : Nat) : Int)) ++ formN (u64n f.frm) ++ formN (u64n f.dst) ++ f.root ++ formN (u64n f.chunk) ++ (formN f.byt.length ++ f.byt) ++ (formN f.prf.length ++ (f.prf.map fun x => x).flatten) = bodyFM f := by
 have e : (conM f) = .chunk f.root f.chunk.toNat f.byt f.prf := by
  unfold conM
  rw [if_neg (by rw [k]; decide), if_neg (by rw [k]; decide), if_neg (by rw [k]; decide), if_neg (by rw [k]; decide), if_neg (by rw [k]; decide)]
 have hm : mayK6 f := (mayFM_6 ⟨h.1, h.2.1, h.2.2.1, h.2.2.2.1⟩ k).1 h
 rw [← headB h, e, u64n_to hm.1.1 (by have := hm.1.2; omega)]
 simp only [encC, List.append_assoc]
theorem kind_may : 1 ≤ f.kind.toNat ∧ f.kind.toNat ≤ 6 := by
 rcases h.2.2.2.2 with e | e | e | e | e | e <;> (rw [e.1]; decide)
end
end Mur
namespace Mur
open Go Go.RowKit Wk
theorem newOr_own {B x : Nat} {S : List Nat} {v : Value} (h : x ∈ S ∨ B ≤ x) (h2 : ∀ g, v.ownBlock = some g → B ≤ g) : NewOr B S ([x] ++ blk v) := ⟨h, newOr_blk h2⟩
end Mur
namespace Mur
open Go Go.RowKit Wk
theorem slr_lt {w : World} {sz g off n : Nat} {A : Option Addr} {R : List (List Value)} (h : SlR w sz A n R) (hp : 0 < sz) (e : A = some ⟨g, off, none⟩) (hn : 0 < n) : g < w.heap.size := by
 obtain ⟨r, hr⟩ : ∃ r, R[0]? = some r := ⟨_, List.getElem?_eq_getElem (by rw [h.len]; exact hn)⟩
 obtain ⟨g2, off2, e2, hg⟩ := h.row hr hp
 rw [e] at e2
 cases e2
 have hl := (h.szd r (List.mem_of_getElem? hr)).1
 have := hg 0 r[0] (List.getElem?_eq_getElem (by omega))
 unfold World.cell? at this
 cases hh : w.heap[g]? with
 | none => simp [hh] at this
 | some o => exact (Array.getElem?_eq_some_iff.1 hh).1
theorem byt_blt {w : World} {g off n : Nat} {A : Option Addr} {l : List UInt8} (h : Byt w A n l) (e : A = some ⟨g, off, none⟩) (hn : 0 < n) : g < w.heap.size := by
 obtain ⟨g2, off2, e2, hc⟩ := h.2 hn
 rw [e] at e2
 cases e2
 have := hc 0 hn
 unfold World.cell? at this
 cases hh : w.heap[g]? with
 | none => simp [hh] at this
 | some o => exact (Array.getElem?_eq_some_iff.1 hh).1
theorem own8_none (w : World) (base e : Nat) : Own8 w base e none 0 0 [] := own8_nil w base e
end Mur
namespace Mur
open Go Go.RowKit Wk
section
variable {T : List UInt8 → List UInt8} {b d : List UInt8} {x : Fra} {at4 at5 : Nat} {bad4 : Bool}
theorem rd_bad (hl : b.length ≤ 2000) (hF : Step readF b 0 false at4 true x) : readAll T b = .form := by
 rcases hF.no rfl with h | h
 ·cases h
 ·exact readAll_none hl h
theorem rd_some (hl : b.length ≤ 2000) (hF : Step readF b 0 false at4 false x) : readAll T b = told T b (ofFra x) x.con.kind (b.drop at4) := readAll_some T hl (hF.ok rfl).2
theorem rd_un (hl : b.length ≤ 2000) (h4 : at4 ≤ b.length) (hF : Step readF b 0 false at4 false x) (hk : ¬ x.con.kind ≤ 4) (hn : at4 = b.length → ¬ mayFM (ofFra x)) : readAll T b = .form := by
 rw [rd_some hl hF]
 unfold told
 rw [if_neg]
 rintro ⟨h1, h2⟩
 rw [if_neg hk, List.length_drop] at h2
 exact hn (by omega) h1
theorem rd_un_ok (hl : b.length ≤ 2000) (hF : Step readF b 0 false at4 false x) (hk : ¬ x.con.kind ≤ 4) (ha : at4 = b.length) (hm : mayFM (ofFra x)) : readAll T b = .ok (ofFra x) := by
 rw [rd_some hl hF]
 unfold told
 rw [if_pos ⟨hm, by rw [if_neg hk, List.length_drop]; omega⟩, if_neg (fun q => hk q.1)]
theorem rd_S {at5 : Nat} {bad5 : Bool} (hD : Step (readS 32) b at4 bad4 at5 bad5 d) (h : bad5 = false) : bad4 = false ∧ b.drop at4 = d ++ b.drop at5 ∧ d.length = 32 := by
 obtain ⟨h1, h2⟩ := hD.ok h
 have h3 := (codecS 32).un _ _ _ h2
 exact ⟨h1, h3.1, h3.2⟩
theorem rd_tg_bad (hl : b.length ≤ 2000) (hF : Step readF b 0 false at4 bad4 x) (hk : x.con.kind ≤ 4) (hD : Step (readS 32) b at4 bad4 at5 true d) : readAll T b = .form := by
 cases bad4 with
 | true => exact rd_bad hl hF
 | false =>
  rcases hD.no rfl with h | h
  ·cases h
  ·rw [rd_some hl hF]
   unfold told
   rw [if_neg]
   rintro ⟨_, h2⟩
   rw [if_pos hk] at h2
   unfold readS at h
   rw [if_neg (by omega)] at h
   cases h
theorem rd_tg_no (hl : b.length ≤ 2000) (h5 : at5 ≤ b.length) (hF : Step readF b 0 false at4 bad4 x) (hk : x.con.kind ≤ 4) (hD : Step (readS 32) b at4 bad4 at5 false d) (hn : at5 = b.length → ¬ mayFM (ofFra x)) : readAll T b = .form := by
 obtain ⟨rfl, e, hd⟩ := rd_S hD rfl
 rw [rd_some hl hF]
 unfold told
 rw [if_neg]
 rintro ⟨h1, h2⟩
 rw [if_pos hk, e, List.length_append, hd, List.length_drop] at h2
 exact hn (by omega) h1
theorem rd_tg_may (hl : b.length ≤ 2000) (hF : Step readF b 0 false at4 bad4 x) (hk : x.con.kind ≤ 4) (hD : Step (readS 32) b at4 bad4 at5 false d) (ha : at5 = b.length) (hm : mayFM (ofFra x)) : bad4 = false ∧ told T b (ofFra x) x.con.kind (b.drop at4) = if d ≠ T (b.take at4) then .tag else .ok (ofFra x) := by
 obtain ⟨rfl, e, hd⟩ := rd_S hD rfl
 refine ⟨rfl, ?_⟩
 have e5 : b.drop at5 = [] := List.drop_of_length_le (by omega)
 rw [e5, List.append_nil] at e
 have e6 : b.length - 32 = at4 := by
  have := congrArg List.length e
  rw [List.length_drop] at this
  omega
 unfold told
 rw [if_pos ⟨hm, by rw [e, if_pos hk, hd]⟩, e, e6]
 by_cases h : d = T (b.take at4)
 ·rw [if_neg (fun q => q.2 h), if_neg (fun q => q h)]
 ·rw [if_pos ⟨hk, h⟩, if_pos h]
theorem rd_tg_tag (hl : b.length ≤ 2000) (hF : Step readF b 0 false at4 bad4 x) (hk : x.con.kind ≤ 4) (hD : Step (readS 32) b at4 bad4 at5 false d) (ha : at5 = b.length) (hm : mayFM (ofFra x)) (hd : ¬ d = T (b.take at4)) : readAll T b = .tag := by
 obtain ⟨rfl, h⟩ := rd_tg_may (T := T) hl hF hk hD ha hm
 rw [rd_some hl hF, h, if_pos hd]
theorem rd_tg_ok (hl : b.length ≤ 2000) (hF : Step readF b 0 false at4 bad4 x) (hk : x.con.kind ≤ 4) (hD : Step (readS 32) b at4 bad4 at5 false d) (ha : at5 = b.length) (hm : mayFM (ofFra x)) (hd : d = T (b.take at4)) : readAll T b = .ok (ofFra x) := by
 obtain ⟨rfl, h⟩ := rd_tg_may (T := T) hl hF hk hD ha hm
 rw [rd_some hl hF, h, if_neg (fun q => q hd)]
theorem rd_none {v f k : Nat} {bad1 : Bool} {at1 : Nat} (hl : b.length ≤ 2000) (h : Step (pSeq readK (pSeq readI readI)) b 0 false at1 bad1 (v, (f, k))) (hv : (UInt8.ofNat v).toNat < 1 ∨ 6 < (UInt8.ofNat v).toNat) : readAll T b = .form := by
 rcases h.fra_no hv with h1 | h1
 ·cases h1
 ·exact readAll_none hl h1
end
theorem may_head {k : UInt8} {a b : Int} (h : k.toNat < 1 ∨ 6 < k.toNat) : ¬ mayFM (headM k a b) := fun q => by
 have q2 : (k = 1 ∧ _) ∨ (k = 2 ∧ _) ∨ (k = 3 ∧ _) ∨ (k = 4 ∧ _) ∨ (k = 5 ∧ _) ∨ (k = 6 ∧ _) := q.2.2.2.2
 have e1 : (1 : UInt8).toNat = 1 := rfl
 have e2 : (2 : UInt8).toNat = 2 := rfl
 have e3 : (3 : UInt8).toNat = 3 := rfl
 have e4 : (4 : UInt8).toNat = 4 := rfl
 have e5 : (5 : UInt8).toNat = 5 := rfl
 have e6 : (6 : UInt8).toNat = 6 := rfl
 rcases q2 with ⟨e, _⟩ | ⟨e, _⟩ | ⟨e, _⟩ | ⟨e, _⟩ | ⟨e, _⟩ | ⟨e, _⟩ <;> (rw [e] at h; omega)
theorem byt_lt {w : World} {A : Option Addr} {n : Nat} {l : List UInt8} (h : Byt w A n l) {a : Addr} (e : A = some a) (hn : 0 < n) : a.block < w.heap.size := by
 obtain ⟨g, off, e2, hc⟩ := h.2 hn
 rw [e] at e2
 cases e2
 have := hc 0 hn
 unfold World.cell? at this
 cases hh : w.heap[g]? with
 | none => rw [hh] at this; cases this
 | some o => exact (Array.getElem?_eq_some_iff.1 hh).1
theorem cutA_nil {A : Option Addr} {c d : Nat} (h : A = none → c = 0) (e : cutA A c d = none) : c - d = 0 := by
 unfold cutA at e
 split at e
 ·omega
 ·have := h (Option.map_eq_none_iff.1 e)
  omega
theorem tag_flat {A B : Option Addr} {n c m k : Nat} {b : List UInt8} : flat [⟨A, n, c, [18]⟩, ⟨B, m, k, b⟩] = 18 :: b := by simp [flat]
end Mur
namespace Go.Proofs.YtgbadghjnpbiaaaGreatDoor
open Go.RowKit Wk
theorem results_frm {fn : Func} {p u : Tmp} (h : fn.results = #[.cell p 38, .tmp u]) (tmps : Array Value) (w : World) (g : Nat) (cs : Array Value) (fr : Nat × Nat) (v : Value) (hp : tmps.getD p undef = .pointer (some ⟨g, 0, none⟩)) (hg : w.heap[g]? = some (.cells cs 38 fr)) (hs : cs.size = 213) (hv : tmps.getD u undef = v) :
  (results fn tmps).run Tryz.prog w = .ok (.tuple #[.agg cs, v]) w := by
 rw [results_cell_tmp h, hp, hv]
 have := run_loadVar_row (P := Tryz.prog) w g 38 38 cs fr _ hg Tryz.underlying38 rfl (by rw [hs]; kernel_rfl)
 simp [asAddr, this]
end Go.Proofs.YtgbadghjnpbiaaaGreatDoor
namespace Go.Proofs.YtgbadghjnpbiaaaGreatDoor
theorem retF {fn : Func} {R : Ending → World → Prop} {a : Act} {w : World} {p u : Tmp} {g : Nat} {cs : Array Value} {fr : Nat × Nat} (v : Value) (hg : w.heap[g]? = some (.cells cs 38 fr)) (hs : cs.size = 213) (h : R (.returned (.tuple #[.agg cs, v])) w) (hr : fn.results = #[.cell p 38, .tmp u] := by exact rfl) (hd : a.defers = [] := by exact rfl) (hp : a.tmps.getD p undef = .pointer (some ⟨g, 0, none⟩) := by kernel_rfl) (hv : a.tmps.getD u undef = v := by kernel_rfl) : bodyPost Tryz.prog fn R .ret a w := Wk.ret _ hd (results_frm hr a.tmps w g cs fr v hp hg hs hv) h
end Go.Proofs.YtgbadghjnpbiaaaGreatDoor
namespace Go.Proofs.YtgbadghjnpbiaaaGreatDoor
open Go.RowKit Wk
open Mur (b8s Byt Own8 Seg Segs flat cutA)
open Mur (St)
set_option maxRecDepth 100000
set_option maxHeartbeats 4000000
def Rkey_F1 (b : Array Value) (u8 : Value) : Act := sg 27 [(8, u8)] b
def Rkey_F2 (b : Array Value) (u8 : Value) : Act := sg 27 [(8, u8)] b
def TagBy_F1 (b : Array Value) (u3 u4 u5 u8 u9 u10 u11 u12 : Value) : Act := sg 50 [(3, u3), (4, u4), (5, u5), (8, u8), (9, u9), (10, u10), (11, u11), (12, u12)] b
theorem Rkey_any (hc kc : Array Value) (Hh : Hid (hc = stCells Mur.H0)) (Hk : Hid (kc = Mur.u32s Mur.K)) (s : List UInt8) (A : Option Addr) (n c : Nat) (w : World) (hb : Byt w A n s) (hnc : n ≤ c) (ha : A = none → c = 0) (hn : n ≤ 140737488351232) : Calls Tryz.prog 91 #[.agg hc, .agg kc, .slice A n c] w fun e w' => ∃ q cq K, Hid (K = Mur.hkey s) ∧ K.length = 64 ∧ e = .returned (.slice (some ⟨q, 0, none⟩) 64 cq) ∧ Byt w' (some ⟨q, 0, none⟩) 64 K ∧ (w.heap.size ≤ q ∧ q < w'.heap.size) ∧ Chg [] w w' := by
 have hcs := hc_size Hh.out
 have kcs := kc_size Hk.out
 have HBY := Go.Lib.hid hb
 clear hb
 have HA := Go.Lib.hid ha
 clear ha
 refine calls_of_wp Tryz.func91 rfl ?_
 refine sR<|nW 0 3 hc 101 fun W1 hb1 ch1 sz1 => nW 1 4 kc 102 fun W2 hb2 ch2 sz2 => rP 2 6 (.slice none 0 0)<|eN<|wp_seq<|sR<|rP 0 9 (.slice A n c)<|rP 1 10 (vI n) ?_
 by_cases hx1 : (n : Int) > (64 : Int)
 ·refine bT 2 11 ((n : Int) > (64 : Int))<|eN<|cT<|sR<|rq 0 12 _ rfl (lA (qT ch2 hb1) hcs.1)<|rq 1 13 _ rfl (lA hb2 kcs.1)<|rP 2 14 (.slice A n c) ?_
  have kk2 := kA (zA ch1 : Chg [] w W1) ch2
  refine rK 3 15 (Rsum_var hc kc Hh Hk s A n c W2 (Mur.byt_chg HBY.out kk2 (fun g off e hl => trivial)) (by omega) HA.out (by omega)) ?_
  rintro _ W3 ⟨dd1, hd1, hdl1, rfl, hB1⟩
  have ch3 := Chg.ofBelow hB1
  have zz3 := ch3.size
  refine nW 4 7 Z32 28 fun W4 hb3 ch4 sz3 => rU 5 rfl (sC dd1 hdl1 hb3) fun W5 hb4 ch5 zz5 => eN<|reg<|rq 0 16 (.slice (some ⟨W3.heap.size, 0, none⟩) 32 32) rfl (Mur.arr_slice 28 5 (.tmp 7) 32 rfl Tryz.underlying28 (by kernel_rfl) W3.heap.size (by kernel_rfl))<|rP 1 2 (.slice (some ⟨W3.heap.size, 0, none⟩) 32 32)<|eN<|sR<|nS 0 17 0 #[] 5 fun W6 hb5 ch6 sz4 => rP 1 18 (.slice (some ⟨W3.heap.size, 0, none⟩) 32 32) ?_
  have ow1 := Mur.own8_empty hb5 (Nat.le_refl _)
  refine rX 2 19 rfl rfl (ap8 32 32 ow1.own (Mur.byt_blk dd1 hdl1 (qT ch6 hb4)) (fun h => by cases h) 32 dd1) ?_
  rintro _ W7 ⟨AA1, nn1, rfl, ow2, ch7, ha1⟩
  have zz7 := ch7.size
  have hq1 := ow2.nc
  have hq2 := ow2.cm
  refine rP 3 8 (.slice AA1 32 nn1)<|eN<|wp_seq<|wp_block<|?_
  refine Wk.loop (fun m_ a wr => ∃ (z : Nat) (A1 : Option Addr) (N : Nat) (c1 : Nat), m_ = 64 - z ∧ a = Rkey_F1 a.tmps (.slice A1 N c1) ∧ 32 + z ≤ 64 ∧ N = 32 + z ∧ Own8 wr W5.heap.size 5 A1 N c1 (dd1 ++ List.replicate z 0) ∧ Chg [] w wr ∧ W5.heap.size ≤ wr.heap.size) (64 - 0) ?_ ?_
  ·have kk3 := kA kk2 ch3
   refine ⟨0, AA1, 32, nn1, rfl, by kernel_rfl, by omega, rfl, (by rw [List.replicate_zero, List.append_nil]; exact ow2), (Chg.step (kA (kB (kA kk3 ch4) ch5) ch6) ch7 (newOr_blk (fun g hg => by have := ow1.lt g hg; omega))), (by omega)⟩
  rintro mm1 aa1 W8 ⟨z, A1, N, c1, hmm1, hF1, hz, hN, hO, HB, hbs⟩
  generalize aa1.tmps = bb1 at hF1
  subst hF1
  have hqn := hO.nc
  have hqm := hO.cm
  unfold Go.maxLen at hqm
  by_cases hlt : N < 64
  ·refine wp_seq<|sR<|rP 0 20 (.slice A1 N c1)<|rP 1 21 (vI N)<|bT 2 22 ((N : Int) < (64 : Int))<|eN<|cT<|wp_skip<|nxt<|wp_block<|reg<|rP 0 23 (.slice A1 N c1)<|nS 1 24 1 #[vB 0] 5 fun W9 hb6 ch8 sz5 => rX 2 25 rfl rfl (ap8 1 1 (oA hO ch8).own (Mur.byt_row [0] hb6) (fun h => by cases h) (N + 1) ((dd1 ++ List.replicate z 0) ++ ([0]))) ?_
   rintro _ W10 ⟨AA2, nn2, rfl, ow4, ch9, ha2⟩
   have zz9 := ch9.size
   have hq3 := ow4.nc
   have hq4 := ow4.cm
   refine rP 3 8 (.slice AA2 (N + 1) nn2)<|rE<|inN<|nxt<|?_
   refine ⟨_, ?_, z + 1, AA2, N + 1, nn2, rfl, by kernel_rfl, (by omega), (by omega), (by rw [← Mur.rep_snoc]; exact ow4), (Chg.step (kA HB ch8) ch9 (newOr_blk (fun g hg => by have := hO.lt g hg; omega))), (by omega)⟩
   omega
  refine wp_seq<|sR<|rP 0 20 (.slice A1 N c1)<|rP 1 21 (vI N)<|bF 2 22 ((N : Int) < (64 : Int))<|eN<|cF<|xX<|nxt<|sR<|rP 0 26 (.slice A1 N c1)<|rP 1 6 (.slice A1 N c1)<|eN<|wp_ret<|?_
  have hN64 : N = 64 := by omega
  subst hN64
  obtain ⟨q, rfl, hqb, hql⟩ := Mur.Own8.some hO (by omega)
  exact rt (.slice (some ⟨q, 0, none⟩) 64 c1) ⟨q, c1, _, Go.Lib.hid (Mur.rkey_big (by rw [HBY.out.1]; omega) hd1.out (by omega)), (by simp only [List.length_append, List.length_replicate]; have := HBY.out.1; omega), rfl, hO.byt, ⟨by omega, by omega⟩, HB⟩
 refine bF 2 11 ((n : Int) > (64 : Int))<|eN<|cF<|wp_skip<|nxt<|sR<|nS 0 17 0 #[] 5 fun W11 hb7 ch10 sz6 => rP 1 18 (.slice A n c) ?_
 have ow5 := Mur.own8_empty hb7 (Nat.le_refl _)
 have kk12 := kA (kA (zA ch1 : Chg [] w W1) ch2) ch10
 refine rX 2 19 rfl rfl (ap8 n c ow5.own (Mur.byt_chg HBY.out kk12 (fun g off e hl => trivial)) HA.out n s) ?_
 rintro _ W12 ⟨AA3, nn3, rfl, ow6, ch11, ha3⟩
 have zz11 := ch11.size
 have hq5 := ow6.nc
 have hq6 := ow6.cm
 refine rP 3 8 (.slice AA3 n nn3)<|eN<|wp_seq<|wp_block<|?_
 refine Wk.loop (fun m_ a wr => ∃ (z : Nat) (A1 : Option Addr) (N : Nat) (c1 : Nat), m_ = 64 - z ∧ a = Rkey_F2 a.tmps (.slice A1 N c1) ∧ n + z ≤ 64 ∧ N = n + z ∧ Own8 wr W2.heap.size 5 A1 N c1 (s ++ List.replicate z 0) ∧ Chg [] w wr ∧ W2.heap.size ≤ wr.heap.size) (64 - 0) ?_ ?_
 ·have kk13 := Chg.step kk12 ch11 (newOr_blk (fun g hg => by have := ow5.lt g hg; omega))
  refine ⟨0, AA3, n, nn3, rfl, by kernel_rfl, by omega, rfl, (by rw [List.replicate_zero, List.append_nil]; exact ow6), kk13, (by omega)⟩
 rintro mm2 aa2 W13 ⟨z, A1, N, c1, hmm2, hF2, hz, hN, hO, HB, hbs⟩
 generalize aa2.tmps = bb2 at hF2
 subst hF2
 have hqn := hO.nc
 have hqm := hO.cm
 unfold Go.maxLen at hqm
 by_cases hlt : N < 64
 ·refine wp_seq<|sR<|rP 0 20 (.slice A1 N c1)<|rP 1 21 (vI N)<|bT 2 22 ((N : Int) < (64 : Int))<|eN<|cT<|wp_skip<|nxt<|wp_block<|reg<|rP 0 23 (.slice A1 N c1)<|nS 1 24 1 #[vB 0] 5 fun W14 hb8 ch12 sz7 => rX 2 25 rfl rfl (ap8 1 1 (oA hO ch12).own (Mur.byt_row [0] hb8) (fun h => by cases h) (N + 1) ((s ++ List.replicate z 0) ++ ([0]))) ?_
  rintro _ W15 ⟨AA4, nn4, rfl, ow8, ch13, ha4⟩
  have zz13 := ch13.size
  have hq7 := ow8.nc
  have hq8 := ow8.cm
  refine rP 3 8 (.slice AA4 (N + 1) nn4)<|rE<|inN<|nxt<|?_
  refine ⟨_, ?_, z + 1, AA4, N + 1, nn4, rfl, by kernel_rfl, (by omega), (by omega), (by rw [← Mur.rep_snoc]; exact ow8), (Chg.step (kA HB ch12) ch13 (newOr_blk (fun g hg => by have := hO.lt g hg; omega))), (by omega)⟩
  omega
 refine wp_seq<|sR<|rP 0 20 (.slice A1 N c1)<|rP 1 21 (vI N)<|bF 2 22 ((N : Int) < (64 : Int))<|eN<|cF<|xX<|nxt<|sR<|rP 0 26 (.slice A1 N c1)<|rP 1 6 (.slice A1 N c1)<|eN<|wp_ret<|?_
 have hN64 : N = 64 := by omega
 subst hN64
 obtain ⟨q, rfl, hqb, hql⟩ := Mur.Own8.some hO (by omega)
 exact rt (.slice (some ⟨q, 0, none⟩) 64 c1) ⟨q, c1, _, Go.Lib.hid (Mur.rkey_small HBY.out.1 (by omega) (by omega)), (by simp only [List.length_append, List.length_replicate]; have := HBY.out.1; omega), rfl, hO.byt, ⟨by omega, by omega⟩, HB⟩
theorem TagBy_any (hc kc : Array Value) (Hh : Hid (hc = stCells Mur.H0)) (Hk : Hid (kc = Mur.u32s Mur.K)) (s : List UInt8) (A : Option Addr) (n c : Nat) (b : List UInt8) (B : Option Addr) (m d : Nat) (w : World) (hb : Byt w A n s) (hnc : n ≤ c) (ha : A = none → c = 0) (hn : n ≤ 140737488351232) (hb2 : Byt w B m b) (ha2 : B = none → d = 0) (hn2 : m ≤ 140737488351000) : Calls Tryz.prog 67 #[.agg hc, .agg kc, .slice A n c, .slice B m d] w fun e w' => ∃ d, Hid (d = Mur.hmac s b) ∧ d.length = 32 ∧ e = .returned (.agg (b8s d).toArray) ∧ Chg [] w w' := by
 have hcs := hc_size Hh.out
 have kcs := kc_size Hk.out
 have HBY := Go.Lib.hid hb
 clear hb
 have HA := Go.Lib.hid ha
 clear ha
 have HB2 := Go.Lib.hid hb2
 clear hb2
 have HA2 := Go.Lib.hid ha2
 clear ha2
 refine calls_of_wp Tryz.func67 rfl ?_
 refine sR<|nW 0 4 hc 101 fun W1 hb1 ch1 sz1 => nW 1 5 kc 102 fun W2 hb2 ch2 sz2 => nW 2 8 Z32 28 fun W3 hb3 ch3 sz3 => eN<|sR<|rq 0 14 _ rfl (lA (qT ch3 (qT ch2 hb1)) hcs.1)<|rq 1 15 _ rfl (lA (qT ch3 hb2) kcs.1)<|rP 2 16 (.slice A n c) ?_
 have kk3 := kA (kA (zA ch1 : Chg [] w W1) ch2) ch3
 refine rK 3 17 (Rkey_any hc kc Hh Hk s A n c W3 (Mur.byt_chg HBY.out kk3 (fun g off e hl => trivial)) (by omega) HA.out (by omega)) ?_
 rintro _ W4 ⟨qk1, ck1, KK1, hK1, hKl1, rfl, hKB1, hq1, ch4⟩
 have zz4 := ch4.size
 have hKt1 : ∀ g off, (some ⟨qk1, 0, none⟩ : Option Addr) = some ⟨g, off, none⟩ → W3.heap.size ≤ g ∧ g < W4.heap.size := fun g off e => by cases e; exact hq1
 refine rP 4 9 (.slice (some ⟨qk1, 0, none⟩) 64 ck1)<|eN<|sR<|rP 0 10 (.slice none 0 0)<|rP 1 11 (.slice none 0 0)<|eN<|wp_seq<|sR<|rP 0 12 (vI 0)<|eN<|wp_block<|?_
 refine Wk.loop (fun m_ a wr => ∃ (i : Nat) (A1 : Option Addr) (c1 : Nat) (A2 : Option Addr) (c2 : Nat), m_ = 64 - i ∧ a = TagBy_F1 a.tmps (.slice B m d) (pw w 0) (pw W1 0) (pw W2 0) (.slice (some ⟨qk1, 0, none⟩) 64 ck1) (.slice A1 i c1) (.slice A2 i c2) (vI i) ∧ i ≤ 64 ∧ Own8 wr W4.heap.size 5 A1 i c1 (Mur.xorl 54 (KK1.take i)) ∧ Own8 wr W4.heap.size 5 A2 i c2 (Mur.xorl 92 (KK1.take i)) ∧ (∀ q, (Value.slice A1 i c1).ownBlock = some q → (Value.slice A2 i c2).ownBlock ≠ some q) ∧ Byt wr (some ⟨qk1, 0, none⟩) 64 KK1 ∧ wr.heap[w.heap.size]? = some (.cells hc 101 (0, 0)) ∧ wr.heap[W1.heap.size]? = some (.cells kc 102 (0, 0)) ∧ wr.heap[W2.heap.size]? = some (.cells Z32 28 (0, 0)) ∧ Chg [] w wr ∧ W4.heap.size ≤ wr.heap.size) (64 - 0) ?_ ?_
 ·have kk4 := kA kk3 ch4
  refine ⟨0, none, 0, none, 0, rfl, by kernel_rfl, by omega, Mur.own8_nil W4 W4.heap.size 5, Mur.own8_nil W4 W4.heap.size 5, (fun q h => by cases h), hKB1, (qT ch4 (qT ch3 (qT ch2 hb1))), (qT ch4 (qT ch3 hb2)), (qT ch4 hb3), kk4, (by omega)⟩
 rintro mm1 aa1 W5 ⟨i, A1, c1, A2, c2, hmm1, hF1, hi, hO1, hO2, hne, hKB, hG0, hG1, hG2, HB, hbs⟩
 generalize aa1.tmps = bb1 at hF1
 subst hF1
 have hqn1 := hO1.nc
 have hqm1 := hO1.cm
 unfold Go.maxLen at hqm1
 have hqn2 := hO2.nc
 have hqm2 := hO2.cm
 unfold Go.maxLen at hqm2
 by_cases hlt : i < 64
 ·refine wp_seq<|sR<|rP 0 18 (vI i)<|bT 1 19 ((i : Int) < (64 : Int))<|eN<|cT<|wp_skip<|nxt<|wp_seq<|wp_block<|sR<|rP 0 22 (.slice A1 i c1)<|rP 1 23 (.slice (some ⟨qk1, 0, none⟩) 64 ck1)<|rP 2 24 (vI i)<|rq 3 25 (pt qk1 (0 + i * 1)) rfl (iS 1 qk1 0 64 ck1 i)<|rq 4 26 _ rfl (ld 5 25 qk1 (0 + i * 1) (vB ((KK1.getD i 0).toNat : Nat)) (Mur.byt_cell hKB i (by omega)))<|rq 5 27 (vB (((KK1.getD i 0) ^^^ (54 : UInt8)).toNat : Nat)) rfl (Mur.xor8 5 5 (.tmp 26) (.const (vB 54)) rfl (KK1.getD i 0) (54 : UInt8) (by kernel_rfl) (by kernel_rfl))<|nS 6 28 1 #[vB (((KK1.getD i 0) ^^^ (54 : UInt8)).toNat : Nat)] 5 fun W6 hb4 ch5 sz4 => rX 7 29 rfl rfl (ap8 1 1 (oA hO1 ch5).own (Mur.byt_row [((KK1.getD i 0) ^^^ (54 : UInt8))] hb4) (fun h => by cases h) (i + 1) ((Mur.xorl 54 (KK1.take i)) ++ ([((KK1.getD i 0) ^^^ (54 : UInt8))]))) ?_
  rintro _ W7 ⟨AA1, nn1, rfl, ow2, ch6, ha1⟩
  have zz6 := ch6.size
  have hq3 := ow2.nc
  have hq4 := ow2.cm
  refine rP 8 10 (.slice AA1 (i + 1) nn1)<|eN<|reg<|?_
  have hne2 : ∀ q, (Value.slice AA1 (i + 1) nn1).ownBlock = some q → (Value.slice A2 i c2).ownBlock ≠ some q := fun q h1 h2 => by
   rcases ha1 q h1 with h | h
   ·exact hne q h h2
   ·have := hO2.lt q h2; omega
  refine rP 0 30 (.slice A2 i c2)<|rP 1 31 (.slice (some ⟨qk1, 0, none⟩) 64 ck1)<|rP 2 32 (vI i)<|rq 3 33 (pt qk1 (0 + i * 1)) rfl (iS 1 qk1 0 64 ck1 i)<|rq 4 34 _ rfl (ld 5 33 qk1 (0 + i * 1) (vB ((KK1.getD i 0).toNat : Nat)) (Mur.byt_cell (Mur.byt_chg (Mur.byt_chg hKB ch5 (fun g off e hl => trivial)) ch6 (fun g off e hl => (off_blk (fun gz hgz => by have := hO1.lt gz hgz; have := hKt1 g off e; omega)))) i (by omega)))<|rq 5 35 (vB (((KK1.getD i 0) ^^^ (92 : UInt8)).toNat : Nat)) rfl (Mur.xor8 5 5 (.tmp 34) (.const (vB 92)) rfl (KK1.getD i 0) (92 : UInt8) (by kernel_rfl) (by kernel_rfl))<|nS 6 36 1 #[vB (((KK1.getD i 0) ^^^ (92 : UInt8)).toNat : Nat)] 5 fun W8 hb5 ch7 sz5 => ?_
  have ow3 := oA ow2 ch7
  refine rX 7 37 rfl rfl (ap8 1 1 (oA (Mur.own8 (own_chg (oA hO2 ch5).own ch6 (fun q e _ _ => (off_blk (fun g hg h => hne g hg (h ▸ e)))))) ch7).own (Mur.byt_row [((KK1.getD i 0) ^^^ (92 : UInt8))] hb5) (fun h => by cases h) (i + 1) ((Mur.xorl 92 (KK1.take i)) ++ ([((KK1.getD i 0) ^^^ (92 : UInt8))]))) ?_
  rintro _ W9 ⟨AA2, nn2, rfl, ow7, ch8, ha2⟩
  have zz8 := ch8.size
  have hq5 := ow7.nc
  have hq6 := ow7.cm
  refine rP 8 11 (.slice AA2 (i + 1) nn2)<|rE<|inN<|nxt<|reg<|rP 0 20 (vI i)<|rI 1 21 ((i : Int) + 1) (((i + 1 : Nat) : Int))<|rP 2 12 (vI (i + 1 : Nat))<|eN<|?_
  have ow8 := Mur.own8 (own_chg ow3.own ch8 (fun q e _ _ => (off_blk (fun g hg h => hne2 g (h ▸ e) hg))))
  refine ⟨_, ?_, i + 1, AA1, nn1, AA2, nn2, rfl, by kernel_rfl, (by omega), (by rw [Mur.xorl_succ _ KK1 i (by omega)]; exact ow8), (by rw [Mur.xorl_succ _ KK1 i (by omega)]; exact ow7), (fun q h1 h2 => by
   have l1 := ow8.lt q h1
   rcases ha2 q h2 with k | k
   ·exact hne2 q h1 k
   ·rcases ha1 q h1 with h | h
    ·have := hO1.lt q h; omega
    ·have := ow3.lt q h1; omega), (Mur.byt_chg (Mur.byt_chg (Mur.byt_chg (Mur.byt_chg hKB ch5 (fun g off e hl => trivial)) ch6 (fun g off e hl => (off_blk (fun gz hgz => by have := hO1.lt gz hgz; have := hKt1 g off e; omega)))) ch7 (fun g off e hl => trivial)) ch8 (fun g off e hl => (off_blk (fun gz hgz => by have := hO2.lt gz hgz; have := hKt1 g off e; omega)))), (Chg.hp ch8 (qT ch7 (Chg.hp ch6 (qT ch5 hG0) (off_blk (fun gz hgz => by have := hO1.lt gz hgz; omega)))) (off_blk (fun gz hgz => by have := hO2.lt gz hgz; omega))), (Chg.hp ch8 (qT ch7 (Chg.hp ch6 (qT ch5 hG1) (off_blk (fun gz hgz => by have := hO1.lt gz hgz; omega)))) (off_blk (fun gz hgz => by have := hO2.lt gz hgz; omega))), (Chg.hp ch8 (qT ch7 (Chg.hp ch6 (qT ch5 hG2) (off_blk (fun gz hgz => by have := hO1.lt gz hgz; omega)))) (off_blk (fun gz hgz => by have := hO2.lt gz hgz; omega))), (Chg.step (kA (Chg.step (kA HB ch5) ch6 (newOr_blk (fun g hg => by have := hO1.lt g hg; omega))) ch7) ch8 (newOr_blk (fun g hg => by have := hO2.lt g hg; omega))), (by omega)⟩
  omega
 obtain rfl : i = 64 := by omega
 have hft : KK1.take 64 = KK1 := List.take_of_length_le (by rw [hKl1]; exact Nat.le_refl _)
 rw [hft] at hO1 hO2
 refine wp_seq<|sR<|rP 0 18 (vI ((64 : Nat) : Int))<|bF 1 19 (((64 : Nat) : Int) < (64 : Int))<|eN<|cF<|xX<|nxt<|wp_seq<|?_
 refine dReg ((Wk.blk (.slice A1 64 c1))) (by kernel_rfl) ?_
 intro W10 ch9 sz6
 have zz9 := ch9.size
 have sS1 : Chg ((Wk.blk (.slice A1 64 c1))) W10 W10 := (Chg.refl _).more (by simp)
 refine dV 0 38 _ rfl rfl (fun w' hw' => lA (Chg.hp hw' (qT ch9 hG0) (off_blk (fun gz hgz => by have := hO1.lt gz hgz; omega))) hcs.1) sS1<|dV 1 39 _ rfl rfl (fun w' hw' => lA (Chg.hp hw' (qT ch9 hG1) (off_blk (fun gz hgz => by have := hO1.lt gz hgz; omega))) kcs.1) sS1<|dW 2 40 (.slice A1 64 c1) sS1<|dW 3 41 (.slice B m d) sS1 ?_
 refine dOp2 4 6 (by kernel_rfl) ?_ ?_
 ·have ow9 := oA hO1 ch9
  have kk9 := kA HB ch9
  refine oEx (some 42) _ rfl rfl (by kernel_rfl) (ap8 m d ow9.own (Mur.byt_chg HB2.out kk9 (fun g off e hl => trivial)) HA2.out (64 + m) ((Mur.xorl 54 KK1) ++ b)) ?_
  rintro _ W11 ⟨AA3, nn3, rfl, ow10, ch10, ha3⟩
  have zz10 := ch10.size
  have hq7 := ow10.nc
  have hq8 := ow10.cm
  have sS2 := Chg.step sS1 ch10 (Mur.newOr_iff.2 (fun t ht => .inl ht))
  refine aN sS2 ?_
  refine dOp2 5 6 (by kernel_rfl) ?_ ?_
  ·refine oK 43 (Rsum_var hc kc Hh Hk ((Mur.xorl 54 KK1) ++ b) AA3 (64 + m) nn3 W11 ow10.byt (by omega) ow10.nil (by omega)) ?_
   rintro _ W12 ⟨dd1, hd1, hdl1, rfl, hB1⟩
   have ch11 := Chg.ofBelow hB1
   have zz11 := ch11.size
   have sS3 := kA sS2 ch11
   refine aN sS3<|dO 6<|oN 13 Z32 28 fun W13 hb6 ch12 sz7 => ?_
   have sS4 := kA sS3 ch12
   refine aN sS4<|dO 7<|oU rfl (sC dd1 hdl1 hb6) fun W14 hb7 ch13 zz13 => ?_
   have sS5 := kB sS4 ch13
   refine aN sS5<|dN<|wp_seq<|?_
   refine dReg (([W2.heap.size] ++ Wk.blk (.slice A2 64 c2))) (by kernel_rfl) ?_
   intro W15 ch14 sz8
   have zz14 := ch14.size
   have sS6 : Chg (([W2.heap.size] ++ Wk.blk (.slice A2 64 c2))) W15 W15 := (Chg.refl _).more (by simp)
   refine dV 0 44 _ rfl rfl (fun w' hw' => lA (Chg.hp hw' (qT ch14 (qO ch13 (qT ch12 (qT ch11 (Chg.hp ch10 (qT ch9 hG0) (off_blk (fun gz hgz => by have := hO1.lt gz hgz; omega))))))) ⟨by omega, (off_blk (fun gz hgz => by have := hO2.lt gz hgz; omega))⟩) hcs.1) sS6<|dV 1 45 _ rfl rfl (fun w' hw' => lA (Chg.hp hw' (qT ch14 (qO ch13 (qT ch12 (qT ch11 (Chg.hp ch10 (qT ch9 hG1) (off_blk (fun gz hgz => by have := hO1.lt gz hgz; omega))))))) ⟨by omega, (off_blk (fun gz hgz => by have := hO2.lt gz hgz; omega))⟩) kcs.1) sS6<|dW 2 46 (.slice A2 64 c2) sS6<|dV 3 47 (.slice (some ⟨W12.heap.size, 0, none⟩) 32 32) rfl rfl (fun w' hw' => Mur.arr_slice 28 5 (.tmp 13) 32 rfl Tryz.underlying28 (by kernel_rfl) W12.heap.size (by kernel_rfl)) sS6<|dO 4<|oEx (some 48) _ rfl rfl (by kernel_rfl) (ap8 32 32 (oA (oB (oA (oA (Mur.own8 (own_chg (oA hO2 ch9).own ch10 (fun q e _ _ => (off_blk (fun g hg h => hne g hg (h ▸ e)))))) ch11) ch12) ch13 hO2.lt) ch14).own (Mur.byt_blk dd1 hdl1 (qT ch14 hb7)) (fun h => by cases h) 96 ((Mur.xorl 92 KK1) ++ dd1)) ?_
   rintro _ W16 ⟨AA4, nn4, rfl, ow17, ch15, ha4⟩
   have zz15 := ch15.size
   have hq9 := ow17.nc
   have hq10 := ow17.cm
   have sS7 := Chg.step sS6 ch15 (Mur.newOr_iff.2 (fun t ht => .inl (List.mem_append_right _ ht)))
   refine aN sS7<|dO 5<|oK 49 (Rsum_var hc kc Hh Hk ((Mur.xorl 92 KK1) ++ dd1) AA4 96 nn4 W16 ow17.byt (by omega) ow17.nil (by omega)) ?_
   rintro _ W17 ⟨dd2, hd2, hdl2, rfl, hB2⟩
   have ch16 := Chg.ofBelow hB2
   have zz16 := ch16.size
   have sS8 := kA sS7 ch16
   refine aN sS8<|dO 6<|oU rfl (sC dd2 hdl2 (qT ch16 (Chg.hp ch15 (qT ch14 (qO ch13 (qT ch12 (qT ch11 (Chg.hp ch10 (qT ch9 hG2) (off_blk (fun gz hgz => by have := hO1.lt gz hgz; omega))))))) (off_blk (fun gz hgz => by have := hO2.lt gz hgz; omega))))) fun W18 hb8 ch17 zz17 => ?_
   have sS9 := kC sS8 ch17
   refine aN sS9<|dN<|wp_ret<|?_
   exact retC rfl hb8 (by rw [List.size_toArray, Mur.b8s_length, hdl2]; kernel_rfl) ⟨_, Go.Lib.hid (by unfold Mur.hmac; rw [hd2.out, hd1.out, hK1.out]), hdl2, rfl, (kB (kA (Chg.step (kA (kB (kA (kA (Chg.step kk9 ch10 (newOr_blk (fun g hg => by have := hO1.lt g hg; omega))) ch11) ch12) ch13) ch14) ch15 (newOr_blk (fun g hg => by have := hO2.lt g hg; omega))) ch16) ch17)⟩
  refine oN 13 Z32 28 fun W19 hb9 ch18 sz9 => ?_
  have sS10 := kA sS2 ch18
  refine aN sS10<|dO 5 ?_
  have ow18 := oA ow10 ch18
  refine oK 43 (Rsum_var hc kc Hh Hk ((Mur.xorl 54 KK1) ++ b) AA3 (64 + m) nn3 W19 ow18.byt (by omega) ow18.nil (by omega)) ?_
  rintro _ W20 ⟨dd3, hd3, hdl3, rfl, hB3⟩
  have ch19 := Chg.ofBelow hB3
  have zz19 := ch19.size
  have sS11 := kA sS10 ch19
  refine aN sS11<|dO 7<|oU rfl (sC dd3 hdl3 (qT ch19 hb9)) fun W21 hb10 ch20 zz20 => ?_
  have sS12 := kB sS11 ch20
  refine aN sS12<|dN<|wp_seq<|?_
  refine dReg (([W2.heap.size] ++ Wk.blk (.slice A2 64 c2))) (by kernel_rfl) ?_
  intro W22 ch21 sz10
  have zz21 := ch21.size
  have sS13 : Chg (([W2.heap.size] ++ Wk.blk (.slice A2 64 c2))) W22 W22 := (Chg.refl _).more (by simp)
  refine dV 0 44 _ rfl rfl (fun w' hw' => lA (Chg.hp hw' (qT ch21 (qO ch20 (qT ch19 (qT ch18 (Chg.hp ch10 (qT ch9 hG0) (off_blk (fun gz hgz => by have := hO1.lt gz hgz; omega))))))) ⟨by omega, (off_blk (fun gz hgz => by have := hO2.lt gz hgz; omega))⟩) hcs.1) sS13<|dV 1 45 _ rfl rfl (fun w' hw' => lA (Chg.hp hw' (qT ch21 (qO ch20 (qT ch19 (qT ch18 (Chg.hp ch10 (qT ch9 hG1) (off_blk (fun gz hgz => by have := hO1.lt gz hgz; omega))))))) ⟨by omega, (off_blk (fun gz hgz => by have := hO2.lt gz hgz; omega))⟩) kcs.1) sS13<|dW 2 46 (.slice A2 64 c2) sS13<|dV 3 47 (.slice (some ⟨W11.heap.size, 0, none⟩) 32 32) rfl rfl (fun w' hw' => Mur.arr_slice 28 5 (.tmp 13) 32 rfl Tryz.underlying28 (by kernel_rfl) W11.heap.size (by kernel_rfl)) sS13<|dO 4<|oEx (some 48) _ rfl rfl (by kernel_rfl) (ap8 32 32 (oA (oB (oA (oA (Mur.own8 (own_chg (oA hO2 ch9).own ch10 (fun q e _ _ => (off_blk (fun g hg h => hne g hg (h ▸ e)))))) ch18) ch19) ch20 hO2.lt) ch21).own (Mur.byt_blk dd3 hdl3 (qT ch21 hb10)) (fun h => by cases h) 96 ((Mur.xorl 92 KK1) ++ dd3)) ?_
  rintro _ W23 ⟨AA5, nn5, rfl, ow25, ch22, ha5⟩
  have zz22 := ch22.size
  have hq11 := ow25.nc
  have hq12 := ow25.cm
  have sS14 := Chg.step sS13 ch22 (Mur.newOr_iff.2 (fun t ht => .inl (List.mem_append_right _ ht)))
  refine aN sS14<|dO 5<|oK 49 (Rsum_var hc kc Hh Hk ((Mur.xorl 92 KK1) ++ dd3) AA5 96 nn5 W23 ow25.byt (by omega) ow25.nil (by omega)) ?_
  rintro _ W24 ⟨dd4, hd4, hdl4, rfl, hB4⟩
  have ch23 := Chg.ofBelow hB4
  have zz23 := ch23.size
  have sS15 := kA sS14 ch23
  refine aN sS15<|dO 6<|oU rfl (sC dd4 hdl4 (qT ch23 (Chg.hp ch22 (qT ch21 (qO ch20 (qT ch19 (qT ch18 (Chg.hp ch10 (qT ch9 hG2) (off_blk (fun gz hgz => by have := hO1.lt gz hgz; omega))))))) (off_blk (fun gz hgz => by have := hO2.lt gz hgz; omega))))) fun W25 hb11 ch24 zz24 => ?_
  have sS16 := kC sS15 ch24
  refine aN sS16<|dN<|wp_ret<|?_
  exact retC rfl hb11 (by rw [List.size_toArray, Mur.b8s_length, hdl4]; kernel_rfl) ⟨_, Go.Lib.hid (by unfold Mur.hmac; rw [hd4.out, hd3.out, hK1.out]), hdl4, rfl, (kB (kA (Chg.step (kA (kB (kA (kA (Chg.step kk9 ch10 (newOr_blk (fun g hg => by have := hO1.lt g hg; omega))) ch18) ch19) ch20) ch21) ch22 (newOr_blk (fun g hg => by have := hO2.lt g hg; omega))) ch23) ch24)⟩
 refine oN 13 Z32 28 fun W26 hb12 ch25 sz11 => ?_
 have sS17 := kA sS1 ch25
 refine aN sS17<|dO 4 ?_
 have kk27 := kA (kA HB ch9) ch25
 refine oEx (some 42) _ rfl rfl (by kernel_rfl) (ap8 m d (oA (oA hO1 ch9) ch25).own (Mur.byt_chg HB2.out kk27 (fun g off e hl => trivial)) HA2.out (64 + m) ((Mur.xorl 54 KK1) ++ b)) ?_
 rintro _ W27 ⟨AA6, nn6, rfl, ow28, ch26, ha6⟩
 have zz26 := ch26.size
 have hq13 := ow28.nc
 have hq14 := ow28.cm
 have sS18 := Chg.step sS17 ch26 (Mur.newOr_iff.2 (fun t ht => .inl ht))
 refine aN sS18<|dO 5<|oK 43 (Rsum_var hc kc Hh Hk ((Mur.xorl 54 KK1) ++ b) AA6 (64 + m) nn6 W27 ow28.byt (by omega) ow28.nil (by omega)) ?_
 rintro _ W28 ⟨dd5, hd5, hdl5, rfl, hB5⟩
 have ch27 := Chg.ofBelow hB5
 have zz27 := ch27.size
 have sS19 := kA sS18 ch27
 refine aN sS19<|dO 7<|oU rfl (sC dd5 hdl5 (qT ch27 (Chg.hp ch26 hb12 (off_blk (fun gz hgz => by have := hO1.lt gz hgz; omega))))) fun W29 hb13 ch28 zz28 => ?_
 have sS20 := kB sS19 ch28
 refine aN sS20<|dN<|wp_seq<|?_
 refine dReg (([W2.heap.size] ++ Wk.blk (.slice A2 64 c2))) (by kernel_rfl) ?_
 intro W30 ch29 sz12
 have zz29 := ch29.size
 have sS21 : Chg (([W2.heap.size] ++ Wk.blk (.slice A2 64 c2))) W30 W30 := (Chg.refl _).more (by simp)
 refine dV 0 44 _ rfl rfl (fun w' hw' => lA (Chg.hp hw' (qT ch29 (qO ch28 (qT ch27 (Chg.hp ch26 (qT ch25 (qT ch9 hG0)) (off_blk (fun gz hgz => by have := hO1.lt gz hgz; omega)))))) ⟨by omega, (off_blk (fun gz hgz => by have := hO2.lt gz hgz; omega))⟩) hcs.1) sS21<|dV 1 45 _ rfl rfl (fun w' hw' => lA (Chg.hp hw' (qT ch29 (qO ch28 (qT ch27 (Chg.hp ch26 (qT ch25 (qT ch9 hG1)) (off_blk (fun gz hgz => by have := hO1.lt gz hgz; omega)))))) ⟨by omega, (off_blk (fun gz hgz => by have := hO2.lt gz hgz; omega))⟩) kcs.1) sS21<|dW 2 46 (.slice A2 64 c2) sS21<|dV 3 47 (.slice (some ⟨W10.heap.size, 0, none⟩) 32 32) rfl rfl (fun w' hw' => Mur.arr_slice 28 5 (.tmp 13) 32 rfl Tryz.underlying28 (by kernel_rfl) W10.heap.size (by kernel_rfl)) sS21<|dO 4<|oEx (some 48) _ rfl rfl (by kernel_rfl) (ap8 32 32 (oA (oB (oA (Mur.own8 (own_chg (oA (oA hO2 ch9) ch25).own ch26 (fun q e _ _ => (off_blk (fun g hg h => hne g hg (h ▸ e)))))) ch27) ch28 hO2.lt) ch29).own (Mur.byt_blk dd5 hdl5 (qT ch29 hb13)) (fun h => by cases h) 96 ((Mur.xorl 92 KK1) ++ dd5)) ?_
 rintro _ W31 ⟨AA7, nn7, rfl, ow35, ch30, ha7⟩
 have zz30 := ch30.size
 have hq15 := ow35.nc
 have hq16 := ow35.cm
 have sS22 := Chg.step sS21 ch30 (Mur.newOr_iff.2 (fun t ht => .inl (List.mem_append_right _ ht)))
 refine aN sS22<|dO 5<|oK 49 (Rsum_var hc kc Hh Hk ((Mur.xorl 92 KK1) ++ dd5) AA7 96 nn7 W31 ow35.byt (by omega) ow35.nil (by omega)) ?_
 rintro _ W32 ⟨dd6, hd6, hdl6, rfl, hB6⟩
 have ch31 := Chg.ofBelow hB6
 have zz31 := ch31.size
 have sS23 := kA sS22 ch31
 refine aN sS23<|dO 6<|oU rfl (sC dd6 hdl6 (qT ch31 (Chg.hp ch30 (qT ch29 (qO ch28 (qT ch27 (Chg.hp ch26 (qT ch25 (qT ch9 hG2)) (off_blk (fun gz hgz => by have := hO1.lt gz hgz; omega)))))) (off_blk (fun gz hgz => by have := hO2.lt gz hgz; omega))))) fun W33 hb14 ch32 zz32 => ?_
 have sS24 := kC sS23 ch32
 refine aN sS24<|dN<|wp_ret<|?_
 exact retC rfl hb14 (by rw [List.size_toArray, Mur.b8s_length, hdl6]; kernel_rfl) ⟨_, Go.Lib.hid (by unfold Mur.hmac; rw [hd6.out, hd5.out, hK1.out]), hdl6, rfl, (kB (kA (Chg.step (kA (kB (kA (Chg.step kk27 ch26 (newOr_blk (fun g hg => by have := hO1.lt g hg; omega))) ch27) ch28) ch29) ch30 (newOr_blk (fun g hg => by have := hO2.lt g hg; omega))) ch31) ch32)⟩
theorem Rtag_any (s : List UInt8) (A : Option Addr) (n c : Nat) (b : List UInt8) (B : Option Addr) (m d : Nat) (w : World) (hb : Byt w A n s) (hnc : n ≤ c) (ha : A = none → c = 0) (hn : n ≤ 140737488351232) (hb2 : Byt w B m b) (ha2 : B = none → d = 0) (hn2 : m ≤ 140737488351000) : Calls Tryz.prog 35 #[.slice A n c, .slice B m d] w fun e w' => ∃ d, Hid (d = Mur.hmac s b) ∧ d.length = 32 ∧ e = .returned (.agg (b8s d).toArray) ∧ Chg [] w w' := by
 have HBY := Go.Lib.hid hb
 clear hb
 have HA := Go.Lib.hid ha
 clear ha
 have HB2 := Go.Lib.hid hb2
 clear hb2
 have HA2 := Go.Lib.hid ha2
 clear ha2
 refine calls_of_wp Tryz.func35 rfl ?_
 refine sR<|nW 0 4 Z32 28 fun W1 hb1 ch1 sz1 => eN<|sR<|rK 0 8 (words_var W1) ?_
 rintro _ W2 ⟨hc, kc, Hh, Hk, rfl, hB1⟩
 have ch2 := Chg.ofBelow hB1
 have zz2 := ch2.size
 have hcs := hc_size Hh.out
 have kcs := kc_size Hk.out
 refine rP 1 7 (.tuple #[.agg hc, .agg kc])<|rP 2 9 (.agg hc)<|rP 3 10 (.agg kc)<|nW 4 5 #[.int .u32 0, .int .u32 0, .int .u32 0, .int .u32 0, .int .u32 0, .int .u32 0, .int .u32 0, .int .u32 0] 101 fun W3 hb2 ch3 sz2 => nW 5 6 #[.int .u32 0, .int .u32 0, .int .u32 0, .int .u32 0, .int .u32 0, .int .u32 0, .int .u32 0, .int .u32 0, .int .u32 0, .int .u32 0, .int .u32 0, .int .u32 0, .int .u32 0, .int .u32 0, .int .u32 0, .int .u32 0, .int .u32 0, .int .u32 0, .int .u32 0, .int .u32 0, .int .u32 0, .int .u32 0, .int .u32 0, .int .u32 0, .int .u32 0, .int .u32 0, .int .u32 0, .int .u32 0, .int .u32 0, .int .u32 0, .int .u32 0, .int .u32 0, .int .u32 0, .int .u32 0, .int .u32 0, .int .u32 0, .int .u32 0, .int .u32 0, .int .u32 0, .int .u32 0, .int .u32 0, .int .u32 0, .int .u32 0, .int .u32 0, .int .u32 0, .int .u32 0, .int .u32 0, .int .u32 0, .int .u32 0, .int .u32 0, .int .u32 0, .int .u32 0, .int .u32 0, .int .u32 0, .int .u32 0, .int .u32 0, .int .u32 0, .int .u32 0, .int .u32 0, .int .u32 0, .int .u32 0, .int .u32 0, .int .u32 0, .int .u32 0] 102 fun W4 hb3 ch4 sz3 => rU 6 rfl (sB hc hcs.1 hcs.2 (qT ch4 hb2) (by kernel_rfl)) fun W5 hb4 ch5 zz5 => rU 7 rfl (sB kc kcs.1 kcs.2 (qO ch5 hb3) (by kernel_rfl)) fun W6 hb5 ch6 zz6 => eN<|sR<|rq 0 11 _ rfl (lA (qO ch6 hb4) hcs.1)<|rq 1 12 _ rfl (lA hb5 kcs.1)<|rP 2 13 (.slice A n c)<|rP 3 14 (.slice B m d) ?_
 have kk6 := kB (kB (kA (kA (kA (zA ch1 : Chg [] w W1) ch2) ch3) ch4) ch5) ch6
 refine rK 4 15 (TagBy_any hc kc Hh Hk s A n c b B m d W6 (Mur.byt_chg HBY.out kk6 (fun g off e hl => trivial)) (by omega) HA.out (by omega) (Mur.byt_chg HB2.out kk6 (fun g off e hl => trivial)) HA2.out (by omega)) ?_
 rintro _ W7 ⟨dd1, hd1, hdl1, rfl, ch7⟩
 have zz7 := ch7.size
 refine rU 5 rfl (sC dd1 hdl1 (qT ch7 (qO ch6 (qO ch5 (qT ch4 (qT ch3 (qT ch2 hb1))))))) fun W8 hb6 ch8 zz8 => eN<|wp_ret<|?_
 exact retC rfl hb6 (by rw [List.size_toArray, Mur.b8s_length, hdl1]; kernel_rfl) ⟨_, hd1, hdl1, rfl, (kB (kA kk6 ch7) ch8)⟩
end Go.Proofs.YtgbadghjnpbiaaaGreatDoor
namespace Mur
open Go Go.RowKit Wk
section
variable {P : Program}
end
theorem ok_nil {w : World} : ∀ s ∈ ([] : List Seg), SegOk w s := fun s hs => by cases hs
theorem ok_cons {w : World} {s : Seg} {L : List Seg} (h : SegOk w s) (k : ∀ s ∈ L, SegOk w s) : ∀ x ∈ s :: L, SegOk w x := fun x hx => by
 rcases List.mem_cons.1 hx with rfl | hx
 ·exact h
 ·exact k x hx
theorem segs_lit {w : World} {g : Nat} {t : TypeId} {fr : Nat × Nat} (L : List Seg) (n : Nat) (h : w.heap[g]? = some (.cells (L.map Seg.v).toArray t fr)) (hok : ∀ s ∈ L, SegOk w s) (hn : L.length = n) : Segs w (some ⟨g, 0, none⟩) n L :=
 ⟨hn, hok, fun _ => ⟨g, 0, rfl, fun i s hi => by
  rw [cell_of_row _ _ _ _ _ _ h, Nat.zero_add]
  simp [hi]⟩⟩
theorem hmacN (s b : List UInt8) : shaN (ns (xorl 92 (hkey s)) ++ shaN (ns (xorl 54 (hkey s) ++ b))) = ns (hmac s b) := by
 have e : ∀ x y : List UInt8, ns x ++ ns y = ns (x ++ y) := fun x y => by simp [ns]
 rw [shaN_eq, e, shaN_eq]
 rfl
end Mur
namespace Mur
open Go Go.RowKit Wk
def wantM (b : Int) : Frm := { headM 5 1 b with chunk := 3 }
def clmM : Frm := { headM 3 1 2 with cNode := 1 }
theorem formN_small {n : Nat} (h : 0 < n) (h2 : n < 256) : formN n = [1, UInt8.ofNat n] := by
 have h3 : n / 256 = 0 := by omega
 unfold formN
 rw [digs_pos (by omega), h3, digs_zero]
 rw [Nat.mod_eq_of_lt h2]
 rfl
theorem formN_zero : formN 0 = [0] := by
 unfold formN
 rw [digs_zero]
 rfl
theorem want_bare (b : Int) : bareM (wantM b) = wantM b := (bareM_5 rfl).trans rfl
theorem clm_bare : bareM clmM = clmM := (bareM_3 rfl).trans rfl
theorem want_may : mayFM (wantM 2) := ⟨⟨by decide, by decide⟩, ⟨by decide, by decide⟩, by decide, (want_bare 2).symm, .inr (.inr (.inr (.inr (.inl ⟨rfl, by decide, by decide⟩))))⟩
theorem want_no : ¬ mayFM (wantM 1) := fun h => h.2.2.1 rfl
theorem clm_may : mayFM clmM := ⟨⟨by decide, by decide⟩, ⟨by decide, by decide⟩, by decide, clm_bare.symm, .inr (.inr (.inl ⟨rfl, rfl, by decide, by decide⟩))⟩
theorem i1 : -9223372036854775808 ≤ (1 : Int) ∧ (1 : Int) ≤ 9223372036854775807 := by decide
theorem i2 : -9223372036854775808 ≤ (2 : Int) ∧ (2 : Int) ≤ 9223372036854775807 := by decide
theorem i3 : -9223372036854775808 ≤ (3 : Int) ∧ (3 : Int) ≤ 9223372036854775807 := by decide
theorem want_in (b : Int) (h : -9223372036854775808 ≤ b ∧ b ≤ 9223372036854775807) : FrmIn (wantM b) := ⟨⟨zN, zN, zN, fun _ q => (by cases q), rfl, rfl, rfl, fun _ q => (by cases q)⟩, i1, h, zI, zI, fun _ q => (by cases q), zI, zI, i3⟩
theorem clm_in : FrmIn clmM := ⟨⟨zN, zN, zN, fun _ q => (by cases q), rfl, rfl, rfl, fun _ q => (by cases q)⟩, i1, i2, zI, zI, fun _ q => (by cases q), zI, i1, zI⟩
theorem want_body : bodyFM (wantM 2) = [1, 5, 1, 1, 1, 2] ++ List.replicate 32 0 ++ [1, 3] := by
 show formN 5 ++ (formN 1 ++ (formN 2 ++ (z32 ++ formN 3))) = _
 rw [formN_small (n := 5) (by decide) (by decide), formN_small (n := 1) (by decide) (by decide), formN_small (n := 2) (by decide) (by decide), formN_small (n := 3) (by decide) (by decide)]
 rfl
def clmB : List UInt8 := [1, 3, 1, 1, 1, 2, 0, 0, 0, 0, 0, 0, 0, 0, 0, 0, 0, 0, 0, 0, 0, 0, 0, 0, 0, 0, 0, 0, 0, 0, 0, 0, 0, 0, 0, 0, 0, 0, 0, 0, 0]
theorem clm_body : bodyFM clmM = clmB := by
 show formN 3 ++ (formN 1 ++ (formN 2 ++ (z32 ++ (formN 0 ++ (formN 0 ++ formN 0))))) = _
 rw [formN_small (n := 3) (by decide) (by decide), formN_small (n := 1) (by decide) (by decide), formN_small (n := 2) (by decide) (by decide), formN_zero]
 rfl
def tagS : List UInt8 := [189, 52, 53, 90, 137, 218, 225, 70, 9, 239, 187, 126, 171, 246, 169, 89, 76, 177, 84, 209, 155, 142, 163, 26, 200, 226, 103, 51, 232, 43, 34, 51]
def tagT : List UInt8 := [8, 252, 65, 131, 248, 241, 12, 201, 111, 180, 246, 176, 194, 138, 129, 98, 61, 6, 118, 154, 67, 162, 59, 165, 69, 241, 225, 192, 162, 127, 157, 97]
theorem hkey_1 (x : UInt8) : hkey [x] = [x] ++ List.replicate 63 0 := by
 have h1 : hkey0 [x] = [x] := if_neg (show ¬ 64 < 1 by decide)
 unfold hkey
 rw [h1]
 rfl
theorem hmac_S : hmac [115] (18 :: clmB) = tagS := by
 apply ns_inj
 rw [← hmacN, hkey_1]
 decide +kernel
theorem hmac_T : hmac [116] (18 :: clmB) = tagT := by
 apply ns_inj
 rw [← hmacN, hkey_1]
 decide +kernel
theorem want_bytes (T : List UInt8 → List UInt8) : bytesFM T (wantM 2) = [1, 5, 1, 1, 1, 2] ++ List.replicate 32 0 ++ [1, 3] := by
 unfold bytesFM
 rw [want_body, if_neg (show ¬ (wantM 2).kind.toNat ≤ 4 by decide), List.append_nil]
theorem want_read (T T' : List UInt8 → List UInt8) (hT : ∀ x, (T x).length = 32) : readAll T' (bytesFM T (wantM 2)) = .ok (wantM 2) := by
 rw [read_bytes T' want_may (want_in 2 (by decide)).ok hT (by rw [want_bytes]; decide), if_neg]
 rintro ⟨h, _⟩
 exact absurd h (show ¬ (wantM 2).kind.toNat ≤ 4 by decide)
theorem clm_len (T : List UInt8 → List UInt8) (hT : ∀ x, (T x).length = 32) : (bytesFM T clmM).length = 73 := by
 unfold bytesFM
 rw [clm_body, if_pos (show clmM.kind.toNat ≤ 4 by decide), List.length_append, hT]
 rfl
theorem clm_read (T T' : List UInt8 → List UInt8) (hT : ∀ x, T x = hmac [115] (18 :: x)) (hT' : ∀ x, T' x = hmac [116] (18 :: x)) (hTl : ∀ x, (T x).length = 32) : readAll T' (bytesFM T clmM) = .tag := by
 rw [read_bytes T' clm_may clm_in.ok hTl (by rw [clm_len T hTl]; decide), if_pos]
 refine ⟨show clmM.kind.toNat ≤ 4 by decide, ?_⟩
 rw [clm_body, hT, hT', hmac_S, hmac_T]
 decide
theorem stradd {P : Program} {w : World} {a : Act} {o : Oper} (t ty : TypeId) (x y : Operand) (ho : o.op = .binOp .add t x y ty) (l r : List UInt8) (hx : a.eval x = .string (str l)) (hy : a.eval y = .string (str r)) (h1 : l.length ≤ 8388608) (h2 : r.length ≤ 8388608) : (execOp a.eval o).run P w = .ok (.value (.string (str (l ++ r)))) w := by
 have e : str l ++ str r = str (l ++ r) := by
  apply ByteArray.ext
  simp [str]
 have h := run_string_add (P := P) (w := w) (str l) (str r) (by show ((l.toArray.size : Nat) : Int) ≤ _; rw [List.size_toArray]; omega) (by show ((r.toArray.size : Nat) : Int) ≤ _; rw [List.size_toArray]; omega)
 rw [e] at h
 unfold execOp
 simp only [ho, hx, hy]
 simp [eqGuard, binOp_string_add, h]
end Mur
namespace Go.Proofs.YtgbadghjnpbiaaaGreatDoor
open Go.RowKit Wk
open Mur (b8s z32 sl0 frmL claimC)
theorem built_want (b : Int) : Program.built Tryz.prog 38 [(0, .int .u8 5), (1, .int .i64 1), (2, .int .i64 b), (8, .int .i64 3)] = some (frmL 5 1 b 0 0 0 0 sl0 0 sl0 z32 0 sl0 false z32 0 0 0 false z32 z32 0 z32 z32 3 sl0 sl0).flatten.toArray := by kernel_rfl
theorem built_claim1 : Program.built Tryz.prog 33 [(1, .int .i64 1)] = some (claimC z32 1 0 0 false).toArray := by kernel_rfl
theorem built_frmc : Program.built Tryz.prog 38 [(0, .int .u8 3), (1, .int .i64 1), (2, .int .i64 2), (5, .agg (claimC z32 1 0 0 false).toArray)] = some (frmL 3 1 2 0 0 0 0 sl0 0 sl0 z32 0 sl0 false z32 1 0 0 false z32 z32 0 z32 z32 0 sl0 sl0).flatten.toArray := by kernel_rfl
end Go.Proofs.YtgbadghjnpbiaaaGreatDoor
