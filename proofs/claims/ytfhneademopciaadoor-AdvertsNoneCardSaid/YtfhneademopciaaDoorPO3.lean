/- A disk as the document has it, and how one lies. No program in sight. Strings in explicit steps. No program in sight. Rows of bytes stored, copied, cut, xored; slices of one's own that bytes are appended to; slices of slices. No program in sight. The tag as the document has it; rows of bytes stored, copied, cut, xored. Arguments that come in: bytes, slices of slices of bytes, rows of bytes. No program in sight. append of noughts to a slice of one's own. No program in sight. The disk's laws' ops, as they lie. No program in sight. Two disks; remainders of unsigned numbers. No program in sight. Two digests, byte by byte. No program in sight. The reference's prime, digits, above, walked. The reference's above, times, walked. -/
import Derived.Lib.SlBytesConst
import Derived.Laws.Strings
import Derived.Laws.CopyRow
import Derived.Lib.AppendZerosOnto
import Derived.Laws.Entries
import Derived.Test.YtfhneademopciaaDoorProg
import Derived.WalkKit
import Derived.WalkLawsBesides
import Derived.WalkSpells
import Derived.Deep.QuietTactic
import Derived.BigQuiet
import Derived.Laws.CopyOwn
import Derived.Test.YtfhneademopciaaDoorPO1
import Derived.Test.YtfhneademopciaaDoorPO2
namespace Mur
open Go Go.RowKit Wk
structure Fil where
  b : List UInt8
  n : Nat
structure Dk where
  x : Fil
  y : Fil
def Fil.ok (z : Fil) : Prop := z.n ≤ z.b.length ∧ z.b.length ≤ 1048576
def Dk.fil (d : Dk) (f : Int) : Fil := if f = 0 then d.x else d.y
def Dk.put (d : Dk) (f : Int) (z : Fil) : Dk := if f = 0 then ⟨z, d.y⟩ else if f = 1 then ⟨d.x, z⟩ else d
def hasF (f : Int) : Prop := f = 0 ∨ f = 1
instance (f : Int) : Decidable (hasF f) := by unfold hasF; infer_instance
def Dk.appE (d : Dk) (f : Int) (n : Nat) : Int := if hasF f then (if (n : Int) > 1048576 - ((d.fil f).b.length : Int) then 8 else 0) else 2
def Dk.app (d : Dk) (f : Int) (b : List UInt8) : Dk := if (b.length : Int) > 1048576 - ((d.fil f).b.length : Int) then d else d.put f ⟨(d.fil f).b ++ b, (d.fil f).n⟩
def fE (f : Int) : Int := if hasF f then 0 else 2
def Dk.sync (d : Dk) (f : Int) : Dk := d.put f ⟨(d.fil f).b, (d.fil f).b.length⟩
def Dk.clear (d : Dk) (f : Int) : Dk := d.put f ⟨[], 0⟩
def Dk.bytes (d : Dk) (f : Int) : List UInt8 := if hasF f then (d.fil f).b else []
def Dk.synced (d : Dk) (f : Int) : Nat := if hasF f then (d.fil f).n else 0
/-- How many bytes a crash leaves. -/
def Fil.left (z : Fil) (k : Int) : Nat := z.n + min k.toNat (z.b.length - z.n)
def Fil.crash (z : Fil) (k : Int) : Fil := ⟨z.b.take (z.left k), z.left k⟩
def Dk.crash (d : Dk) (k0 k1 : Int) : Dk := ⟨d.x.crash k0, d.y.crash k1⟩
def Dk.new : Dk := ⟨⟨[], 0⟩, ⟨[], 0⟩⟩
theorem left_le {b : List UInt8} {n : Nat} (k : Int) (h : n ≤ b.length) : n ≤ (⟨b, n⟩ : Fil).left k ∧ (⟨b, n⟩ : Fil).left k ≤ b.length := by
  simp only [Fil.left]
  omega
theorem left_eq {b : List UInt8} {n : Nat} (k : Int) (h : n ≤ b.length) :
    ((n : Nat) : Int) + (if (((b.length : Nat) : Int) - ((n : Nat) : Int)) < (if (0 : Int) > k then (0 : Int) else k) then (((b.length : Nat) : Int) - ((n : Nat) : Int)) else (if (0 : Int) > k then (0 : Int) else k)) = (((⟨b, n⟩ : Fil).left k : Nat) : Int) := by
  simp only [Fil.left]
  split <;> split at * <;> omega
theorem put_out (d : Dk) (f : Int) (z : Fil) (hf : ¬ hasF f) : d.put f z = d := by
  unfold Dk.put
  rw [if_neg (fun h => hf (.inl h)), if_neg (fun h => hf (.inr h))]
theorem app_out (d : Dk) (f : Int) (l : List UInt8) (hf : ¬ hasF f) : d.app f l = d := by
  unfold Dk.app
  split
  · rfl
  · exact put_out d f _ hf
theorem app_full (d : Dk) (f : Int) (l : List UInt8) (n : Nat) (hn : l.length = n) (hf : hasF f) (h : (n : Int) > 1048576 - ((d.fil f).b.length : Int)) : d.appE f n = 8 ∧ d.app f l = d := by
  unfold Dk.appE Dk.app
  rw [if_pos hf, if_pos h, hn, if_pos h]
  exact ⟨rfl, rfl⟩
theorem app_fits (d : Dk) (f : Int) (l : List UInt8) (n : Nat) (hn : l.length = n) (hf : hasF f) (h : ¬ (n : Int) > 1048576 - ((d.fil f).b.length : Int)) : d.appE f n = 0 ∧ d.app f l = d.put f ⟨(d.fil f).b ++ l, (d.fil f).n⟩ := by
  unfold Dk.appE Dk.app
  rw [if_pos hf, if_neg h, hn, if_neg h]
  exact ⟨rfl, rfl⟩
theorem own_new {a b : Option Nat} {m B : Nat} (h : a = b ∨ a = some m) (hB : B ≤ m) : a = b ∨ ∀ k, a = some k → B ≤ k := h.imp id fun h k hk => by
  rw [h] at hk
  injection hk with hk
  omega
structure Dsk (e T : TypeId) (w : World) (g : Nat) (d : Dk) (vx vy : Value) : Prop where
  hp : w.heap[g]? = some (.cells #[vx, .int .i64 (d.x.n : Int), vy, .int .i64 (d.y.n : Int)] T (0, 0))
  ox : w.ownsRow (g + 1) e 1 vx d.x.b.length (b8s d.x.b)
  oy : w.ownsRow (g + 1) e 1 vy d.y.b.length (b8s d.y.b)
  ne : ∀ k, vx.ownBlock = some k → vy.ownBlock ≠ some k
  kx : d.x.ok
  ky : d.y.ok
def foot (g : Nat) (vx vy : Value) : List Nat := g :: (blk vx ++ blk vy)
theorem mem_blk_iff {v : Value} {k : Nat} : k ∈ blk v ↔ v.ownBlock = some k := by
  unfold blk
  split
  · rename_i h; rw [h]; simp [eq_comm]
  · rename_i h; rw [h]; simp
theorem newOr_iff {B : Nat} {S : List Nat} : ∀ {T : List Nat}, NewOr B S T ↔ ∀ t ∈ T, t ∈ S ∨ B ≤ t
  | [] => by simp [NewOr]
  | t :: T => by simp [NewOr, newOr_iff (T := T)]
theorem off_iff {k : Nat} : ∀ {T : List Nat}, Off k T ↔ ∀ t ∈ T, k ≠ t
  | [] => by simp [Off]
  | t :: T => by simp [Off, off_iff (T := T)]
section
variable {e T : TypeId} {w w' : World} {g : Nat} {d : Dk} {vx vy v' : Value}
theorem Dsk.bx (h : Dsk e T w g d vx vy) {k : Nat} (hk : vx.ownBlock = some k) : g < k ∧ k < w.heap.size := by
  refine ⟨?_, (World.ownsRow.lt h.ox k hk).2⟩
  rcases h.ox.2 with ⟨rfl, _⟩ | ⟨g', cap, cur, rfl, hb, _⟩
  · cases hk
  · obtain rfl : g' = k := by simpa [Value.ownBlock] using hk
    omega
theorem Dsk.by_ (h : Dsk e T w g d vx vy) {k : Nat} (hk : vy.ownBlock = some k) : g < k ∧ k < w.heap.size := by
  refine ⟨?_, (World.ownsRow.lt h.oy k hk).2⟩
  rcases h.oy.2 with ⟨rfl, _⟩ | ⟨g', cap, cur, rfl, hb, _⟩
  · cases hk
  · obtain rfl : g' = k := by simpa [Value.ownBlock] using hk
    omega
theorem Dsk.lt (h : Dsk e T w g d vx vy) : g < w.heap.size := (Array.getElem?_eq_some_iff.1 h.hp).1
theorem Dsk.mem (h : Dsk e T w g d vx vy) : ∀ s ∈ foot g vx vy, g ≤ s ∧ s < w.heap.size := by
  intro s hs
  have := h.lt
  rcases List.mem_cons.1 hs with rfl | hs
  · exact ⟨Nat.le_refl _, h.lt⟩
  · rcases List.mem_append.1 hs with hs | hs
    · have := h.bx (mem_blk_iff.1 hs); omega
    · have := h.by_ (mem_blk_iff.1 hs); omega
theorem Dsk.setx (h : Dsk e T w g d vx vy) (z : Fil) (c : Chg (g :: blk vx) w w') (hp : w'.heap[g]? = some (.cells #[v', .int .i64 (z.n : Int), vy, .int .i64 (d.y.n : Int)] T (0, 0)))
    (ho : w'.ownsRow (g + 1) e 1 v' z.b.length (b8s z.b)) (hn : v'.ownBlock = vx.ownBlock ∨ ∀ k, v'.ownBlock = some k → w.heap.size ≤ k) (hk : z.ok) :
    Dsk e T w' g ⟨z, d.y⟩ v' vy ∧ Chg (foot g vx vy) w w' ∧ NewOr w.heap.size (foot g vx vy) (foot g v' vy) := by
  refine ⟨⟨hp, ho, own_chg h.oy c fun k hk _ _ => ?_, fun k hk hy => ?_, hk, h.ky⟩, c.more ?_, ?_⟩
  · have h1 := h.by_ hk
    refine off_iff.2 fun t ht => ?_
    rcases List.mem_cons.1 ht with rfl | ht
    · omega
    · rintro rfl
      exact h.ne k (mem_blk_iff.1 ht) hk
  · have h1 := h.by_ hy
    rcases hn with hn | hn
    · exact h.ne k (hn ▸ hk) hy
    · have := hn k hk; omega
  · intro s hs
    rcases List.mem_cons.1 hs with rfl | hs
    · simp [foot]
    · simp [foot, hs]
  · refine newOr_iff.2 fun t ht => ?_
    rcases List.mem_cons.1 ht with rfl | ht
    · simp [foot]
    · rcases List.mem_append.1 ht with ht | ht
      · rcases hn with hn | hn
        · exact .inl (by simp only [foot, List.mem_cons, List.mem_append]; exact .inr (.inl (mem_blk_iff.2 (hn ▸ mem_blk_iff.1 ht))))
        · exact .inr (hn t (mem_blk_iff.1 ht))
      · simp [foot, ht]
theorem Dsk.sety (h : Dsk e T w g d vx vy) (z : Fil) (c : Chg (g :: blk vy) w w') (hp : w'.heap[g]? = some (.cells #[vx, .int .i64 (d.x.n : Int), v', .int .i64 (z.n : Int)] T (0, 0)))
    (ho : w'.ownsRow (g + 1) e 1 v' z.b.length (b8s z.b)) (hn : v'.ownBlock = vy.ownBlock ∨ ∀ k, v'.ownBlock = some k → w.heap.size ≤ k) (hk : z.ok) :
    Dsk e T w' g ⟨d.x, z⟩ vx v' ∧ Chg (foot g vx vy) w w' ∧ NewOr w.heap.size (foot g vx vy) (foot g vx v') := by
  refine ⟨⟨hp, own_chg h.ox c fun k hk _ _ => ?_, ho, fun k hx hk => ?_, h.kx, hk⟩, c.more ?_, ?_⟩
  · have h1 := h.bx hk
    refine off_iff.2 fun t ht => ?_
    rcases List.mem_cons.1 ht with rfl | ht
    · omega
    · rintro rfl
      exact h.ne k hk (mem_blk_iff.1 ht)
  · have h1 := h.bx hx
    rcases hn with hn | hn
    · exact h.ne k hx (hn ▸ hk)
    · have := hn k hk; omega
  · intro s hs
    rcases List.mem_cons.1 hs with rfl | hs
    · simp [foot]
    · simp [foot, hs]
  · refine newOr_iff.2 fun t ht => ?_
    rcases List.mem_cons.1 ht with rfl | ht
    · simp [foot]
    · rcases List.mem_append.1 ht with ht | ht
      · simp [foot, ht]
      · rcases hn with hn | hn
        · exact .inl (by simp only [foot, List.mem_cons, List.mem_append]; exact .inr (.inr (mem_blk_iff.2 (hn ▸ mem_blk_iff.1 ht))))
        · exact .inr (hn t (mem_blk_iff.1 ht))
end
/-- A disk at g; F: the blocks that it may write. -/
structure DskF (e T : TypeId) (w : World) (g : Nat) (d : Dk) (F : List Nat) : Prop where
  out : ∃ vx vy, Dsk e T w g d vx vy ∧ F = foot g vx vy
section
variable {e T : TypeId} {w w' : World} {g : Nat} {d : Dk} {F : List Nat}
theorem DskF.mem (h : DskF e T w g d F) : ∀ s ∈ F, g ≤ s ∧ s < w.heap.size := by
  obtain ⟨vx, vy, q, rfl⟩ := h.out
  exact q.mem
theorem DskF.lt (h : DskF e T w g d F) : g < w.heap.size := by
  obtain ⟨vx, vy, q, rfl⟩ := h.out
  exact q.lt
theorem DskF.ok (h : DskF e T w g d F) : d.x.ok ∧ d.y.ok := by
  obtain ⟨vx, vy, q, rfl⟩ := h.out
  exact ⟨q.kx, q.ky⟩
theorem DskF.chg {S : List Nat} (h : DskF e T w g d F) (c : Chg S w w') (hs : ∀ s ∈ F, s < w.heap.size → Off s S) : DskF e T w' g d F := by
  obtain ⟨vx, vy, q, rfl⟩ := h.out
  refine ⟨vx, vy, ⟨c.hp q.hp (hs g (by simp [foot]) q.lt), own_chg q.ox c fun k hk _ hl => hs k ?_ hl, own_chg q.oy c fun k hk _ hl => hs k ?_ hl, q.ne, q.kx, q.ky⟩, rfl⟩
  · simp [foot, mem_blk_iff.2 hk]
  · simp [foot, mem_blk_iff.2 hk]
theorem off_foot {k : Nat} (h : DskF e T w g d F) (hk : k < g ∨ w.heap.size ≤ k) : Off k F := off_iff.2 fun t ht => by
  have := h.mem t ht
  omega
end
theorem own_empty {w : World} {base e g : Nat} (h : w.heap[g]? = some (.cells #[] e (0, 0))) (hb : base ≤ g) : w.ownsRow base e 1 (.slice (some ⟨g, 0, none⟩) 0 0) 0 (b8s []) := ⟨rfl, .inr ⟨g, 0, #[], rfl, hb, h, Nat.le_refl _, by unfold maxLen; omega, rfl, rfl⟩⟩
theorem own_nil (w : World) (base e : Nat) : w.ownsRow base e 1 (.slice none 0 0) 0 (b8s []) := ⟨rfl, .inl ⟨rfl, rfl⟩⟩
/-- The string of some bytes. -/
def str (l : List UInt8) : ByteArray := ⟨l.toArray⟩
theorem str_inj {l r : List UInt8} : str l = str r ↔ l = r := by
  unfold str
  constructor
  · intro h
    injection h with h
    simpa using congrArg Array.toList h
  · rintro rfl; rfl
theorem str_size (l : List UInt8) : (str l).size = l.length := by simp [str, ByteArray.size]
section
variable {P : Program} {w : World} {a : Act} {o : Oper}
theorem run_str (s t : TypeId) (x : Operand) (e : TypeId) (ho : o.op = .convert s t x) (hs : P.underlying s = some (.slice e)) (he : P.underlying e = some (.int .u8)) (ht : P.underlying t = some .string) (A : Option Addr) (n c : Nat) (l : List UInt8)
    (hx : a.eval x = .slice A n c) (hb : Byt w A n l) : (execOp a.eval o).run P w = .ok (.value (.string (str l))) w := by
  have key : (convert s t (.slice A n c)).run P w = .ok (.string (str l)) w := by
    rcases A with _ | ad
    · have h0 : l = [] := by
        rcases l with _ | ⟨y, l⟩
        · rfl
        · obtain ⟨g, off, h, _⟩ := hb.2 (by have := hb.1; simp at this; omega)
          cases h
      subst h0
      exact run_convert_bytes_nil w s e hs he n c t ht
    · obtain ⟨g, off, sp⟩ := ad
      have hcell : ∀ j (hj : j < l.length), w.cell? ((⟨g, off, sp⟩ : Addr).add j) = some (.int .u8 (l[j].toNat : Int)) := by
        intro j hj
        obtain ⟨g', off', h', hc⟩ := hb.2 (by have := hb.1; omega)
        injection h' with h'
        injection h' with h1 h2 h3
        subst h1 h2 h3
        rw [Addr.add_mid, hc j (by have := hb.1; omega)]
        simp [List.getD_eq_getElem?_getD, hj]
      have := run_convert_bytes_back (P := P) w s t e ⟨g, off, sp⟩ c l hs he ht hcell
      rw [hb.1] at this
      exact this
  unfold execOp
  simp only [ho, hx, Sem.run_bind, key, Result.andThen_ok, Sem.run_pure]
/-- A literal's bytes, marked. -/
theorem run_mark (t : TypeId) (x : Operand) (e : TypeId) (ho : o.op = .convert t t x) (ht : P.underlying t = some (.slice e)) (he : P.underlying e = some (.int .u8)) (g n c : Nat) (cs : Array Value) (hx : a.eval x = .slice (some ⟨g, 0, none⟩) n c)
    (hg : w.heap[g]? = some (.cells cs e (0, 0))) : ∃ v1 w1, (execOp a.eval o).run P w = .ok (.value v1) w1 ∧ v1 = .slice (some ⟨g, 0, none⟩) n c ∧ w1.heap[g]? = some (.cells cs e (cs.size, cs.size + 1)) ∧ Chg [g] w w1 := by
  have hlt := (Array.getElem?_eq_some_iff.1 hg).1
  have hsh : w.shape? g = some (e, cs.size) := by
    unfold World.shape?
    rw [hg]
  have key : (convert t t (.slice (some ⟨g, 0, none⟩) n c)).run P w = .ok (.slice (some ⟨g, 0, none⟩) n c) (w.freeze ⟨g, cs.size, none⟩ 1) := by
    simp [convert, run_underlying ht, run_underlying he, markStringish, hsh]
  refine ⟨_, w.freeze ⟨g, cs.size, none⟩ 1, ?_, rfl, ?_, ?_⟩
  · unfold execOp
    simp only [ho, hx, Sem.run_bind, key, Result.andThen_ok, Sem.run_pure]
  · unfold World.freeze
    rw [if_neg (by decide)]
    show (w.heap.modify g _)[g]? = _
    rw [Array.getElem?_modify]
    simp [hg]
  · unfold World.freeze
    rw [if_neg (by decide)]
    refine ⟨rfl, rfl, rfl, by simp, fun k hk ho => ?_⟩
    show (w.heap.modify g _)[k]? = _
    rw [Array.getElem?_modify, if_neg (fun h => ho.1 h.symm)]
theorem run_op_cut_to (t : TypeId) (x z : Operand) (ho : o.op = .slice t x none (some z) none) (e : TypeId) (ht : P.underlying t = some (.slice e)) (hsz : (P.info? e).map (·.size) = some 1) (A : Option Addr) (n c h : Nat)
    (hx : a.eval x = .slice A n c) (hz : a.eval z = .int .i64 (h : Int)) (hh : h ≤ n) (hnc : n ≤ c) : (execOp a.eval o).run P w = .ok (.value (.slice (cutA A c 0) h c)) w := by
  unfold execOp
  simp only [ho, hx, hz, Option.map_some, Option.map_none, Sem.run_bind, run_cut_to t e ht hsz A n c h hh hnc, Result.andThen_ok, Sem.run_pure]
theorem byt_to {A : Option Addr} {n c : Nat} {l : List UInt8} (h : Byt w A n l) (k : Nat) (hk : k ≤ n) (hnc : n ≤ c) : Byt w (cutA A c 0) k (l.take k) := by
  have := h.cut 0 k (by omega) hk hnc
  simpa using this
theorem cut_none {A : Option Addr} {c k : Nat} (h : A = none → c = 0) : cutA A c k = none → c = 0 := by
  rcases A with _ | ad
  · exact fun _ => h rfl
  · exact fun e => absurd e (cutA_some ad c k)
theorem own_le {base base' sz n : Nat} {e : TypeId} {v : Value} {xs : List Value} (h : w.ownsRow base e sz v n xs) (hb : base' ≤ base) : w.ownsRow base' e sz v n xs :=
  ⟨h.1, h.2.elim Or.inl (fun ⟨g, cap, cur, hv, hg, r⟩ => Or.inr ⟨g, cap, cur, hv, Nat.le_trans hb hg, r⟩)⟩
theorem byt_row {g : Nat} {t : TypeId} {fr : Nat × Nat} (l : List UInt8) (h : w.heap[g]? = some (.cells (b8s l).toArray t fr)) : Byt w (some ⟨g, 0, none⟩) l.length l := ⟨rfl, fun _ => ⟨g, 0, rfl, fun j hj => by rw [Nat.zero_add]; exact cell_b8s h hj⟩⟩
theorem byt_sl {A : Option Addr} {n : Nat} {l : List UInt8} (h : Byt w A n l) : Sl w A n 1 (b8s l) := ⟨by rw [b8s_length, h.1, Nat.mul_one], fun hn => by
  have hp : 0 < n := by
    rcases l with _ | ⟨y, l⟩
    · exact absurd rfl hn
    · have := h.1; simp at this; omega
  obtain ⟨g, off, e, hc⟩ := h.2 hp
  refine ⟨g, off, e, fun j u hu => ?_⟩
  have hj : j < l.length := by
    have := (List.getElem?_eq_some_iff.1 hu).1
    simpa [b8s_length] using this
  rw [b8s_get l j hj] at hu
  injection hu with hu
  subst hu
  exact hc j (by have := h.1; omega)⟩
theorem byt_chg {S : List Nat} {w' : World} {A : Option Addr} {n : Nat} {l : List UInt8} (h : Byt w A n l) (c : Chg S w w') (ho : ∀ g off, A = some ⟨g, off, none⟩ → g < w.heap.size → Off g S) : Byt w' A n l := ⟨h.1, fun hp => by
  obtain ⟨g, off, e, hc⟩ := h.2 hp
  have hlt : g < w.heap.size := World.block_lt_of_cell? w ⟨g, off + 0, none⟩ (hc 0 hp)
  exact ⟨g, off, e, fun j hj => c.cell (hc j hj) (ho g off e hlt)⟩⟩
end
end Mur
namespace Mur
open Go Go.RowKit Wk
section
set_option linter.unusedSimpArgs false
variable {P : Program} {w : World} {a : Act} {o : Oper}
theorem str_toList (l : List UInt8) : (str l).toList = l := by rw [Go.ByteArray.toList_eq]; simp [str]
theorem streq (t ty : TypeId) (x y : Operand) (ho : o.op = .binOp .eql t x y ty) (l r : List UInt8) (hx : a.eval x = .string (str l)) (hy : a.eval y = .string (str r)) : (execOp a.eval o).run P w = .ok (.value (.bool (decide (l = r)))) w := by
  unfold execOp
  simp only [ho, hx, hy]
  simp only [eqGuard, binOp_string_eql, binOp_string_neq, Sem.run_bind, Sem.run_pure, Result.andThen_ok, str_toList]
  by_cases h : l = r <;> simp [h]
theorem strne (t ty : TypeId) (x y : Operand) (ho : o.op = .binOp .neq t x y ty) (l r : List UInt8) (hx : a.eval x = .string (str l)) (hy : a.eval y = .string (str r)) : (execOp a.eval o).run P w = .ok (.value (.bool (decide (l ≠ r)))) w := by
  unfold execOp
  simp only [ho, hx, hy]
  simp only [eqGuard, binOp_string_eql, binOp_string_neq, Sem.run_bind, Sem.run_pure, Result.andThen_ok, str_toList]
  by_cases h : l = r <;> simp [h]
theorem strlen (x : Operand) (t : TypeId) (ho : o.op = .call { callee := .builtin .len, args := #[x], argTypes := #[t] }) (ht : P.underlying t = some .string) (l : List UInt8) (hx : a.eval x = .string (str l)) : (execOp a.eval o).run P w = .ok (.value (.int .i64 ((l.length : Nat) : Int))) w := by
  unfold execOp
  simp only [ho]
  simp [resolve, invoke, builtin, Builtin.len_, run_underlying ht, hx, str_size, goInt]
theorem strto (t : TypeId) (x z : Operand) (ho : o.op = .slice t x none (some z) none) (ht : P.underlying t = some .string) (l : List UInt8) (h : Nat) (hx : a.eval x = .string (str l)) (hz : a.eval z = .int .i64 (h : Int)) (hh : h ≤ l.length) :
    (execOp a.eval o).run P w = .ok (.value (.string (str (l.take h)))) w := by
  have e : (str l).extract 0 h = str (l.take h) := by
    apply ByteArray.ext
    simp [str]
  unfold execOp
  simp only [ho, hx, hz, Option.map_some, Option.map_none]
  simp [Instr.sliceAt, Instr.slice, Instr.sliceBounds, run_underlying ht, str_size, run_sliceBound w .i64 (h : Int) l.length _ (by omega) (by omega), e]
end
end Mur
namespace Mur
open Go Go.RowKit Wk
theorem b8s_set (l : List UInt8) (i : Nat) (x : UInt8) : (b8s l).toArray.setIfInBounds i (.int .u8 (x.toNat : Int)) = (b8s (l.set i x)).toArray := by
  rw [List.setIfInBounds_toArray]
  congr 1
  simp [b8s, List.map_set]
section
variable {P : Program} {w : World} {a : Act} {o : Oper}
theorem blk_cell {g : Nat} {t : TypeId} {fr : Nat × Nat} (l : List UInt8) (h : w.heap[g]? = some (.cells (b8s l).toArray t fr)) (j : Nat) (hj : j < l.length) : w.cell? ⟨g, 0 + j * 1, none⟩ = some (.int .u8 (((l.getD j 0).toNat : Nat) : Int)) := by
  rw [Nat.zero_add, Nat.mul_one]
  exact cell_b8s h hj
theorem byt_cell {g off n : Nat} {l : List UInt8} (h : Byt w (some ⟨g, off, none⟩) n l) (j : Nat) (hj : j < n) : w.cell? ⟨g, off + j * 1, none⟩ = some (.int .u8 (((l.getD j 0).toNat : Nat) : Int)) := by
  obtain ⟨g', off', e, hc⟩ := h.2 (by omega)
  injection e with e
  injection e with e1 e2
  subst e1 e2
  rw [Nat.mul_one]
  exact hc j hj
theorem byt_blk {g n : Nat} {t : TypeId} {fr : Nat × Nat} (l : List UInt8) (hl : l.length = n) (h : w.heap[g]? = some (.cells (b8s l).toArray t fr)) : Byt w (some ⟨g, 0, none⟩) n l := hl ▸ byt_row l h
/-- A whole row stored. -/
theorem storeAll (ty : TypeId) (x y : Operand) (ho : o.op = .store ty x y) (g : Nat) (hx : a.eval x = .pointer (some ⟨g, 0, none⟩)) (l : List UInt8) (n : Nat) (hl : l.length = n) (hy : a.eval y = .agg (b8s l).toArray) (hi : (P.info? ty).map (·.size) = some n)
    (t : TypeId) (cs : Array Value) (hg : w.heap[g]? = some (.cells cs t (0, 0))) (hn : cs.size = n) :
    ∃ w', (execOp a.eval o).run P w = .ok .skip w' ∧ w'.heap[g]? = some (.cells (b8s l).toArray t (0, 0)) ∧ Chg [g] w w' := by
  obtain ⟨w', h1, h2, h3⟩ := storeR (P := P) ty x y ho g 0 hx (b8s l) hy (by rw [hi, b8s_length, hl]) (b8s_one l) t cs.toList (by simpa using hg) (by rw [b8s_length, hl, Array.length_toList, hn]; omega)
  refine ⟨w', h1, ?_, h3⟩
  rw [h2]
  congr 2
  have hdrop : cs.toList.drop (0 + (b8s l).length) = [] := List.drop_of_length_le (by rw [b8s_length, hl, Array.length_toList, hn]; omega)
  unfold splice
  rw [hdrop]
  simp
/-- A whole row loaded. -/
theorem loadAll (ty : TypeId) (x : Operand) (ho : o.op = .load ty x) (d : TypeDesc) (hu : P.underlying ty = some d) (hd : d.isRow = true) (g : Nat) (hx : a.eval x = .pointer (some ⟨g, 0, none⟩)) (l : List UInt8) (n : Nat) (hl : l.length = n)
    (hi : (P.info? ty).map (·.size) = some n) (t : TypeId) (fr : Nat × Nat) (hg : w.heap[g]? = some (.cells (b8s l).toArray t fr)) : (execOp a.eval o).run P w = .ok (.value (.agg (b8s l).toArray)) w :=
  loadR ty x ho d hu hd g 0 hx (b8s l) (by rw [hi, b8s_length, hl]) (range_row hg)
/-- An array as a slice. -/
theorem arr_slice (t e : TypeId) (x : Operand) (n : Nat) (ho : o.op = .slice t x none none none) (ht : P.underlying t = some (.array n e)) (hsz : (P.info? e).map (·.size) = some 1) (g : Nat) (hx : a.eval x = .pointer (some ⟨g, 0, none⟩)) :
    (execOp a.eval o).run P w = .ok (.value (.slice (some ⟨g, 0, none⟩) n n)) w := by
  obtain ⟨i, hi, hs⟩ := Option.map_eq_some_iff.1 hsz
  unfold execOp
  simp only [ho, hx, Option.map_none]
  have e0 : (⟨g, 0, none⟩ : Addr).add 0 = ⟨g, 0, none⟩ := Addr.add_mid g 0 0
  simp [Instr.sliceAt, Instr.slice, Instr.sureAddr, run_underlying ht, Instr.sliceBounds, Go.sizeOf, typeInfo, hi, e0]
theorem bits_xor_u8 (a b : UInt8) : bits .xor .u8 ((a.toNat : Nat) : Int) ((b.toNat : Nat) : Int) = (((a ^^^ b).toNat : Nat) : Int) := by
  show IntKind.u8.wrap ((BitVec.ofInt 8 ((a.toNat : Nat) : Int) ^^^ BitVec.ofInt 8 ((b.toNat : Nat) : Int)).toNat : Int) = _
  rw [BitVec.ofInt_natCast, BitVec.ofInt_natCast, UInt8.toNat, BitVec.ofNat_toNat, BitVec.setWidth_eq, UInt8.toNat, BitVec.ofNat_toNat, BitVec.setWidth_eq]
  show ((((a ^^^ b).toNat : Nat) : Int)) % 256 = _
  have := (a ^^^ b).toNat_lt
  omega
theorem bits_or_u8 (a b : UInt8) : bits .or .u8 ((a.toNat : Nat) : Int) ((b.toNat : Nat) : Int) = (((a ||| b).toNat : Nat) : Int) := by
  show IntKind.u8.wrap ((BitVec.ofInt 8 ((a.toNat : Nat) : Int) ||| BitVec.ofInt 8 ((b.toNat : Nat) : Int)).toNat : Int) = _
  rw [BitVec.ofInt_natCast, BitVec.ofInt_natCast, UInt8.toNat, BitVec.ofNat_toNat, BitVec.setWidth_eq, UInt8.toNat, BitVec.ofNat_toNat, BitVec.setWidth_eq]
  show ((((a ||| b).toNat : Nat) : Int)) % 256 = _
  have := (a ||| b).toNat_lt
  omega
theorem xor8 (t ty : TypeId) (x y : Operand) (ho : o.op = .binOp .xor t x y ty) (b c : UInt8) (hx : a.eval x = .int .u8 ((b.toNat : Nat) : Int)) (hy : a.eval y = .int .u8 ((c.toNat : Nat) : Int)) : (execOp a.eval o).run P w = .ok (.value (.int .u8 (((b ^^^ c).toNat : Nat) : Int))) w := by
  unfold execOp
  simp only [ho, hx, hy]
  have key : (binOp .xor t (.int .u8 ((b.toNat : Nat) : Int)) (.int .u8 ((c.toNat : Nat) : Int))).run P w = .ok (.int .u8 (bits .xor .u8 ((b.toNat : Nat) : Int) ((c.toNat : Nat) : Int))) w := rfl
  have hg : (eqGuard .xor t x y (.int .u8 ((b.toNat : Nat) : Int)) (.int .u8 ((c.toNat : Nat) : Int))).run P w = .ok () w := rfl
  rw [bits_xor_u8] at key
  simp only [Sem.run_bind, Sem.run_pure, hg, Result.andThen_ok, key]
theorem or8 (t ty : TypeId) (x y : Operand) (ho : o.op = .binOp .or t x y ty) (b c : UInt8) (hx : a.eval x = .int .u8 ((b.toNat : Nat) : Int)) (hy : a.eval y = .int .u8 ((c.toNat : Nat) : Int)) : (execOp a.eval o).run P w = .ok (.value (.int .u8 (((b ||| c).toNat : Nat) : Int))) w := by
  unfold execOp
  simp only [ho, hx, hy]
  have key : (binOp .or t (.int .u8 ((b.toNat : Nat) : Int)) (.int .u8 ((c.toNat : Nat) : Int))).run P w = .ok (.int .u8 (bits .or .u8 ((b.toNat : Nat) : Int) ((c.toNat : Nat) : Int))) w := rfl
  have hg : (eqGuard .or t x y (.int .u8 ((b.toNat : Nat) : Int)) (.int .u8 ((c.toNat : Nat) : Int))).run P w = .ok () w := rfl
  rw [bits_or_u8] at key
  simp only [Sem.run_bind, Sem.run_pure, hg, Result.andThen_ok, key]
/-- A byte stored into a row of one's own. -/
theorem store8 (ty : TypeId) (x y : Operand) (ho : o.op = .store ty x y) (hi : (P.info? ty).map (·.size) = some 1) (g i : Nat) (hx : a.eval x = .pointer (some ⟨g, 0 + i * 1, none⟩)) (b : UInt8) (hy : a.eval y = .int .u8 ((b.toNat : Nat) : Int))
    (t : TypeId) (l : List UInt8) (hg : w.heap[g]? = some (.cells (b8s l).toArray t (0, 0))) (hlt : i < l.length) :
    ∃ w', (execOp a.eval o).run P w = .ok .skip w' ∧ w'.heap[g]? = some (.cells (b8s (l.set i b)).toArray t (0, 0)) ∧ Chg [g] w w' := by
  rw [Nat.zero_add, Nat.mul_one] at hx
  obtain ⟨w', h1, h2, h3⟩ := store1 (P := P) ty x y ho hi g i hx _ hy rfl t _ hg (by simpa [b8s_length] using hlt)
  exact ⟨w', h1, by rw [h2, b8s_set], h3⟩
/-- Bytes copied to the head of a row of one's own. -/
theorem copy8 (d s : Operand) (dT sT : TypeId) (ho : o.op = .call { callee := .builtin .copy, args := #[d, s], argTypes := #[dT, sT] }) (e : TypeId) (hu : P.underlying dT = some (.slice e)) (hsz : (P.info? e).map (·.size) = some 1)
    (g D c : Nat) (hd : a.eval d = .slice (some ⟨g, 0, none⟩) D c) (A : Option Addr) (n c2 : Nat) (hs : a.eval s = .slice A n c2) (t : TypeId) (l r : List UInt8) (hg : w.heap[g]? = some (.cells (b8s l).toArray t (0, 0))) (hD : l.length = D) (hb : Byt w A n r) (hn : n ≤ D) (hA : A = none → c2 = 0) :
    ∃ v w', (execOp a.eval o).run P w = .ok (.value v) w' ∧ v = .int .i64 ((n : Nat) : Int) ∧ w'.heap[g]? = some (.cells (b8s (r ++ l.drop n)).toArray t (0, 0)) ∧ Chg [g] w w' := by
  have hrn := hb.1
  rcases A with _ | ad
  · have h0 : r = [] := by
      rcases r with _ | ⟨y, r⟩
      · rfl
      · obtain ⟨g, off, h, _⟩ := hb.2 (by have := hb.1; simp at this; omega)
        cases h
    subst h0
    obtain rfl : n = 0 := by simpa using hrn.symm
    obtain rfl := hA rfl
    refine ⟨_, w, ?_, rfl, by simpa using hg, (Chg.refl w).more (by simp)⟩
    have := run_copy_nil (P := P) w dT sT o.type e ⟨g, 0, none⟩ D c hu (by rw [hsz]; rfl)
    unfold execOp
    simp only [ho, resolve, invoke, builtin, Sem.run_bind, Sem.run_pure, Result.andThen_ok, List.map_toArray, List.map_cons, List.map_nil, hs, hd, this, goInt]
    rfl
  · have hsrc : ∀ j v, (b8s r)[j]? = some v → w.cell? (ad.add j) = some v := by
      intro j v hv
      have hj : j < r.length := by
        have := (List.getElem?_eq_some_iff.1 hv).1
        simpa [b8s_length] using this
      obtain ⟨g', off, e', hc⟩ := hb.2 (by omega)
      injection e' with e'
      subst e'
      rw [Addr.add_mid]
      rw [b8s_get r j hj] at hv
      injection hv with hv
      subst hv
      exact hc j (by omega)
    have hrun := run_copy_row (P := P) w dT sT o.type e g 0 D c ad n c2 (b8s l).toArray t (b8s r) hu hsz hg (by rw [b8s_length, hrn]; exact (Nat.min_eq_left hn).symm) hsrc (by simp [b8s_length]; omega) (b8s_one r)
    have hb8 : (b8s l).take 0 ++ b8s r ++ (b8s l).drop (0 + (b8s r).length) = b8s (r ++ l.drop n) := by
      rw [b8s_append, b8s_length, hrn]
      simp [b8s, List.map_drop]
    refine ⟨.int .i64 ((n : Nat) : Int), w.setRow g (b8s (r ++ l.drop n)).toArray, ?_, rfl, ?_, ?_⟩
    · unfold execOp
      simp only [ho, resolve, invoke, builtin, Sem.run_bind, Sem.run_pure, Result.andThen_ok, List.map_toArray, List.map_cons, List.map_nil, hs, hd, hrun, goInt, b8s_length, hrn]
      rw [b8s_length, hrn] at hb8
      rw [hb8]
    · exact setRow_heap w g _ _ t _ hg
    · refine ⟨rfl, rfl, rfl, by simp [World.setRow], fun k hk ho => ?_⟩
      exact setRow_other _ _ _ _ (fun h => ho.1 h)
/-- append of bytes to a slice of one's own. -/
structure Own8 (w : World) (base e : Nat) (A : Option Addr) (n c : Nat) (l : List UInt8) : Prop where
  own : w.ownsRow base e 1 (.slice A n c) n (b8s l)
  nc : n ≤ c
  cm : c ≤ maxLen
  nil : A = none → c = 0
  byt : Byt w A n l
  at_ : ∀ g off, A = some ⟨g, off, none⟩ → base ≤ g ∧ g < w.heap.size
  lt : ∀ k, (Value.slice A n c).ownBlock = some k → base ≤ k ∧ k < w.heap.size
theorem own8 {base e n : Nat} {A : Option Addr} {c : Nat} {l : List UInt8} (h : w.ownsRow base e 1 (.slice A n c) n (b8s l)) : Own8 w base e A n c l := by
  obtain ⟨A1, c1, e1, h1, h2, h3⟩ := own_byt h
  injection e1 with e1 _ e2
  subst e1 e2
  obtain ⟨A2, c2, e3, _, _, h4, _, h5⟩ := own_sl h
  injection e3 with e3 _ e4
  subst e3 e4
  exact ⟨h, h1, h2, h4, h3, h5, World.ownsRow.lt h⟩
theorem append8 (s x : Operand) (t e : TypeId) (ho : o.op = .call { callee := .builtin .append, args := #[s, x], argTypes := #[t, t] }) (ht : P.underlying t = some (.slice e)) (hinfo : (P.info? e).map (fun i => (i.zero, i.size, i.bytes)) = some (some (.int .u8 0), 1, 1))
    (base : Nat) (A0 : Option Addr) (n c0 : Nat) (xs : List UInt8) (A : Option Addr) (m c : Nat) (ys : List UInt8) (hs : a.eval s = .slice A0 n c0) (hx : a.eval x = .slice A m c) (HO : w.ownsRow base e 1 (.slice A0 n c0) n (b8s xs)) (HR : Byt w A m ys) (hA : A = none → c = 0)
    (hbase : base ≤ w.heap.size) (hl : n + m ≤ 140737488355328) (k : Nat) (hk : n + m = k) (zs : List UInt8) (hz : xs ++ ys = zs) :
    ∃ v1 w1, (execOp a.eval o).run P w = .ok (.value v1) w1 ∧ ∃ A1 c1, v1 = .slice A1 k c1 ∧ Own8 w1 base e A1 k c1 zs ∧ Chg (blk (.slice A0 n c0)) w w1 ∧ (∀ q, (Value.slice A1 k c1).ownBlock = some q → (Value.slice A0 n c0).ownBlock = some q ∨ q = w.heap.size) := by
  subst hk hz
  obtain ⟨v1, w1, h1, h2, h3, h4⟩ := append_run (P := P) s x t e ho ht (.int .u8 0) 1 1 hinfo rfl (by omega) base (.slice A0 n c0) n (b8s xs) A m c (b8s ys) hs hx HO (byt_sl HR) hA (b8s_one ys) hbase (by unfold maxLen; omega) (by omega)
  rw [← b8s_append] at h2
  obtain ⟨A1, c1, rfl, _⟩ := own_byt h2
  refine ⟨_, w1, h1, A1, c1, rfl, own8 h2, h3, fun q hq => ?_⟩
  rcases h4 with h4 | h4
  · exact .inl (h4 ▸ hq)
  · rw [h4] at hq
    exact .inr (Option.some.inj hq).symm
theorem Own8.chg {w' : World} {base e n c : Nat} {A : Option Addr} {l : List UInt8} {S : List Nat} (h : Own8 w base e A n c l) (ch : Chg S w w') (ho : ∀ g, base ≤ g → g < w.heap.size → Off g S) : Own8 w' base e A n c l :=
  own8 (own_chg h.own ch fun g _ h1 h2 => ho g h1 h2)
theorem own8_empty {base e g : Nat} (h : w.heap[g]? = some (.cells #[] e (0, 0))) (hb : base ≤ g) : Own8 w base e (some ⟨g, 0, none⟩) 0 0 [] := own8 (own_empty h hb)
theorem own8_nil (w : World) (base e : Nat) : Own8 w base e none 0 0 [] := own8 (own_nil w base e)
end
/-- A slice of bytes. -/
structure Seg where
  A : Option Addr
  n : Nat
  c : Nat
  l : List UInt8
def Seg.v (s : Seg) : Value := .slice s.A s.n s.c
structure SegOk (w : World) (s : Seg) : Prop where
  nc : s.n ≤ s.c
  nil : s.A = none → s.c = 0
  byt : Byt w s.A s.n s.l
  cm : s.c ≤ maxLen
/-- A slice of slices of bytes. -/
structure Segs (w : World) (A : Option Addr) (n : Nat) (L : List Seg) : Prop where
  len : L.length = n
  ok : ∀ s ∈ L, SegOk w s
  cells : 0 < n → ∃ g off, A = some ⟨g, off, none⟩ ∧ ∀ i s, L[i]? = some s → w.cell? ⟨g, off + i, none⟩ = some s.v
theorem SegOk.chg {w w' : World} {s : Seg} (h : SegOk w s) (c : Chg [] w w') : SegOk w' s := ⟨h.1, h.2, byt_chg h.3 c fun _ _ _ _ => trivial, h.4⟩
theorem Segs.chg {w w' : World} {A : Option Addr} {n : Nat} {L : List Seg} (h : Segs w A n L) (c : Chg [] w w') : Segs w' A n L :=
  ⟨h.1, fun s hs => (h.2 s hs).chg c, fun hn => by
    obtain ⟨g, off, e, hc⟩ := h.3 hn
    exact ⟨g, off, e, fun i s hi => c.cell (hc i s hi) trivial⟩⟩
/-- All their bytes. -/
def flat (L : List Seg) : List UInt8 := L.flatMap (·.l)
theorem flat_take {L : List Seg} {i : Nat} {s : Seg} (h : L[i]? = some s) : flat (L.take (i + 1)) = flat (L.take i) ++ s.l := by
  have hi : i < L.length := (List.getElem?_eq_some_iff.1 h).1
  have he : L[i] = s := (List.getElem?_eq_some_iff.1 h).2
  rw [List.take_succ_eq_append_getElem hi, he]
  simp [flat]
theorem flat_take_le {L : List Seg} (i : Nat) : (flat (L.take i)).length ≤ (flat L).length := by
  have : flat L = flat (L.take i) ++ flat (L.drop i) := by rw [flat, flat, flat, ← List.flatMap_append, List.take_append_drop]
  rw [this, List.length_append]
  omega
theorem flat_all {L : List Seg} {n : Nat} (h : L.length = n) : flat (L.take n) = flat L := by rw [List.take_of_length_le (by omega)]
theorem Segs.at {w : World} {A : Option Addr} {n : Nat} {L : List Seg} (h : Segs w A n L) {k : Nat} (hk : k < n) : ∃ g off As ns cs ls, A = some ⟨g, off, none⟩ ∧ g < w.heap.size ∧ w.cell? ⟨g, off + k * 1, none⟩ = some (.slice As ns cs) ∧ Byt w As ns ls ∧ ns ≤ cs ∧ cs ≤ maxLen ∧ (As = none → cs = 0) ∧
    flat (L.take (k + 1)) = flat (L.take k) ++ ls ∧ (flat (L.take k)).length + ns ≤ (flat L).length := by
  obtain ⟨g, off, rfl, hc⟩ := h.3 (by omega)
  obtain ⟨x, hx⟩ : ∃ x, L[k]? = some x := ⟨_, List.getElem?_eq_getElem (by have := h.1; omega)⟩
  have hok := h.2 x (List.mem_of_getElem? hx)
  have q := hc k x hx
  have hf := flat_take hx
  have hle := flat_take_le (L := L) (k + 1)
  have hl := hok.byt.1
  rw [hf, List.length_append, hl] at hle
  exact ⟨g, off, x.A, x.n, x.c, x.l, rfl, World.block_lt_of_cell? w ⟨g, off + k, none⟩ q, by rw [Nat.mul_one]; exact q, hok.byt, hok.nc, hok.cm, hok.nil, hf, hle⟩
theorem flat_one (s : Seg) : flat [s] = s.l := by
  show s.l ++ [] = s.l
  rw [List.append_nil]
theorem segs_one {w : World} {g : Nat} {t : TypeId} {fr : Nat × Nat} {A : Option Addr} {n c : Nat} {l : List UInt8} (h : w.heap[g]? = some (.cells #[.slice A n c] t fr)) (h1 : n ≤ c) (h2 : A = none → c = 0) (h3 : Byt w A n l) (h4 : c ≤ maxLen) : Segs w (some ⟨g, 0, none⟩) 1 [⟨A, n, c, l⟩] :=
  ⟨rfl, fun s hs => by
    obtain rfl := List.mem_singleton.1 hs
    exact ⟨h1, h2, h3, h4⟩, fun _ => ⟨g, 0, rfl, fun i s hi => by
      rw [cell_of_row _ _ _ _ _ _ h]
      rcases i with _ | i
      · obtain rfl := Option.some.inj hi
        rfl
      · cases hi⟩⟩
end Mur
namespace Mur
open Go Go.RowKit Wk
def hkey0 (s : List UInt8) : List UInt8 := if 64 < s.length then sha s else s
def hkey (s : List UInt8) : List UInt8 := hkey0 s ++ List.replicate (64 - (hkey0 s).length) 0
def xorl (c : UInt8) (l : List UInt8) : List UInt8 := l.map (· ^^^ c)
def hmac (s b : List UInt8) : List UInt8 := sha (xorl 92 (hkey s) ++ sha (xorl 54 (hkey s) ++ b))
theorem sha_len (b : List UInt8) : (sha b).length = 32 := Go.Proofs.YtfhneademopciaaDoor.sha_length b
theorem hkey0_le (s : List UInt8) : (hkey0 s).length ≤ 64 := by
  unfold hkey0
  split
  · rw [sha_len]; omega
  · omega
theorem hkey_length (s : List UInt8) : (hkey s).length = 64 := by
  have := hkey0_le s
  unfold hkey
  rw [List.length_append, List.length_replicate]
  omega
theorem xorl_length (c : UInt8) (l : List UInt8) : (xorl c l).length = l.length := by simp [xorl]
theorem hmac_length (s b : List UInt8) : (hmac s b).length = 32 := sha_len _
theorem hkey_big {s : List UInt8} (h : 64 < s.length) : hkey (sha s) = hkey s := by
  have h1 : hkey0 s = sha s := if_pos h
  have h2 : hkey0 (sha s) = sha s := if_neg (by rw [sha_len]; omega)
  unfold hkey
  rw [h1, h2]
theorem hkey_wide {s : List UInt8} {k : Nat} (h : s.length + k ≤ 64) : hkey (s ++ List.replicate k 0) = hkey s := by
  have h1 : hkey0 s = s := if_neg (by omega)
  have h2 : hkey0 (s ++ List.replicate k 0) = s ++ List.replicate k 0 := if_neg (by rw [List.length_append, List.length_replicate]; omega)
  unfold hkey
  rw [h1, h2, List.append_assoc, List.replicate_append_replicate, List.length_append, List.length_replicate]
  congr 2
  omega
theorem hmac_big {s : List UInt8} (b : List UInt8) (h : 64 < s.length) : hmac (sha s) b = hmac s b := by unfold hmac; rw [hkey_big h]
theorem hmac_wide {s : List UInt8} {k : Nat} (b : List UInt8) (h : s.length + k ≤ 64) : hmac (s ++ List.replicate k 0) b = hmac s b := by unfold hmac; rw [hkey_wide h]
/-- A key on whose first i bytes a byte is. -/
def xorTo (c : UInt8) (k : List UInt8) (i : Nat) : List UInt8 := xorl c (k.take i) ++ k.drop i
theorem xorTo_zero (c : UInt8) (k : List UInt8) : xorTo c k 0 = k := by simp [xorTo, xorl]
theorem xorTo_all (c : UInt8) (k : List UInt8) {n : Nat} (h : k.length = n) : xorTo c k n = xorl c k := by
  subst h
  simp [xorTo]
theorem xorTo_length (c : UInt8) (k : List UInt8) (i : Nat) : (xorTo c k i).length = k.length := by
  simp only [xorTo, List.length_append, xorl_length, List.length_take, List.length_drop]
  omega
theorem xorTo_getD (c : UInt8) (k : List UInt8) (i : Nat) (h : i < k.length) : (xorTo c k i).getD i 0 = k.getD i 0 := by
  have h1 : (xorl c (k.take i)).length = i := by rw [xorl_length, List.length_take]; omega
  simp only [xorTo, List.getD_eq_getElem?_getD]
  rw [List.getElem?_append_right (by omega), h1, List.getElem?_drop]
  simp
theorem xorl_succ (c : UInt8) (k : List UInt8) (i : Nat) (h : i < k.length) : xorl c (k.take (i + 1)) = xorl c (k.take i) ++ [k.getD i 0 ^^^ c] := by
  rw [List.take_succ_eq_append_getElem h, xorl, List.map_append]
  simp [xorl, List.getD_eq_getElem?_getD, h]
theorem xorTo_set (c : UInt8) (k : List UInt8) (i : Nat) (h : i < k.length) : (xorTo c k i).set i (k.getD i 0 ^^^ c) = xorTo c k (i + 1) := by
  have h1 : (xorl c (k.take i)).length = i := by rw [xorl_length, List.length_take]; omega
  unfold xorTo
  rw [List.set_append_right _ _ (by omega), h1, Nat.sub_self, xorl_succ c k i h, List.drop_eq_getElem_cons h, List.set_cons_zero, List.append_assoc]
  rfl
end Mur
namespace Mur
theorem key_small {s : List UInt8} {n : Nat} (h : s.length = n) (hn : n ≤ 64) : s ++ (List.replicate 64 0).drop n = hkey s := by
  have h1 : hkey0 s = s := if_neg (by omega)
  unfold hkey
  rw [h1, List.drop_replicate, h]
theorem key_big {s d : List UInt8} (h : 64 < s.length) (hd : d = sha s) : d ++ (List.replicate 64 0).drop 32 = hkey s := by
  have h1 : hkey0 s = sha s := if_pos h
  unfold hkey
  rw [h1, hd, List.drop_replicate, sha_len]
end Mur
namespace Mur
open Go Go.RowKit Go.WideShapes Go.ChangeShapes
section
variable {H : Type} {enc : TypeId × Value → H} {P : Program} {W : World}
theorem leaf_byt {t e : TypeId} {v : Value} (ht : P.underlying t = some (.slice e)) (he : P.underlying e = some (.int .u8)) (hc : P.cellsOf e = 1) (h : Leaf enc P W 0 (fun _ => true) true t v) : ∃ A n c l, v = .slice A n c ∧ n ≤ c ∧ c ≤ maxLen ∧ (A = none → c = 0) ∧ Byt W A n l := by
  obtain ⟨m, y, hf⟩ := h
  rcases open_ints ht he hc hf with ⟨h0, _⟩ | ⟨a, len, cap, zs, h0, _, hlc, hcm, hlen, _, hcell, hwf⟩
  · obtain rfl : v = .slice none 0 0 := by simpa using h0
    exact ⟨none, 0, 0, [], rfl, Nat.le_refl _, by unfold maxLen; omega, fun _ => rfl, Byt.nil _ _⟩
  · obtain rfl : v = .slice (some a) len cap := by simpa using h0
    simp only [if_true] at hlen
    refine ⟨some a, len, cap, (zs.take len).map (fun z => UInt8.ofNat z.toNat), rfl, hlc, hcm, (fun h => by cases h), (by simp; omega), fun hp => ?_⟩
    obtain ⟨g, off, rfl, hc2⟩ := ints_at hcell (by omega)
    refine ⟨g, off, rfl, fun j hj => ?_⟩
    rw [hc2 j (by omega)]
    have hr := range_u8 hwf j
    have hjz : j < zs.length := by omega
    simp only [List.getElem?_eq_getElem hjz, Option.getD_some] at hr
    simp [List.getD_eq_getElem?_getD, hj, hjz]
    omega
/-- An array, or a struct, that comes in: its leaves. -/
theorem open_agg {t : TypeId} {ls : List TypeId} {W : World} {v : Value} {d : DataW H} {ps : List MemPlace} (D : Nat) (hu : (∃ n e, P.underlying t = some (.array n e)) ∨ ∃ fs, P.underlying t = some (.struct fs)) (hl : leafs P D t = some ls)
    (hval : ∃ r b0, Value.okWide P W r b0 t v) (h : DataW.Trod enc P W 0 (fun _ => true) true t v d ps) : ∃ cs, v = .agg cs ∧ All2 (Leaf enc P W 0 (fun _ => true) true) ls cs.toList := by
  obtain ⟨fuel, hf⟩ := h
  obtain ⟨r, b0, hok⟩ := hval
  obtain ⟨cs, rfl⟩ : ∃ cs, v = .agg cs := by
    unfold Value.okWide at hok
    rcases hu with ⟨n, e, hu⟩ | ⟨fs, hu⟩
    · simp only [hu] at hok
      obtain ⟨cs, h1, _⟩ := hok
      exact ⟨cs, h1⟩
    · simp only [hu] at hok
      obtain ⟨cs, h1, _⟩ := hok
      exact ⟨cs, h1⟩
  exact ⟨cs, rfl, leafs_ok D t ls hl _ _ _ hf⟩
theorem open_segs {t s e : TypeId} {v : Value} {d : DataW H} {ps : List MemPlace} (ht : P.underlying t = some (.slice s)) (hs : P.underlying s = some (.slice e)) (he : P.underlying e = some (.int .u8)) (hc : P.cellsOf e = 1) (hl : leafs P 2 s = some [s]) (hcs : P.cellsOf s = 1)
    (hval : ∃ r b0, Value.okWide P W r b0 t v) (h : DataW.Trod enc P W 0 (fun _ => true) true t v d ps) :
    ∃ A n c L, v = .slice A n c ∧ n ≤ c ∧ c ≤ maxLen ∧ Segs W A n L := by
  obtain ⟨A, n, c, rows, rfl, hnc, hcm, _, hlen, hrows, hat⟩ := open_rows 2 _ ht hl hcs (by simp) (slice_cells ht hval) h
  have key : ∀ rows : List (List Value), (∀ r ∈ rows, All2 (Leaf enc P W 0 (fun _ => true) true) [s] r) → ∃ L : List Seg, rows = L.map (fun x => [x.v]) ∧ ∀ x ∈ L, SegOk W x := by
    intro rows
    induction rows with
    | nil => exact fun _ => ⟨[], rfl, by simp⟩
    | cons r rows ih =>
      intro hr
      obtain ⟨L, rfl, h1⟩ := ih fun x hx => hr x (by simp [hx])
      rcases hr r (by simp) with _ | ⟨h0, hx⟩
      cases hx
      obtain ⟨A, n, c, l, rfl, h3, h4, h5, h6⟩ := leaf_byt hs he hc h0
      exact ⟨⟨A, n, c, l⟩ :: L, rfl, by
        intro x hx
        rcases List.mem_cons.1 hx with rfl | hx
        · exact ⟨h3, h5, h6, h4⟩
        · exact h1 x hx⟩
  obtain ⟨L, rfl, h1⟩ := key rows hrows
  refine ⟨A, n, c, L, rfl, hnc, hcm, ⟨by simpa using hlen, h1, fun hn => ?_⟩⟩
  obtain ⟨g, off, e, hr⟩ := hat hn
  refine ⟨g, off, e, fun j x hj => ?_⟩
  have := hr j [x.v] (by simp [hj]) 0 _ rfl
  simpa using this
/-- A row of n bytes that comes in. -/
theorem leaf_u8 {t : TypeId} {v : Value} (ht : P.underlying t = some (.int .u8)) {w : World} (h : Leaf enc P w 0 (fun _ => true) true t v) : ∃ b : UInt8, v = .int .u8 (b.toNat : Int) := by
  obtain ⟨z, rfl, hwf⟩ := leaf_int ht h
  have h1 : IntKind.u8.min = 0 := by decide
  have h2 : IntKind.u8.max = 255 := by decide
  simp only [Lit.wf, h1, h2, Bool.and_eq_true, decide_eq_true_eq] at hwf
  exact ⟨UInt8.ofNat z.toNat, by simp; omega⟩
theorem leaf_u8s {t : TypeId} (ht : P.underlying t = some (.int .u8)) {w : World} : ∀ (n : Nat) (cs : List Value), All2 (Leaf enc P w 0 (fun _ => true) true) (List.replicate n t) cs → ∃ l : List UInt8, l.length = n ∧ cs = b8s l
  | 0, cs, h => by
    cases h
    exact ⟨[], rfl, rfl⟩
  | n + 1, cs, h => by
    rw [List.replicate_succ] at h
    rcases h with _ | ⟨h0, h⟩
    obtain ⟨b, rfl⟩ := leaf_u8 ht h0
    obtain ⟨l, h1, rfl⟩ := leaf_u8s ht n _ h
    exact ⟨b :: l, by simp [h1], rfl⟩
theorem open_row8 {t e : TypeId} {n : Nat} {W : World} {v : Value} {d : DataW H} {ps : List MemPlace} (hu : P.underlying t = some (.array n e)) (he : P.underlying e = some (.int .u8)) (hl : leafs P 2 t = some (List.replicate n e)) (hval : ∃ r b0, Value.okWide P W r b0 t v)
    (h : DataW.Trod enc P W 0 (fun _ => true) true t v d ps) : ∃ l : List UInt8, l.length = n ∧ v = .agg (b8s l).toArray := by
  obtain ⟨cs, rfl, ha⟩ := open_agg 2 (.inl ⟨_, _, hu⟩) hl hval h
  obtain ⟨l, h1, h2⟩ := leaf_u8s he n _ ha
  exact ⟨l, h1, by rw [← h2]⟩
end
end Mur
namespace Go.Proofs.YtfhneademopciaaDoor
theorem leafs_b : Mur.leafs Tryd.prog 2 38 = some [38] := by kernel_rfl
theorem cellsB : Tryd.prog.cellsOf 38 = 1 := by kernel_rfl
theorem leafs_d : Mur.leafs Tryd.prog 2 30 = some (List.replicate 32 5) := by kernel_rfl
end Go.Proofs.YtfhneademopciaaDoor
namespace Mur
open Go Go.RowKit Wk
section
variable {P : Program} {w : World} {a : Act} {o : Oper}
theorem zeroCells_eq (k : Nat) : Builtin.zeroCells #[.int .u8 0] k = (b8s (List.replicate k 0)).toArray := by
  unfold Builtin.zeroCells
  apply Array.ext
  · simp [b8s]
  · intro i h1 h2
    simp [b8s, Nat.mod_one]
theorem append_zeros8 (s x : Operand) (t tn e : TypeId) (ho : o.op = .call { callee := .builtin .append, args := #[s, x], argTypes := #[t, tn] }) (ht : P.underlying t = some (.slice e)) (kn : IntKind) (htn : P.underlying tn = some (.int kn))
    (hinfo : (P.info? e).map (fun i => (i.zero, i.size, i.bytes)) = some (some (.int .u8 0), 1, 1))
    (base : Nat) (A0 : Option Addr) (n c0 : Nat) (xs : List UInt8) (k : Nat) (hs : a.eval s = .slice A0 n c0) (hx : a.eval x = .int .i64 ((k : Nat) : Int)) (H : Own8 w base e A0 n c0 xs)
    (hbase : base ≤ w.heap.size) (hl : n + k ≤ 140737488355328) (N : Nat) (hN : n + k = N) (zs : List UInt8) (hz : xs ++ List.replicate k 0 = zs) :
    ∃ v1 w1, (execOp a.eval o).run P w = .ok (.value v1) w1 ∧ ∃ A1 c1, v1 = .slice A1 N c1 ∧ Own8 w1 base e A1 N c1 zs ∧ Chg (blk (.slice A0 n c0)) w w1 ∧ (∀ q, (Value.slice A1 N c1).ownBlock = some q → (Value.slice A0 n c0).ownBlock = some q ∨ q = w.heap.size) := by
  subst hN hz
  obtain ⟨i0, hi, hzz⟩ := Option.map_eq_some_iff.1 hinfo
  simp only [Prod.mk.injEq] at hzz
  obtain ⟨hz0, hz1, hz2⟩ := hzz
  have hxl : xs.length = n := H.byt.1
  have hw : IntKind.i64.wrap (k : Int) = k := by rw [IntKind.wrap_i64]; omega
  have grow : c0 < n + k → 0 < k → (∃ olds : List Value, olds = b8s xs ∧ (Builtin.firstCells i0.size n (.slice A0 n c0)).run P w.drew = .ok olds.toArray w.drew) →
      ∃ w1, (Builtin.append_ #[t, tn] o.type #[.slice A0 n c0, .int .i64 k]).run P w = .ok (.slice (some ⟨w.heap.size, 0, none⟩) (n + k) (grownCap w (n + k) c0 e)) w1 ∧ Own8 w1 base e (some ⟨w.heap.size, 0, none⟩) (n + k) (grownCap w (n + k) c0 e) (xs ++ List.replicate k 0) ∧ Chg [] w w1 := by
    rintro hg hk ⟨olds, rfl, hold⟩
    refine ⟨_, Lib.run_append_grow_zeros (P := P) w t tn o.type e i0 (.int .u8 0) .i64 kn ht htn hi hz0 A0 n c0 (b8s xs) hold k hk (by omega) hg (by omega) (by rw [hz2]; omega) (by
      rw [hz2]
      exact growslice_fits (bytes := 1) (by omega) (by omega)), ?_, ?_⟩
    · have hge := grownCap_ge w (n + k) c0 e
      have hcm : grownCap w (n + k) c0 e ≤ maxLen := grownCap_le_maxLen w (n + k) c0 e (by unfold maxLen; omega)
      have hz8 : (Value.int .u8 0).cells = #[.int .u8 0] := rfl
      refine own8 ⟨by rw [b8s_length, List.length_append, hxl, List.length_replicate]; omega, .inr ⟨w.heap.size, _, _, rfl, hbase, heap_alloc_new w.drew _, hge, hcm, ?_, ?_⟩⟩
      · rw [hz8, zeroCells_eq, zeroCells_eq]
        simp [b8s_length, hxl]
        omega
      · rw [hz8, zeroCells_eq, zeroCells_eq]
        simp only [Array.toList_append, b8s_append, List.append_assoc]
        rw [← List.append_assoc]
        have hlen : (b8s xs ++ b8s (List.replicate k 0)).length = (n + k) * 1 := by simp [b8s_length, hxl]
        rw [← hlen]
        exact List.take_left
    · exact ⟨rfl, rfl, rfl, by simp, fun q hq _ => Below.heap_alloc w.drew _ q hq⟩
  have fin : ∀ v1 w1, (Builtin.append_ #[t, tn] o.type #[.slice A0 n c0, .int .i64 k]).run P w = .ok v1 w1 → (execOp a.eval o).run P w = .ok (.value v1) w1 := by
    intro v1 w1 hr
    unfold execOp
    simp only [ho, resolve, invoke, builtin, Sem.run_bind, Sem.run_pure, Result.andThen_ok, List.map_toArray, List.map_cons, List.map_nil, hs, hx, hr]
  have same : k = 0 → (Builtin.append_ #[t, tn] o.type #[.slice A0 n c0, .int .i64 k]).run P w = .ok (.slice A0 (n + k) c0) w := by
    rintro rfl
    have hnc := H.nc
    have hw0 : IntKind.i64.wrap 0 = 0 := rfl
    cases A0 with
    | none => simp [Builtin.append_, run_underlying ht, run_underlying htn, Go.sizeOf, typeInfo, hi, asInt, asIntOf, hnc, hw0]
    | some ad => simp [Builtin.append_, run_underlying ht, run_underlying htn, Go.sizeOf, typeInfo, hi, asInt, asIntOf, hnc, hw0, storeCells]
  rcases Nat.eq_zero_or_pos k with h0 | hk
  · refine ⟨_, w, fin _ _ (same h0), A0, c0, rfl, ?_, (Chg.refl w).more (by simp), fun q hq => .inl ?_⟩
    · subst h0
      simpa using H
    · subst h0
      exact hq
  rcases H.own.2 with ⟨e0, h2⟩ | ⟨g, cap, cur, e0, hbg, hg, hnc, hcm, hcs, htake⟩
  · injection e0 with e1 e2 e3
    subst e1
    subst e3
    have hxs : xs = [] := List.eq_nil_of_length_eq_zero (by omega)
    obtain ⟨w1, h3, h4, h5⟩ := grow (by omega) hk ⟨[], by rw [hxs]; rfl, by simp [Builtin.firstCells]⟩
    exact ⟨_, w1, fin _ _ h3, _, _, rfl, h4, h5.more (by simp), fun q hq => .inr (by simpa [Value.ownBlock] using hq.symm)⟩
  · injection e0 with e1 e2 e3
    subst e1
    subst e3
    by_cases hroom : n + k ≤ c0
    · have hnz : ¬ k = 0 := by omega
      have hst := run_storeCells_at P g n e (b8s (List.replicate k 0)) 0 cur w hg (by rw [b8s_length, List.length_replicate]; omega) (b8s_one _)
      simp only [Nat.add_zero] at hst
      have hadd : (⟨g, 0, none⟩ : Addr).add n = ⟨g, n, none⟩ := by rw [Addr.add_mid]; simp
      have hz8 : (Value.int .u8 0).cells = #[.int .u8 0] := rfl
      have hneg : ¬ ((k : Int) < 0) := by omega
      have hbig : ¬ (281474976710656 < (k : Int)) := by omega
      have hr : (Builtin.append_ #[t, tn] o.type #[.slice (some ⟨g, 0, none⟩) n c0, .int .i64 k]).run P w = .ok (.slice (some ⟨g, 0, none⟩) (n + k) c0) (w.setRow g (cur.toList.take n ++ b8s (List.replicate k 0) ++ cur.toList.drop (n + (b8s (List.replicate k 0)).length)).toArray) := by
        simp [Builtin.append_, run_underlying ht, run_underlying htn, Go.sizeOf, typeInfo, zeroValue, hi, hz0, hz1, hz2, asInt, asIntOf, hw, hroom, hneg, hbig, hnz, hadd, hz8, zeroCells_eq, hst]
      refine ⟨_, _, fin _ _ hr, _, _, rfl, own8 ⟨by rw [b8s_length, List.length_append, hxl, List.length_replicate]; omega, .inr ⟨g, c0, _, rfl, hbg, setRow_heap w g cur _ e _ hg, hroom, hcm, ?_, ?_⟩⟩, ⟨rfl, rfl, rfl, by simp [World.setRow], fun q _ hq => setRow_other w g q _ (fun e => hq.mem g (by simp [blk, Value.ownBlock]) e)⟩, fun q hq => .inl hq⟩
      · simp only [List.size_toArray, List.length_append, List.length_take, List.length_drop, Array.length_toList, b8s_length, List.length_replicate]
        omega
      · have ht' : cur.toList.take n = b8s xs := by simpa using htake
        rw [ht']
        simp only [b8s_append]
        have hlen : (b8s xs ++ b8s (List.replicate k 0)).length = (n + k) * 1 := by simp [b8s_length, hxl]
        rw [← hlen]
        exact List.take_left
    · have holds : ∀ j u, (b8s xs)[j]? = some u → w.drew.cell? ((⟨g, 0, none⟩ : Addr).add j) = some u := fun j u hu => H.own.cells (g := g) rfl j u hu
      obtain ⟨w1, h3, h4, h5⟩ := grow (by omega) hk ⟨_, rfl, run_firstCells_some (P := P) w.drew i0.size n ⟨g, 0, none⟩ n c0 (b8s xs) (by rw [b8s_length, hxl, hz1]; omega) holds⟩
      exact ⟨_, w1, fin _ _ h3, _, _, rfl, h4, h5.more (by simp), fun q hq => .inr (by simpa [Value.ownBlock] using hq.symm)⟩
end
end Mur
namespace Mur
open Go Go.RowKit Wk
/-- An op: what it is, its file, its bytes, what a crash keeps. -/
structure Dop where
  kd : Int
  f : Int
  A : Option Addr
  m : Nat
  c : Nat
  b : List UInt8
  k0 : Int
  k1 : Int
def Dop.cells (x : Dop) : List Value := [.int .i64 x.kd, .int .i64 x.f, .slice x.A x.m x.c, .int .i64 x.k0, .int .i64 x.k1]
structure Dop.Ok (w : World) (x : Dop) : Prop where
  byt : Byt w x.A x.m x.b
  nc : x.m ≤ x.c
  cm : x.c ≤ 9223372036854775807
  nil : x.A = none → x.c = 0
def Dops (w : World) (A : Option Addr) (n : Nat) (L : List Dop) : Prop :=
  L.length = n ∧ (∀ x ∈ L, x.Ok w) ∧ (0 < n → ∃ g off, A = some ⟨g, off, none⟩ ∧ ∀ i x, L[i]? = some x → w.rangeAt g (off + i * 5) x.cells)
theorem Dops.at {w : World} {A : Option Addr} {n : Nat} {L : List Dop} (h : Dops w A n L) {k : Nat} (hk : k < n) : ∃ g off kd f B mb cb bs k0 k1, A = some ⟨g, off, none⟩ ∧ g < w.heap.size ∧ w.rangeAt g (off + k * 5) [.int .i64 kd, .int .i64 f, .slice B mb cb, .int .i64 k0, .int .i64 k1] ∧ Byt w B mb bs ∧ mb ≤ cb ∧ cb ≤ 9223372036854775807 ∧ (B = none → cb = 0) := by
  obtain ⟨h1, h2, h3⟩ := h
  obtain ⟨g, off, rfl, hc⟩ := h3 (by omega)
  obtain ⟨x, hx⟩ : ∃ x, L[k]? = some x := ⟨_, List.getElem?_eq_getElem (by omega)⟩
  have hok := h2 x (List.mem_of_getElem? hx)
  have q := hc k x hx
  have hg : g < w.heap.size := World.block_lt_of_cell? w ⟨g, off + k * 5 + 0, none⟩ (q 0 (.int .i64 x.kd) rfl)
  exact ⟨g, off, x.kd, x.f, x.A, x.m, x.c, x.b, x.k0, x.k1, rfl, hg, q, hok.byt, hok.nc, hok.cm, hok.nil⟩
theorem Dops.atW {w : World} {A : Option Addr} {n : Nat} {L : List Dop} (h : Dops w A n L) (hbig : ∀ x ∈ L, x.c ≤ 140737488351232) {k : Nat} (hk : k < n) : ∃ g off kd f B mb cb bs k0 k1, A = some ⟨g, off, none⟩ ∧ g < w.heap.size ∧ w.rangeAt g (off + k * 5) [.int .i64 kd, .int .i64 f, .slice B mb cb, .int .i64 k0, .int .i64 k1] ∧ Byt w B mb bs ∧ mb ≤ cb ∧ cb ≤ 9223372036854775807 ∧ (B = none → cb = 0) ∧ cb ≤ 140737488351232 := by
  obtain ⟨h1, h2, h3⟩ := h
  obtain ⟨g, off, rfl, hc⟩ := h3 (by omega)
  obtain ⟨x, hx⟩ : ∃ x, L[k]? = some x := ⟨_, List.getElem?_eq_getElem (by omega)⟩
  have hok := h2 x (List.mem_of_getElem? hx)
  have q := hc k x hx
  have hg : g < w.heap.size := World.block_lt_of_cell? w ⟨g, off + k * 5 + 0, none⟩ (q 0 (.int .i64 x.kd) rfl)
  exact ⟨g, off, x.kd, x.f, x.A, x.m, x.c, x.b, x.k0, x.k1, rfl, hg, q, hok.byt, hok.nc, hok.cm, hok.nil, hbig x (List.mem_of_getElem? hx)⟩
end Mur
namespace Mur
theorem put_keep0 (x y z : Fil) : (Dk.mk x y).put 0 z = ⟨z, y⟩ := rfl
theorem put_keep1 (x y z : Fil) : (Dk.mk x y).put 1 z = ⟨x, z⟩ := rfl
theorem app_keep0 (x y : Fil) (b : List UInt8) : ∃ c n, (Dk.mk x y).app 0 b = ⟨⟨c, n⟩, y⟩ := by
  unfold Dk.app
  split
  · exact ⟨x.b, x.n, rfl⟩
  · exact ⟨_, _, rfl⟩
theorem app_keep1 (x y : Fil) (b : List UInt8) : ∃ c n, (Dk.mk x y).app 1 b = ⟨x, ⟨c, n⟩⟩ := by
  unfold Dk.app
  split
  · exact ⟨y.b, y.n, rfl⟩
  · exact ⟨_, _, rfl⟩
end Mur
namespace Mur
open Go Go.RowKit Wk
/-- No block of both. -/
def Dj (F G : List Nat) : Prop := ∀ s ∈ F, s ∉ G
theorem Dj.off1 {F G : List Nat} (h : Dj F G) {s : Nat} (hs : s ∈ G) : Off s F := off_iff.2 fun _ ht e => h _ ht (e ▸ hs)
theorem Dj.off2 {F G : List Nat} (h : Dj F G) {s : Nat} (hs : s ∈ F) : Off s G := off_iff.2 fun _ ht e => h s hs (e ▸ ht)
theorem Dj.step1 {F F' G : List Nat} {B g C : Nat} (h : Dj F G) (no : NewOr B F F') (m : ∀ s ∈ G, g ≤ s ∧ s < C) (hB : C ≤ B) : Dj F' G := fun s hs hg => by
  rcases newOr_iff.1 no s hs with h1 | h1
  · exact h s h1 hg
  · have := m s hg; omega
theorem Dj.step2 {F G G' : List Nat} {B g C : Nat} (h : Dj F G) (no : NewOr B G G') (m : ∀ s ∈ F, g ≤ s ∧ s < C) (hB : C ≤ B) : Dj F G' := fun s hs hg => by
  rcases newOr_iff.1 no s hg with h1 | h1
  · exact h s hs h1
  · have := m s hs; omega
theorem app_len (d : Dk) (f : Int) (b : List UInt8) : (d.app f b).x.b.length ≤ d.x.b.length + b.length := by
  unfold Dk.app
  by_cases h : (b.length : Int) > 1048576 - ((d.fil f).b.length : Int)
  · rw [if_pos h]; omega
  · rw [if_neg h]
    unfold Dk.put Dk.fil
    split
    · simp
    · split <;> simp
theorem sync_len (d : Dk) (f : Int) : (d.sync f).x.b.length ≤ d.x.b.length := by
  unfold Dk.sync Dk.put Dk.fil
  split
  · simp
  · split <;> simp
theorem clear_len (d : Dk) (f : Int) : (d.clear f).x.b.length ≤ d.x.b.length := by
  unfold Dk.clear Dk.put
  split
  · simp
  · split <;> simp
theorem app_two (x y : Fil) (b : List UInt8) (k : Nat) : (⟨⟨x.b ++ b.take k ++ b.drop k, x.n⟩, y⟩ : Dk) = ⟨⟨x.b ++ b, x.n⟩, y⟩ := by rw [List.append_assoc, List.take_append_drop]
theorem crash_again {b : List UInt8} {n : Nat} (k : Int) (h : n ≤ b.length) : (Fil.crash ⟨b, n⟩ k).crash 0 = Fil.crash ⟨b, n⟩ k := by
  have h1 := left_le k h
  have h2 : (Fil.crash ⟨b, n⟩ k).left 0 = (⟨b, n⟩ : Fil).left k := by
    unfold Fil.crash
    generalize (⟨b, n⟩ : Fil).left k = m at *
    simp only [Fil.left]
    omega
  unfold Fil.crash at *
  rw [h2, List.take_take, Nat.min_self]
theorem app_fits0 (x y : Fil) (b : List UInt8) (n : Nat) (hb : b.length = n) (h : x.b.length + b.length ≤ 1048576) : Dk.appE ⟨x, y⟩ 0 n = 0 ∧ Dk.app ⟨x, y⟩ 0 b = ⟨⟨x.b ++ b, x.n⟩, y⟩ := by
  have h1 := app_fits ⟨x, y⟩ 0 b n hb (.inl rfl) (by show ¬ (n : Int) > 1048576 - (x.b.length : Int); omega)
  exact h1
theorem dsk_zero {e T : TypeId} {w : World} {g : Nat} (h : w.heap[g]? = some (.cells #[.slice none 0 0, .int .i64 0, .slice none 0 0, .int .i64 0] T (0, 0))) : DskF e T w g Dk.new [g] :=
  ⟨_, _, ⟨h, own_nil w (g + 1) e, own_nil w (g + 1) e, fun k hk => (by cases hk), ⟨Nat.le_refl _, by show (0 : Nat) ≤ _; omega⟩, ⟨Nat.le_refl _, by show (0 : Nat) ≤ _; omega⟩⟩, rfl⟩
theorem app_new (b : List UInt8) (n : Nat) (hb : b.length = n) (h : n ≤ 1000) : Dk.appE Dk.new 0 n = 0 ∧ Dk.app Dk.new 0 b = ⟨⟨b, 0⟩, ⟨[], 0⟩⟩ := app_fits0 ⟨[], 0⟩ ⟨[], 0⟩ b n hb (by show (0 : Nat) + b.length ≤ 1048576; omega)
theorem crash_again_d (d : Dk) (h : d.x.ok ∧ d.y.ok) (k0 k1 : Int) : (d.crash k0 k1).crash 0 0 = d.crash k0 k1 := by
  obtain ⟨⟨xb, xn⟩, ⟨yb, yn⟩⟩ := d
  show (⟨_, _⟩ : Dk) = ⟨_, _⟩
  congr 1
  · exact crash_again k0 h.1.1
  · exact crash_again k1 h.2.1
section
variable {P : Program} {w : World} {a : Act} {o : Oper}
/-- An int as a uint64. -/
theorem to_u64 (s t : TypeId) (x : Operand) (ho : o.op = .convert s t x) (hs : (P.underlying s).isSome = true) (ht : P.underlying t = some (.int .u64)) (k : IntKind) (z : Int) (hx : a.eval x = .int k z) :
    ∃ v w1, (execOp a.eval o).run P w = .ok (.value v) w1 ∧ ∃ u : Nat, v = .int .u64 (u : Int) ∧ w = w1 ∧ (u : Int) = IntKind.u64.wrap z := by
  have h0 : 0 ≤ IntKind.u64.wrap z := by
    simp only [IntKind.wrap]
    exact Int.emod_nonneg _ (by decide)
  have hk : P.intKind t = .u64 := by simp [Program.intKind, ht]
  refine ⟨_, w, ?_, (IntKind.u64.wrap z).toNat, rfl, rfl, Int.toNat_of_nonneg h0⟩
  have key : (convert s t (.int k z)).run P w = .ok (.int .u64 (IntKind.u64.wrap z)) w := by
    have := run_convert_int (P := P) (w := w) s t k z hs (by rw [ht, hk])
    rw [this, hk]
  unfold execOp
  simp only [ho, hx, Sem.run_bind, key, Result.andThen_ok, Sem.run_pure, Int.toNat_of_nonneg h0]
theorem conv_int (s t : TypeId) (x : Operand) (ho : o.op = .convert s t x) (hs : (P.underlying s).isSome = true) (k' : IntKind) (ht : P.underlying t = some (.int k')) (k : IntKind) (z : Int) (hx : a.eval x = .int k z) (hz : k'.wrap z = z) :
    (execOp a.eval o).run P w = .ok (.value (.int k' z)) w := by
  have hk : P.intKind t = k' := by simp [Program.intKind, ht]
  have key : (convert s t (.int k z)).run P w = .ok (.int k' z) w := by
    have := run_convert_int (P := P) (w := w) s t k z hs (by rw [ht, hk])
    rw [this, hk, hz]
  unfold execOp
  simp only [ho, hx, Sem.run_bind, key, Result.andThen_ok, Sem.run_pure]
theorem u64_nat {n : Nat} (h : n < 18446744073709551616) : IntKind.u64.wrap (n : Int) = (n : Int) := by
  have h1 : IntKind.u64.wrap (n : Int) = (n : Int) % 18446744073709551616 := rfl
  rw [h1, Int.emod_eq_of_lt (by omega) (by omega)]
theorem i64_nat {n : Nat} (h : n < 9223372036854775808) : IntKind.i64.wrap (n : Int) = (n : Int) := IntWalk.i64_in _ ⟨by omega, by omega⟩
/-- A remainder of two unsigned numbers. -/
theorem rem_u64 (t ty : TypeId) (x y : Operand) (ho : o.op = .binOp .rem t x y ty) (i n : Nat) (hx : a.eval x = .int .u64 (i : Int)) (hy : a.eval y = .int .u64 (n : Int)) (hn : 0 < n) :
    (execOp a.eval o).run P w = .ok (.value (.int .u64 ((i % n : Nat) : Int))) w := by
  have hne : ¬ n = 0 := by omega
  unfold execOp
  simp only [ho, hx, hy]
  simp [eqGuard, binOp, Op.intDiv, hne, Int.tmod_eq_emod_of_nonneg (show (0 : Int) ≤ (i : Int) by omega)]
theorem run_op_from (t : TypeId) (x y : Operand) (ho : o.op = .slice t x (some y) none none) (e : TypeId) (ht : P.underlying t = some (.slice e)) (hsz : (P.info? e).map (·.size) = some 1) (A : Option Addr) (n c l : Nat)
    (hx : a.eval x = .slice A n c) (hy : a.eval y = .int .i64 (l : Int)) (hl : l ≤ n) (hnc : n ≤ c) : (execOp a.eval o).run P w = .ok (.value (.slice (cutA A c l) (n - l) (c - l))) w := by
  unfold execOp
  simp only [ho, hx, hy, Option.map_some, Option.map_none, Sem.run_bind, run_cut_from t e ht hsz A n c l hl hnc, Result.andThen_ok, Sem.run_pure]
theorem byt_from {A : Option Addr} {n c : Nat} {l : List UInt8} (h : Byt w A n l) (k : Nat) (hk : k ≤ n) (hnc : n ≤ c) : Byt w (cutA A c k) (n - k) (l.drop k) := by
  have := h.cut k n hk (Nat.le_refl _) hnc
  rwa [List.take_of_length_le (by rw [h.1]; exact Nat.le_refl _)] at this
theorem cut_none' {A : Option Addr} {c k : Nat} (h : A = none → c = 0) : cutA A c k = none → c - k = 0 := fun e => by
  have := cut_none h e
  omega
/-- A remainder, back as an int. -/
theorem rem_i64 (s t : TypeId) (x : Operand) (ho : o.op = .convert s t x) (hs : (P.underlying s).isSome = true) (ht : P.underlying t = some (.int .i64)) (i n : Nat) (hn : n < 9223372036854775807) (hx : a.eval x = .int .u64 ((i % (n + 1) : Nat) : Int)) :
    ∃ v w1, (execOp a.eval o).run P w = .ok (.value v) w1 ∧ ∃ u : Nat, v = .int .i64 (u : Int) ∧ w = w1 ∧ u ≤ n := by
  have h := Nat.mod_lt i (show 0 < n + 1 by omega)
  exact ⟨_, w, conv_int s t x ho hs .i64 ht .u64 _ hx (i64_nat (by omega)), i % (n + 1), rfl, rfl, by omega⟩
end
end Mur
namespace Mur
open Go Go.RowKit Wk
theorem u8_zero {u : UInt8} (h : ((u.toNat : Nat) : Int) = 0) : u = 0 := UInt8.toNat_inj.1 (by show u.toNat = 0; omega)
theorem or_zero (u v : UInt8) : u ||| v = 0 ↔ u = 0 ∧ v = 0 := by
  constructor
  · intro h
    have h1 : u.toBitVec ||| v.toBitVec = 0 := by rw [← UInt8.toBitVec_or, h]; rfl
    have h2 := BitVec.or_eq_zero_iff.1 h1
    exact ⟨UInt8.toBitVec_inj.1 h2.1, UInt8.toBitVec_inj.1 h2.2⟩
  · rintro ⟨rfl, rfl⟩
    rfl
theorem xor_zero (u v : UInt8) : u ^^^ v = 0 ↔ u = v := by
  constructor
  · intro h
    have h1 : u.toBitVec ^^^ v.toBitVec = 0 := by rw [← UInt8.toBitVec_xor, h]; rfl
    exact UInt8.toBitVec_inj.1 (BitVec.xor_eq_zero_iff.1 h1)
  · rintro rfl
    exact UInt8.xor_self
theorem same_step {d d' : List UInt8} {n i : Nat} {u : UInt8} (hd : d.length = n) (hd' : d'.length = n) (hi : i < n) (hu : u = 0 ↔ d.take i = d'.take i) : u ||| (d.getD i 0 ^^^ d'.getD i 0) = 0 ↔ d.take (i + 1) = d'.take (i + 1) := by
  rw [or_zero, xor_zero, hu, List.take_succ_eq_append_getElem (by omega), List.take_succ_eq_append_getElem (by omega)]
  have e1 : d.getD i 0 = d[i]'(by omega) := by simp [List.getD_eq_getElem?_getD, show i < d.length by omega]
  have e2 : d'.getD i 0 = d'[i]'(by omega) := by simp [List.getD_eq_getElem?_getD, show i < d'.length by omega]
  rw [e1, e2]
  constructor
  · rintro ⟨h1, h2⟩
    rw [h1, h2]
  · intro h
    have := List.append_inj h (by simp; omega)
    exact ⟨this.1, by simpa using this.2⟩
theorem same_fin {d d' : List UInt8} {n : Nat} {u : UInt8} (hd : d.length = n) (hd' : d'.length = n) (hu : u = 0 ↔ d.take n = d'.take n) : u = 0 ↔ d = d' := by
  rw [hu, List.take_of_length_le (by omega), List.take_of_length_le (by omega)]
theorem set_same {d : List UInt8} {j : Nat} {t : UInt8} (h : t = 0) : d.set j (d.getD j 0 ^^^ t) = d := by
  subst h
  rw [UInt8.xor_zero]
  by_cases hj : j < d.length
  · simp [List.getD_eq_getElem?_getD, hj]
  · rw [List.set_eq_of_length_le (by omega)]
theorem set_other {d : List UInt8} {j : Nat} {t : UInt8} (hj : j < d.length) (h : ¬ t = 0) : ¬ d = d.set j (d.getD j 0 ^^^ t) := by
  intro e
  have h1 : d.getD j 0 = (d.set j (d.getD j 0 ^^^ t)).getD j 0 := congrArg (fun l => l.getD j 0) e
  have h2 : (d.set j (d.getD j 0 ^^^ t)).getD j 0 = d.getD j 0 ^^^ t := by
    simp [List.getD_eq_getElem?_getD, hj]
  rw [h2] at h1
  refine h ?_
  have h3 : d.getD j 0 ^^^ (d.getD j 0 ^^^ t) = 0 := by rw [← h1]; exact UInt8.xor_self
  rw [← UInt8.xor_assoc, UInt8.xor_self, UInt8.zero_xor] at h3
  exact h3
section
variable {P : Program}
theorem run_eql_no {T e : TypeId} (h : DigT P T e) (d d' : List UInt8) (hd : d.length = 32) (hd' : d'.length = 32) (he : ¬ d = d') (w : World) (x y : Operand) (ty : TypeId) {a : Act} {o : Oper} (ho : o.op = .binOp .eql T x y ty)
    (hx : a.eval x = .agg (b8s d).toArray) (hy : a.eval y = .agg (b8s d').toArray) : (execOp a.eval o).run P w = .ok (.value (.bool false)) w := by
  rw [run_eql_dig h d d' hd hd' w x y ty a o ho hx hy, decide_eq_false he]
theorem run_eql_yes {T e : TypeId} (h : DigT P T e) (d d' : List UInt8) (hd : d.length = 32) (hd' : d'.length = 32) (he : d = d') (w : World) (x y : Operand) (ty : TypeId) {a : Act} {o : Oper} (ho : o.op = .binOp .eql T x y ty)
    (hx : a.eval x = .agg (b8s d).toArray) (hy : a.eval y = .agg (b8s d').toArray) : (execOp a.eval o).run P w = .ok (.value (.bool true)) w := by
  rw [run_eql_dig h d d' hd hd' w x y ty a o ho hx hy, decide_eq_true he]
end
end Mur
namespace Go.Proofs.YtfhneademopciaaDoor
open Go.RowKit
def n64s (l : List Nat) : Array Value := (l.map fun x : Nat => Value.int .u64 (x : Int)).toArray
theorem cell_n64s {w : World} {g t i : Nat} {fr : Nat × Nat} {l : List Nat} (h : w.heap[g]? = some (.cells (n64s l) t fr)) (hi : i < l.length) : w.cell? ⟨g, i, none⟩ = some (.int .u64 ((l.getD i 0 : Nat) : Int)) := by
  rw [cell_of_row w g i _ t _ h]
  simp [n64s, List.getD_eq_getElem?_getD, hi]
theorem set_n64s {w : World} {g t i : Nat} {l : List Nat} (h : w.heap[g]? = some (.cells (n64s l) t (0, 0))) (x : Nat) : (w.setCell ⟨g, i, none⟩ (.int .u64 (x : Int))).heap[g]? = some (.cells (n64s (l.set i x)) t (0, 0)) := by
  rw [heap_setCell_same w g i _ t _ h]
  simp [n64s, List.map_set]
theorem n64s_all (l : List Nat) : (n64s l).all (·.oneCell') = true := by simp [n64s, Value.oneCell']
theorem n64s_size (l : List Nat) : (n64s l).size = l.length := by simp [n64s]
theorem getD_lt {l : List Nat} {B : Nat} (hB : 0 < B) (h : ∀ x ∈ l, x < B) (i : Nat) : l.getD i 0 < B := by
  rw [List.getD_eq_getElem?_getD]
  cases hq : l[i]? with
  | none => simpa using hB
  | some x => exact h x (List.mem_of_getElem? hq)
theorem ret_bool {a b : Bool} (h : a = b) : Ending.returned (.bool a) = .returned (.bool b) := by rw [h]
theorem primeB_of {n k : Nat} (h : ∀ j, 2 ≤ j → j < k → n % j ≠ 0) (hsq : n < k * k) : Mur.primeB n = decide (1 < n) := by
  have hall : ((List.range n).all fun j => decide (j < 2) || decide (n < j * j) || n % j != 0) = true := by
    rw [List.all_eq_true]
    intro j _
    by_cases h2 : j < 2
    · simp [h2]
    · by_cases hj : j < k
      · have := h j (by omega) hj
        simp [this]
      · have : k * k ≤ j * j := Nat.mul_le_mul (by omega) (by omega)
        simp [show n < j * j by omega]
  unfold Mur.primeB
  rw [hall, Bool.and_true]
theorem primeB_not {n k : Nat} (hk : 2 ≤ k) (hsq : k * k ≤ n) (hd : n % k = 0) : Mur.primeB n = false := by
  have hlt : k < n := by
    have : 2 * k ≤ k * k := Nat.mul_le_mul_right _ hk
    omega
  unfold Mur.primeB
  rw [Bool.and_eq_false_iff]
  right
  rw [List.all_eq_false]
  exact ⟨k, List.mem_range.2 hlt, by simp [hd, show ¬ k < 2 by omega, show ¬ n < k * k by omega]⟩
set_option maxRecDepth 100000
theorem prime_any (n : Nat) (w : World) (hn : n ≤ 400) : Calls Tryd.prog 84 #[.int .i64 (n : Int)] w fun e w' => e = .returned (.bool (Mur.primeB n)) ∧ w = w' := by
  go_enter Tryd.func84, Tryd.ntmps84
  go_wp2
  go_loop [3] (fun v => ∃ k : Nat, 2 ≤ k ∧ k ≤ n + 2 ∧ v = .int .i64 k ∧ Hid (∀ j, 2 ≤ j → j < k → n % j ≠ 0)) (fun v => n + 3 - (intOf v).toNat)
  case atStart => exact ⟨2, by omega, by omega, rfl, fun j h1 h2 => by omega⟩
  case round =>
    obtain ⟨k, hk2, hkn, rfl, hno⟩ := hrel
    have b1 : (k : Int) * (k : Int) ≤ 1000000 := by
      have : k * k ≤ 402 * 402 := Nat.mul_le_mul (by omega) (by omega)
      have h : ((k * k : Nat) : Int) ≤ 1000000 := by omega
      rwa [Int.natCast_mul] at h
    have b0 : 0 ≤ (k : Int) * (k : Int) := Int.mul_nonneg (by omega) (by omega)
    by_cases hsq : k * k ≤ n
    · have hsq' : (k : Int) * (k : Int) ≤ (n : Int) := by
        have h : ((k * k : Nat) : Int) ≤ (n : Int) := by omega
        rwa [Int.natCast_mul] at h
      by_cases hd : n % k = 0
      · have hp := primeB_not hk2 hsq hd
        have HP := Go.Lib.hid hp; clear hp
        have hd' : ((n : Int) % (k : Int) == 0) = true := by rw [beq_iff_eq]; omega
        clear hsq hd
        go_wp2
        go_ret
        exact ⟨by rw [HP.out]; rfl, rfl⟩
      · have hd' : ((n : Int) % (k : Int) == 0) = false := by rw [beq_eq_false_iff_ne]; omega
        have HD := Go.Lib.hid hd; clear hd
        have HS := Go.Lib.hid hsq; clear hsq
        go_wp2
        refine ⟨⟨k + 1, by omega, ?_, by go_num, fun j h1 h2 => ?_⟩, by simp [intOf]; omega⟩
        · have : 2 * k ≤ k * k := Nat.mul_le_mul_right _ hk2
          have := HS.out
          omega
        · by_cases e : j = k
          · rw [e]; exact HD.out
          · exact hno.out j h1 (by omega)
    · have hsq' : (n : Int) < (k : Int) * (k : Int) := by
        have h : (n : Int) < ((k * k : Nat) : Int) := by omega
        rwa [Int.natCast_mul] at h
      have hp := primeB_of hno.out (by omega)
      have HP := Go.Lib.hid hp; clear hp hno hsq
      go_wp2
      go_ret
      exact ⟨ret_bool (by rw [HP.out, decide_eq_decide]; omega), rfl⟩
/-- digits: of a number below 2^48. -/
def L3 (w : World) (d e : List Nat) (wr : World) : Prop :=
  Below w.heap.size w wr ∧ wr.heap.size = w.heap.size + 2 ∧ wr.heap[w.heap.size]? = some (.cells (n64s d) 132 (0, 0)) ∧ wr.heap[w.heap.size + 1]? = some (.cells (n64s e) 132 (0, 0))
theorem L3.set {w wr : World} {d e : List Nat} (h : L3 w d e wr) (k x : Nat) : L3 w d (e.set k x) (wr.setCell ⟨w.heap.size + 1, k, none⟩ (.int .u64 (x : Int))) :=
  ⟨h.1.setCell (by simp) _, by simpa using h.2.1, Mur.hp_set_ne h.2.2.1 _ _ _ (by omega), set_n64s h.2.2.2 x⟩
def digTo4 (n k : Nat) : List Nat := (Mur.dgs 10 n).take k ++ List.replicate (10 - k) 0
theorem digTo4_succ (n k : Nat) (h : k < 10) : digTo4 n (k + 1) = (digTo4 n k).set k (n / 65536 ^ k % 65536) := by
  have hl := Mur.dgs_length 10 n
  have hq : k < (Mur.dgs 10 n).length := by omega
  have hg : (Mur.dgs 10 n)[k] = n / 65536 ^ k % 65536 := by
    rw [← Mur.dgs_getD 10 n k h, List.getD_eq_getElem?_getD, List.getElem?_eq_getElem hq]
    rfl
  have hlt : ((Mur.dgs 10 n).take k).length = k := by rw [List.length_take]; omega
  rw [digTo4, digTo4, List.take_succ_eq_append_getElem hq, hg, show 10 - k = (10 - (k + 1)) + 1 by omega, List.replicate_succ, List.set_append_right _ _ (by omega), hlt, Nat.sub_self, List.set_cons_zero, List.append_assoc]
  rfl
theorem digTo4_length (n k : Nat) (h : k ≤ 10) : (digTo4 n k).length = 10 := by simp [digTo4, Mur.dgs_length]; omega
theorem digTo4_four (n : Nat) (h : n < 281474976710656) : digTo4 n 4 = Mur.dgs 10 n := by
  have e := Mur.dgs_small 4 6 n (by omega)
  have hl := Mur.dgs_length 4 n
  unfold digTo4
  rw [e, List.take_append_of_le_length (by omega), List.take_of_length_le (by omega)]
theorem digits_any (n : Nat) (w : World) (hn : n < 281474976710656) : Calls Tryd.prog 85 #[.int .u64 (n : Int)] w
    fun e w' => ∃ l, Hid (l = Mur.dgs 10 n) ∧ l.length = 10 ∧ (∀ x ∈ l, x < 65536) ∧ e = .returned (.agg (n64s l)) ∧ Below w.heap.size w w' := by
  go_enter Tryd.func85, Tryd.ntmps85
  go_wp2
  go_loopw [0, 4] (fun v t wr => ∃ k m : Nat, k ≤ 4 ∧ t = .int .i64 k ∧ m ≤ n ∧ Hid (m = n / 65536 ^ k) ∧ v = .int .u64 (m : Int) ∧ L3 w (List.replicate 10 0) (digTo4 n k) wr) (fun _ t _ => 4 - (intOf t).toNat)
  case atStart =>
    refine ⟨0, n, by omega, rfl, Nat.le_refl _, Go.Lib.hid (by simp), rfl, ((Below.refl _ _).alloc (Nat.le_refl _) _).alloc (by simp) _, by simp, ?_, ?_⟩
    · exact (Mur.hp_old (Mur.hp_a1 _ _) _).trans rfl
    · exact (Mur.hp_a2 _ _ _).trans rfl
  case round =>
    obtain ⟨k, m, hk, rfl, hm, hmk, rfl, HL⟩ := hrel
    by_cases hlt : k < 4
    · have cd := cell_n64s (i := k) HL.2.2.2 (by rw [digTo4_length _ _ (by omega)]; omega)
      have fd := Mur.free_row (i := k) HL.2.2.2
      go_wp2
      refine ⟨⟨k + 1, m / 65536, by omega, by go_num, by omega, Go.Lib.hid (by rw [hmk.out, Nat.div_div_eq_div_mul, Nat.pow_succ]), by go_num, ?_⟩, by simp [intOf]; omega⟩
      rw [digTo4_succ n k (by omega), ← hmk.out]
      exact HL.set k (m % 65536)
    · obtain rfl : k = 4 := by omega
      have hz : (n64s (digTo4 n 4)).size = 10 := by rw [n64s_size, digTo4_length _ _ (by omega)]
      have hd : digTo4 n 4 = Mur.dgs 10 n := digTo4_four n hn
      have HD := Go.Lib.hid hd; clear hd
      have HZ := Go.Lib.hid hz; clear hz
      go_wp2_with (first
        | (refine wpList_load_row rfl 132 (.tmp 3) rfl (w.heap.size + 1) rfl 132 (n64s (digTo4 n 4)) (0, 0) _ HL.2.2.2 Tryd.underlying132 rfl (by rw [HZ.out]; kernel_rfl) ?_)
        | (refine wpList_store_row rfl 132 (.tmp 2) (.tmp 15) rfl w.heap.size (n64s (digTo4 n 4)) rfl rfl 132 (n64s (List.replicate 10 0)) HL.2.2.1 (by rw [HZ.out]; kernel_rfl) (by rw [HZ.out]; rfl) (n64s_all _) ?_))
      refine bodyPost_ret (v := .agg (n64s (digTo4 n 4))) (results_cell_row rfl _ _ w.heap.size 132 (n64s (digTo4 n 4)) (0, 0) _ rfl (setRow_heap _ _ _ _ _ _ HL.2.2.1) Tryd.underlying132 rfl (by rw [HZ.out]; kernel_rfl)) rfl ⟨_, HD, digTo4_length _ _ (by omega), ?_, rfl, below_setRow HL.1 (Nat.le_refl _) _⟩
      rw [HD.out]
      exact Mur.dgs_lt 10 n
end Go.Proofs.YtfhneademopciaaDoor
namespace Go.Proofs.YtfhneademopciaaDoor
open Go.RowKit
def L5 (w : World) (a b : List Nat) (wr : World) : Prop :=
  Below w.heap.size w wr ∧ w.heap.size + 2 ≤ wr.heap.size ∧ wr.heap[w.heap.size]? = some (.cells (n64s a) 132 (0, 0)) ∧ wr.heap[w.heap.size + 1]? = some (.cells (n64s b) 132 (0, 0))
theorem L5.drewN {w wr : World} {a b : List Nat} (h : L5 w a b wr) (n : Nat) : L5 w a b (wr.drewN n) := ⟨Mur.below_drewN h.1 n, h.2.1, h.2.2.1, h.2.2.2⟩
set_option maxRecDepth 100000
theorem above_any (a b : List Nat) (w : World) (ha : a.length = 10) (hb : b.length = 10) (ha' : ∀ x ∈ a, x < 65536) (hb' : ∀ x ∈ b, x < 65536) :
    Calls Tryd.prog 87 #[.agg (n64s a), .agg (n64s b)] w fun e w' => e = .returned (.bool (decide (Mur.val b < Mur.val a))) ∧ Below w.heap.size w w' := by
  have HA := Go.Lib.hid ha; clear ha
  have HB := Go.Lib.hid hb; clear hb
  have HA' := Go.Lib.hid ha'; clear ha'
  have HB' := Go.Lib.hid hb'; clear hb'
  go_enter Tryd.func87, Tryd.ntmps87
  go_wp2
  go_loopw [5] (fun v wr => ∃ (k : Nat) (iv : Int), k ≤ 10 ∧ v = .int .i64 iv ∧ Hid (iv = (k : Int) - 1) ∧ Hid (a.drop k = b.drop k) ∧ L5 w a b wr) (fun v _ => (intOf v + 1).toNat)
  case atStart =>
    refine ⟨10, 9, by omega, rfl, Go.Lib.hid (by omega), Go.Lib.hid ?_, ((Below.refl _ _).alloc (Nat.le_refl _) _).alloc (by simp) _, by simp, ?_, ?_⟩
    · rw [List.drop_of_length_le (by rw [HA.out]; exact Nat.le_refl _), List.drop_of_length_le (by rw [HB.out]; exact Nat.le_refl _)]
    · exact Mur.hp_old (Mur.hp_a1 _ _) _
    · exact Mur.hp_a2 _ _ _
  case round =>
    obtain ⟨k, iv, hk, rfl, hiv, hd, HL⟩ := hrel
    rcases Nat.eq_zero_or_pos k with h0 | h0
    · have hn : iv < 0 := by have := hiv.out; omega
      have hf : Hid (decide (Mur.val b < Mur.val a) = false) := Go.Lib.hid (by
        have := hd.out
        rw [h0, List.drop_zero, List.drop_zero] at this
        simp [this])
      clear h0
      go_wp2
      go_ret
      exact ⟨ret_bool hf.out.symm, HL.1⟩
    · obtain ⟨m, rfl⟩ : ∃ m, k = m + 1 := ⟨k - 1, by omega⟩
      obtain rfl : iv = (m : Int) := by have := hiv.out; omega
      have ca := cell_n64s (i := m) HL.2.2.1 (by rw [HA.out]; omega)
      have cb := cell_n64s (i := m) HL.2.2.2 (by rw [HB.out]; omega)
      obtain ⟨x, hx⟩ : ∃ x, a.getD m 0 = x := ⟨_, rfl⟩
      obtain ⟨y, hy⟩ : ∃ y, b.getD m 0 = y := ⟨_, rfl⟩
      rw [hx] at ca
      rw [hy] at cb
      have HX := Go.Lib.hid hx; clear hx
      have HY := Go.Lib.hid hy; clear hy
      by_cases e : x = y
      · have e' : ((x : Int) != (y : Int)) = false := by rw [bne_eq_false_iff_eq]; omega
        have E := Go.Lib.hid e; clear e
        go_wp2
        go_quiet (fail)
        go_wp2
        refine ⟨⟨m, (m : Int) - 1, by omega, by go_num, Go.Lib.hid rfl, Go.Lib.hid ?_, HL.drewN _⟩, by simp [intOf]⟩
        exact Mur.drop_step a b m (by rw [HA.out]; omega) (by rw [HA.out, HB.out]) hd.out (by rw [HX.out, HY.out]; exact E.out)
      · have e' : ((x : Int) != (y : Int)) = true := by rw [bne_iff_ne]; omega
        have hres : Hid (decide (Mur.val b < Mur.val a) = decide (y < x)) := Go.Lib.hid (by
          rw [decide_eq_decide]
          have hla : a.length = b.length := by rw [HA.out, HB.out]
          constructor
          · intro h
            rcases Nat.lt_or_ge y x with h' | h'
            · omega
            · have := Mur.val_gt b a m hla.symm (by rw [HB.out]; omega) HA'.out hd.out.symm (by rw [HX.out, HY.out]; omega)
              omega
          · intro h
            exact Mur.val_gt a b m hla (by rw [HA.out]; omega) HB'.out hd.out (by rw [HX.out, HY.out]; omega))
        clear e
        go_wp2
        go_quiet (fail)
        go_wp2
        go_quiet (fail)
        go_wp2
        go_ret
        exact ⟨ret_bool (by rw [hres.out]), ((HL.drewN _).drewN _).1⟩
/-! times -/
def Dig (l : List Nat) : Prop := l.length = 10 ∧ ∀ x ∈ l, x < 65536
theorem Dig.set {l : List Nat} (h : Dig l) (k x : Nat) (hx : x < 65536) : Dig (l.set k x) :=
  ⟨by rw [List.length_set]; exact h.1, fun y hy => by
    rcases List.mem_or_eq_of_mem_set hy with h1 | h1
    · exact h.2 y h1
    · rw [h1]; exact hx⟩
def L6 (w : World) (a b o : List Nat) (wr : World) : Prop :=
  Below w.heap.size w wr ∧ w.heap.size + 4 ≤ wr.heap.size ∧ wr.heap[w.heap.size]? = some (.cells (n64s a) 132 (0, 0)) ∧ wr.heap[w.heap.size + 1]? = some (.cells (n64s b) 132 (0, 0)) ∧
  wr.heap[w.heap.size + 1 + 1]? = some (.cells (n64s (List.replicate 10 0)) 132 (0, 0)) ∧ wr.heap[w.heap.size + 1 + 1 + 1]? = some (.cells (n64s o) 132 (0, 0))
theorem L6.drewN {w wr : World} {a b o : List Nat} (h : L6 w a b o wr) (n : Nat) : L6 w a b o (wr.drewN n) := ⟨Mur.below_drewN h.1 n, h.2.1, h.2.2.1, h.2.2.2.1, h.2.2.2.2.1, h.2.2.2.2.2⟩
theorem L6.set {w wr : World} {a b o : List Nat} (h : L6 w a b o wr) (k x : Nat) : L6 w a b (o.set k x) (wr.setCell ⟨w.heap.size + 1 + 1 + 1, k, none⟩ (.int .u64 (x : Int))) :=
  ⟨h.1.setCell (by simp; omega) _, by simpa using h.2.1, Mur.hp_set_ne h.2.2.1 _ _ _ (by omega), Mur.hp_set_ne h.2.2.2.1 _ _ _ (by omega), Mur.hp_set_ne h.2.2.2.2.1 _ _ _ (by omega), set_n64s h.2.2.2.2.2 x⟩
theorem hp_a4 (w : World) (A B C D : Obj) : ((((w.alloc A).alloc B).alloc C).alloc D).heap[w.heap.size + 1 + 1 + 1]? = some D := by
  have h := Mur.hp_a3 (w.alloc A) B C D
  rwa [World.size_alloc] at h
/-- What the inner loop keeps. -/
theorem inner_step {a b o : List Nat} {i k V0 carry x : Nat} (ho : o.length = 10) (hb : b.length = 10) (hik : i + k < 10) (hx : x = o.getD (i + k) 0 + a.getD i 0 * b.getD k 0 + carry)
    (h : Mur.val o + carry * 65536 ^ (i + k) = V0 + a.getD i 0 * Mur.val (b.take k) * 65536 ^ i) :
    Mur.val (o.set (i + k) (x % 65536)) + x / 65536 * 65536 ^ (i + (k + 1)) = V0 + a.getD i 0 * Mur.val (b.take (k + 1)) * 65536 ^ i := by
  have h1 := Mur.times_step o (i + k) x carry (a.getD i 0 * b.getD k 0) (by omega) hx
  rw [show i + (k + 1) = i + k + 1 by omega, h1, h, Mur.val_take_succ b k (by omega), Nat.mul_add, Nat.add_mul, Nat.pow_add]
  have e : a.getD i 0 * b.getD k 0 * (65536 ^ i * 65536 ^ k) = a.getD i 0 * (b.getD k 0 * 65536 ^ k) * 65536 ^ i := by
    simp only [Nat.mul_assoc, Nat.mul_comm (65536 ^ i)]
  omega
theorem outer_step {a b : List Nat} {i V0 v : Nat} (ha : a.length = 10) (hi : i < 10) (h0 : V0 % 65536 ^ 10 = (Mur.val (a.take i) * Mur.val b) % 65536 ^ 10)
    (h : v % 65536 ^ 10 = (V0 + a.getD i 0 * Mur.val b * 65536 ^ i) % 65536 ^ 10) : v % 65536 ^ 10 = (Mur.val (a.take (i + 1)) * Mur.val b) % 65536 ^ 10 := by
  rw [h, Mur.val_take_succ a i (by omega), Nat.add_mul, Nat.add_mod, h0, ← Nat.add_mod]
  congr 2
  simp only [Nat.mul_assoc, Nat.mul_comm (65536 ^ i)]
set_option maxHeartbeats 1000000
theorem times_any (a b : List Nat) (w : World) (ha : Dig a) (hb : Dig b) :
    Calls Tryd.prog 86 #[.agg (n64s a), .agg (n64s b)] w
      fun e w' => ∃ l, Hid (Mur.val l % 65536 ^ 10 = Mur.val a * Mur.val b % 65536 ^ 10) ∧ Dig l ∧ e = .returned (.agg (n64s l)) ∧ Below w.heap.size w w' := by
  have HA := Go.Lib.hid ha; clear ha
  have HB := Go.Lib.hid hb; clear hb
  go_enter Tryd.func86, Tryd.ntmps86
  go_wp2
  go_loopw [6] (fun v wr => ∃ (i : Nat) (o : List Nat), i ≤ 10 ∧ v = .int .i64 i ∧ Hid (Dig o) ∧ Hid (Mur.val o % 65536 ^ 10 = Mur.val (a.take i) * Mur.val b % 65536 ^ 10) ∧ L6 w a b o wr) (fun v _ => 10 - (intOf v).toNat)
  case atStart =>
    refine ⟨0, List.replicate 10 0, by omega, rfl, Go.Lib.hid ⟨rfl, by decide⟩, Go.Lib.hid ?_, (((Below.refl _ _).alloc (Nat.le_refl _) _).alloc (by simp) _).alloc (by simp; omega) _ |>.alloc (by simp; omega) _, by simp, ?_, ?_, ?_, ?_⟩
    · rw [List.take_zero]; simp [Mur.val]
    · exact Mur.hp_old (Mur.hp_old (Mur.hp_old (Mur.hp_a1 _ _) _) _) _
    · exact Mur.hp_old (Mur.hp_old (Mur.hp_a2 _ _ _) _) _
    · exact Mur.hp_old ((Mur.hp_a3 _ _ _ _).trans rfl) _
    · exact (hp_a4 _ _ _ _ _).trans rfl
  case round =>
    obtain ⟨i, o, hi, rfl, hdo, hval, HL⟩ := hrel
    by_cases hlt : i < 10
    · go_wp2
      go_loopw [7, 8] (fun cv kv wq => ∃ (k c : Nat) (q : List Nat), i + k ≤ 10 ∧ kv = .int .i64 k ∧ cv = .int .u64 (c : Int) ∧ c < 65536 ∧ Hid (Dig q) ∧ Hid (Mur.val q + c * 65536 ^ (i + k) = Mur.val o + a.getD i 0 * Mur.val (b.take k) * 65536 ^ i) ∧ L6 w a b q wq) (fun _ kv _ => 10 - i - (intOf kv).toNat)
      case atStart => exact ⟨0, 0, o, by omega, rfl, rfl, by omega, hdo, Go.Lib.hid (by simp [Mur.val]), HL⟩
      case round =>
        clear HL
        obtain ⟨k, c, q, hik, rfl, rfl, hc, hdq, hinv, HL⟩ := hrel
        by_cases hlt2 : i + k < 10
        · have co := cell_n64s (i := i + k) HL.2.2.2.2.2 (by rw [hdq.out.1]; omega)
          have fo := Mur.free_row (i := i + k) HL.2.2.2.2.2
          have ca := cell_n64s (i := i) HL.2.2.1 (by rw [HA.out.1]; omega)
          have cb := cell_n64s (i := k) HL.2.2.2.1 (by rw [HB.out.1]; omega)
          have lo := getD_lt (by omega) hdq.out.2 (i + k)
          have la := getD_lt (by omega) HA.out.2 i
          have lb := getD_lt (by omega) HB.out.2 k
          obtain ⟨xo, ho⟩ : ∃ x, q.getD (i + k) 0 = x := ⟨_, rfl⟩
          obtain ⟨xa, hxa⟩ : ∃ x, a.getD i 0 = x := ⟨_, rfl⟩
          obtain ⟨xb, hxb⟩ : ∃ x, b.getD k 0 = x := ⟨_, rfl⟩
          rw [ho] at co lo
          rw [hxa] at ca la
          rw [hxb] at cb lb
          have HXO := Go.Lib.hid ho; clear ho
          have HXA := Go.Lib.hid hxa; clear hxa
          have HXB := Go.Lib.hid hxb; clear hxb
          have b0 : 0 ≤ (xa : Int) * (xb : Int) := Int.mul_nonneg (by omega) (by omega)
          have b1 : (xa : Int) * (xb : Int) ≤ 4294836225 := by
            have : xa * xb ≤ 65535 * 65535 := Nat.mul_le_mul (by omega) (by omega)
            have h : ((xa * xb : Nat) : Int) ≤ 4294836225 := by omega
            rwa [Int.natCast_mul] at h
          obtain ⟨X, HX⟩ : ∃ X : Nat, Hid ((X : Int) = (xo : Int) + (xa : Int) * (xb : Int) + (c : Int)) := ⟨xo + xa * xb + c, Go.Lib.hid (by rw [Int.natCast_add, Int.natCast_add, Int.natCast_mul])⟩
          have HXn : Hid (X = q.getD (i + k) 0 + a.getD i 0 * b.getD k 0 + c) := Go.Lib.hid (by
            have := HX.out
            rw [HXO.out, HXA.out, HXB.out]
            have h2 : ((xa * xb : Nat) : Int) = (xa : Int) * (xb : Int) := Int.natCast_mul _ _
            omega)
          have hXl : Hid (X < 4295032833) := Go.Lib.hid (by have := HX.out; omega)
          have hXr : (xo : Int) + (xa : Int) * (xb : Int) + (c : Int) = (X : Int) := HX.out.symm
          go_wp2
          go_quiet (fail)
          go_wp2
          refine ⟨⟨k + 1, X / 65536, q.set (i + k) (X % 65536), by omega, by go_num, by go_num, by have := hXl.out; omega, Go.Lib.hid (hdq.out.set _ _ (Nat.mod_lt _ (by omega))), Go.Lib.hid (inner_step hdq.out.1 HB.out.1 hlt2 HXn.out hinv.out), (HL.drewN _).set _ _⟩, by simp [intOf]; omega⟩
        · obtain rfl : k = 10 - i := by omega
          have hrow : Hid (Mur.val q % 65536 ^ 10 = Mur.val (a.take (i + 1)) * Mur.val b % 65536 ^ 10) := Go.Lib.hid (by
            have h := hinv.out
            rw [show i + (10 - i) = 10 by omega] at h
            exact outer_step HA.out.1 hlt hval.out (Mur.times_row q a b i _ c (by omega) h))
          clear hinv hval
          go_wp2
          refine ⟨⟨i + 1, q, by omega, by go_num, hdq, hrow, HL⟩, by simp [intOf]; omega⟩
    · obtain rfl : i = 10 := by omega
      have hres : Hid (Mur.val o % 65536 ^ 10 = Mur.val a * Mur.val b % 65536 ^ 10) := Go.Lib.hid (by
        have := hval.out
        rwa [List.take_of_length_le (by rw [HA.out.1]; exact Nat.le_refl _)] at this)
      clear hval
      have hz : Hid ((n64s o).size = 10) := Go.Lib.hid (by rw [n64s_size, hdo.out.1])
      go_wp2_with (first
        | (refine wpList_load_row rfl 132 (.tmp 5) rfl (w.heap.size + 1 + 1 + 1) rfl 132 (n64s o) (0, 0) _ HL.2.2.2.2.2 Tryd.underlying132 rfl (by rw [hz.out]; kernel_rfl) ?_)
        | (refine wpList_store_row rfl 132 (.tmp 4) (.tmp 43) rfl (w.heap.size + 1 + 1) (n64s o) rfl rfl 132 (n64s (List.replicate 10 0)) HL.2.2.2.2.1 (by rw [hz.out]; kernel_rfl) (by rw [hz.out]; rfl) (n64s_all _) ?_))
      refine bodyPost_ret (v := .agg (n64s o)) (results_cell_row rfl _ _ (w.heap.size + 1 + 1) 132 (n64s o) (0, 0) _ rfl (setRow_heap _ _ _ _ _ _ HL.2.2.2.2.1) Tryd.underlying132 rfl (by rw [hz.out]; kernel_rfl)) rfl ⟨o, hres, hdo.out, rfl, below_setRow HL.1 (by omega) _⟩
end Go.Proofs.YtfhneademopciaaDoor
