/- A disk as the document has it, and how one lies. No program in sight. -/
import Derived.Test.YtddabjlhidokaaaBytes
import Derived.Test.YtddabjlhidokaaaWkM
import Derived.Lib.SlBytesConst
namespace Mur
open Go Go.RowKit Wk
structure Fil where
  b : List UInt8
  n : Nat
structure Dk where
  x : Fil
  y : Fil
def Fil.ok (z : Fil) : Prop := z.n ≤ z.b.length ∧ z.b.length ≤ 1048576
def Dk.fil (d : Dk) (f : Int) : Fil := if f = 0 then d.x else d.y
def Dk.put (d : Dk) (f : Int) (z : Fil) : Dk := if f = 0 then ⟨z, d.y⟩ else if f = 1 then ⟨d.x, z⟩ else d
def hasF (f : Int) : Prop := f = 0 ∨ f = 1
instance (f : Int) : Decidable (hasF f) := by unfold hasF; infer_instance
def Dk.appE (d : Dk) (f : Int) (n : Nat) : Int := if hasF f then (if (n : Int) > 1048576 - ((d.fil f).b.length : Int) then 8 else 0) else 2
def Dk.app (d : Dk) (f : Int) (b : List UInt8) : Dk := if (b.length : Int) > 1048576 - ((d.fil f).b.length : Int) then d else d.put f ⟨(d.fil f).b ++ b, (d.fil f).n⟩
def fE (f : Int) : Int := if hasF f then 0 else 2
def Dk.sync (d : Dk) (f : Int) : Dk := d.put f ⟨(d.fil f).b, (d.fil f).b.length⟩
def Dk.clear (d : Dk) (f : Int) : Dk := d.put f ⟨[], 0⟩
def Dk.bytes (d : Dk) (f : Int) : List UInt8 := if hasF f then (d.fil f).b else []
def Dk.synced (d : Dk) (f : Int) : Nat := if hasF f then (d.fil f).n else 0
/-- How many bytes a crash leaves. -/
def Fil.left (z : Fil) (k : Int) : Nat := z.n + min k.toNat (z.b.length - z.n)
def Fil.crash (z : Fil) (k : Int) : Fil := ⟨z.b.take (z.left k), z.left k⟩
def Dk.crash (d : Dk) (k0 k1 : Int) : Dk := ⟨d.x.crash k0, d.y.crash k1⟩
def Dk.new : Dk := ⟨⟨[], 0⟩, ⟨[], 0⟩⟩
theorem left_le {b : List UInt8} {n : Nat} (k : Int) (h : n ≤ b.length) : n ≤ (⟨b, n⟩ : Fil).left k ∧ (⟨b, n⟩ : Fil).left k ≤ b.length := by
  simp only [Fil.left]
  omega
theorem left_eq {b : List UInt8} {n : Nat} (k : Int) (h : n ≤ b.length) :
    ((n : Nat) : Int) + (if (((b.length : Nat) : Int) - ((n : Nat) : Int)) < (if (0 : Int) > k then (0 : Int) else k) then (((b.length : Nat) : Int) - ((n : Nat) : Int)) else (if (0 : Int) > k then (0 : Int) else k)) = (((⟨b, n⟩ : Fil).left k : Nat) : Int) := by
  simp only [Fil.left]
  split <;> split at * <;> omega
theorem put_out (d : Dk) (f : Int) (z : Fil) (hf : ¬ hasF f) : d.put f z = d := by
  unfold Dk.put
  rw [if_neg (fun h => hf (.inl h)), if_neg (fun h => hf (.inr h))]
theorem app_out (d : Dk) (f : Int) (l : List UInt8) (hf : ¬ hasF f) : d.app f l = d := by
  unfold Dk.app
  split
  · rfl
  · exact put_out d f _ hf
theorem app_full (d : Dk) (f : Int) (l : List UInt8) (n : Nat) (hn : l.length = n) (hf : hasF f) (h : (n : Int) > 1048576 - ((d.fil f).b.length : Int)) : d.appE f n = 8 ∧ d.app f l = d := by
  unfold Dk.appE Dk.app
  rw [if_pos hf, if_pos h, hn, if_pos h]
  exact ⟨rfl, rfl⟩
theorem app_fits (d : Dk) (f : Int) (l : List UInt8) (n : Nat) (hn : l.length = n) (hf : hasF f) (h : ¬ (n : Int) > 1048576 - ((d.fil f).b.length : Int)) : d.appE f n = 0 ∧ d.app f l = d.put f ⟨(d.fil f).b ++ l, (d.fil f).n⟩ := by
  unfold Dk.appE Dk.app
  rw [if_pos hf, if_neg h, hn, if_neg h]
  exact ⟨rfl, rfl⟩
theorem own_new {a b : Option Nat} {m B : Nat} (h : a = b ∨ a = some m) (hB : B ≤ m) : a = b ∨ ∀ k, a = some k → B ≤ k := h.imp id fun h k hk => by
  rw [h] at hk
  injection hk with hk
  omega
structure Dsk (e T : TypeId) (w : World) (g : Nat) (d : Dk) (vx vy : Value) : Prop where
  hp : w.heap[g]? = some (.cells #[vx, .int .i64 (d.x.n : Int), vy, .int .i64 (d.y.n : Int)] T (0, 0))
  ox : w.ownsRow (g + 1) e 1 vx d.x.b.length (b8s d.x.b)
  oy : w.ownsRow (g + 1) e 1 vy d.y.b.length (b8s d.y.b)
  ne : ∀ k, vx.ownBlock = some k → vy.ownBlock ≠ some k
  kx : d.x.ok
  ky : d.y.ok
def foot (g : Nat) (vx vy : Value) : List Nat := g :: (blk vx ++ blk vy)
theorem mem_blk_iff {v : Value} {k : Nat} : k ∈ blk v ↔ v.ownBlock = some k := by
  unfold blk
  split
  · rename_i h; rw [h]; simp [eq_comm]
  · rename_i h; rw [h]; simp
theorem newOr_iff {B : Nat} {S : List Nat} : ∀ {T : List Nat}, NewOr B S T ↔ ∀ t ∈ T, t ∈ S ∨ B ≤ t
  | [] => by simp [NewOr]
  | t :: T => by simp [NewOr, newOr_iff (T := T)]
theorem off_iff {k : Nat} : ∀ {T : List Nat}, Off k T ↔ ∀ t ∈ T, k ≠ t
  | [] => by simp [Off]
  | t :: T => by simp [Off, off_iff (T := T)]
section
variable {e T : TypeId} {w w' : World} {g : Nat} {d : Dk} {vx vy v' : Value}
theorem Dsk.bx (h : Dsk e T w g d vx vy) {k : Nat} (hk : vx.ownBlock = some k) : g < k ∧ k < w.heap.size := by
  refine ⟨?_, (World.ownsRow.lt h.ox k hk).2⟩
  rcases h.ox.2 with ⟨rfl, _⟩ | ⟨g', cap, cur, rfl, hb, _⟩
  · cases hk
  · obtain rfl : g' = k := by simpa [Value.ownBlock] using hk
    omega
theorem Dsk.by_ (h : Dsk e T w g d vx vy) {k : Nat} (hk : vy.ownBlock = some k) : g < k ∧ k < w.heap.size := by
  refine ⟨?_, (World.ownsRow.lt h.oy k hk).2⟩
  rcases h.oy.2 with ⟨rfl, _⟩ | ⟨g', cap, cur, rfl, hb, _⟩
  · cases hk
  · obtain rfl : g' = k := by simpa [Value.ownBlock] using hk
    omega
theorem Dsk.lt (h : Dsk e T w g d vx vy) : g < w.heap.size := (Array.getElem?_eq_some_iff.1 h.hp).1
theorem Dsk.mem (h : Dsk e T w g d vx vy) : ∀ s ∈ foot g vx vy, g ≤ s ∧ s < w.heap.size := by
  intro s hs
  have := h.lt
  rcases List.mem_cons.1 hs with rfl | hs
  · exact ⟨Nat.le_refl _, h.lt⟩
  · rcases List.mem_append.1 hs with hs | hs
    · have := h.bx (mem_blk_iff.1 hs); omega
    · have := h.by_ (mem_blk_iff.1 hs); omega
theorem Dsk.setx (h : Dsk e T w g d vx vy) (z : Fil) (c : Chg (g :: blk vx) w w') (hp : w'.heap[g]? = some (.cells #[v', .int .i64 (z.n : Int), vy, .int .i64 (d.y.n : Int)] T (0, 0)))
    (ho : w'.ownsRow (g + 1) e 1 v' z.b.length (b8s z.b)) (hn : v'.ownBlock = vx.ownBlock ∨ ∀ k, v'.ownBlock = some k → w.heap.size ≤ k) (hk : z.ok) :
    Dsk e T w' g ⟨z, d.y⟩ v' vy ∧ Chg (foot g vx vy) w w' ∧ NewOr w.heap.size (foot g vx vy) (foot g v' vy) := by
  refine ⟨⟨hp, ho, own_chg h.oy c fun k hk _ _ => ?_, fun k hk hy => ?_, hk, h.ky⟩, c.more ?_, ?_⟩
  · have h1 := h.by_ hk
    refine off_iff.2 fun t ht => ?_
    rcases List.mem_cons.1 ht with rfl | ht
    · omega
    · rintro rfl
      exact h.ne k (mem_blk_iff.1 ht) hk
  · have h1 := h.by_ hy
    rcases hn with hn | hn
    · exact h.ne k (hn ▸ hk) hy
    · have := hn k hk; omega
  · intro s hs
    rcases List.mem_cons.1 hs with rfl | hs
    · simp [foot]
    · simp [foot, hs]
  · refine newOr_iff.2 fun t ht => ?_
    rcases List.mem_cons.1 ht with rfl | ht
    · simp [foot]
    · rcases List.mem_append.1 ht with ht | ht
      · rcases hn with hn | hn
        · exact .inl (by simp only [foot, List.mem_cons, List.mem_append]; exact .inr (.inl (mem_blk_iff.2 (hn ▸ mem_blk_iff.1 ht))))
        · exact .inr (hn t (mem_blk_iff.1 ht))
      · simp [foot, ht]
theorem Dsk.sety (h : Dsk e T w g d vx vy) (z : Fil) (c : Chg (g :: blk vy) w w') (hp : w'.heap[g]? = some (.cells #[vx, .int .i64 (d.x.n : Int), v', .int .i64 (z.n : Int)] T (0, 0)))
    (ho : w'.ownsRow (g + 1) e 1 v' z.b.length (b8s z.b)) (hn : v'.ownBlock = vy.ownBlock ∨ ∀ k, v'.ownBlock = some k → w.heap.size ≤ k) (hk : z.ok) :
    Dsk e T w' g ⟨d.x, z⟩ vx v' ∧ Chg (foot g vx vy) w w' ∧ NewOr w.heap.size (foot g vx vy) (foot g vx v') := by
  refine ⟨⟨hp, own_chg h.ox c fun k hk _ _ => ?_, ho, fun k hx hk => ?_, h.kx, hk⟩, c.more ?_, ?_⟩
  · have h1 := h.bx hk
    refine off_iff.2 fun t ht => ?_
    rcases List.mem_cons.1 ht with rfl | ht
    · omega
    · rintro rfl
      exact h.ne k hk (mem_blk_iff.1 ht)
  · have h1 := h.bx hx
    rcases hn with hn | hn
    · exact h.ne k hx (hn ▸ hk)
    · have := hn k hk; omega
  · intro s hs
    rcases List.mem_cons.1 hs with rfl | hs
    · simp [foot]
    · simp [foot, hs]
  · refine newOr_iff.2 fun t ht => ?_
    rcases List.mem_cons.1 ht with rfl | ht
    · simp [foot]
    · rcases List.mem_append.1 ht with ht | ht
      · simp [foot, ht]
      · rcases hn with hn | hn
        · exact .inl (by simp only [foot, List.mem_cons, List.mem_append]; exact .inr (.inr (mem_blk_iff.2 (hn ▸ mem_blk_iff.1 ht))))
        · exact .inr (hn t (mem_blk_iff.1 ht))
end
/-- A disk at g; F: the blocks that it may write. -/
structure DskF (e T : TypeId) (w : World) (g : Nat) (d : Dk) (F : List Nat) : Prop where
  out : ∃ vx vy, Dsk e T w g d vx vy ∧ F = foot g vx vy
section
variable {e T : TypeId} {w w' : World} {g : Nat} {d : Dk} {F : List Nat}
theorem DskF.mem (h : DskF e T w g d F) : ∀ s ∈ F, g ≤ s ∧ s < w.heap.size := by
  obtain ⟨vx, vy, q, rfl⟩ := h.out
  exact q.mem
theorem DskF.lt (h : DskF e T w g d F) : g < w.heap.size := by
  obtain ⟨vx, vy, q, rfl⟩ := h.out
  exact q.lt
theorem DskF.ok (h : DskF e T w g d F) : d.x.ok ∧ d.y.ok := by
  obtain ⟨vx, vy, q, rfl⟩ := h.out
  exact ⟨q.kx, q.ky⟩
theorem DskF.chg {S : List Nat} (h : DskF e T w g d F) (c : Chg S w w') (hs : ∀ s ∈ F, s < w.heap.size → Off s S) : DskF e T w' g d F := by
  obtain ⟨vx, vy, q, rfl⟩ := h.out
  refine ⟨vx, vy, ⟨c.hp q.hp (hs g (by simp [foot]) q.lt), own_chg q.ox c fun k hk _ hl => hs k ?_ hl, own_chg q.oy c fun k hk _ hl => hs k ?_ hl, q.ne, q.kx, q.ky⟩, rfl⟩
  · simp [foot, mem_blk_iff.2 hk]
  · simp [foot, mem_blk_iff.2 hk]
theorem off_foot {k : Nat} (h : DskF e T w g d F) (hk : k < g ∨ w.heap.size ≤ k) : Off k F := off_iff.2 fun t ht => by
  have := h.mem t ht
  omega
end
theorem own_empty {w : World} {base e g : Nat} (h : w.heap[g]? = some (.cells #[] e (0, 0))) (hb : base ≤ g) : w.ownsRow base e 1 (.slice (some ⟨g, 0, none⟩) 0 0) 0 (b8s []) := ⟨rfl, .inr ⟨g, 0, #[], rfl, hb, h, Nat.le_refl _, by unfold maxLen; omega, rfl, rfl⟩⟩
theorem own_nil (w : World) (base e : Nat) : w.ownsRow base e 1 (.slice none 0 0) 0 (b8s []) := ⟨rfl, .inl ⟨rfl, rfl⟩⟩
/-- The string of some bytes. -/
def str (l : List UInt8) : ByteArray := ⟨l.toArray⟩
theorem str_inj {l r : List UInt8} : str l = str r ↔ l = r := by
  unfold str
  constructor
  · intro h
    injection h with h
    simpa using congrArg Array.toList h
  · rintro rfl; rfl
theorem str_size (l : List UInt8) : (str l).size = l.length := by simp [str, ByteArray.size]
section
variable {P : Program} {w : World} {a : Act} {o : Oper}
theorem run_str (s t : TypeId) (x : Operand) (e : TypeId) (ho : o.op = .convert s t x) (hs : P.underlying s = some (.slice e)) (he : P.underlying e = some (.int .u8)) (ht : P.underlying t = some .string) (A : Option Addr) (n c : Nat) (l : List UInt8)
    (hx : a.eval x = .slice A n c) (hb : Byt w A n l) : (execOp a.eval o).run P w = .ok (.value (.string (str l))) w := by
  have key : (convert s t (.slice A n c)).run P w = .ok (.string (str l)) w := by
    rcases A with _ | ad
    · have h0 : l = [] := by
        rcases l with _ | ⟨y, l⟩
        · rfl
        · obtain ⟨g, off, h, _⟩ := hb.2 (by have := hb.1; simp at this; omega)
          cases h
      subst h0
      exact run_convert_bytes_nil w s e hs he n c t ht
    · obtain ⟨g, off, sp⟩ := ad
      have hcell : ∀ j (hj : j < l.length), w.cell? ((⟨g, off, sp⟩ : Addr).add j) = some (.int .u8 (l[j].toNat : Int)) := by
        intro j hj
        obtain ⟨g', off', h', hc⟩ := hb.2 (by have := hb.1; omega)
        injection h' with h'
        injection h' with h1 h2 h3
        subst h1 h2 h3
        rw [Addr.add_mid, hc j (by have := hb.1; omega)]
        simp [List.getD_eq_getElem?_getD, hj]
      have := run_convert_bytes_back (P := P) w s t e ⟨g, off, sp⟩ c l hs he ht hcell
      rw [hb.1] at this
      exact this
  unfold execOp
  simp only [ho, hx, Sem.run_bind, key, Result.andThen_ok, Sem.run_pure]
/-- A literal's bytes, marked. -/
theorem run_mark (t : TypeId) (x : Operand) (e : TypeId) (ho : o.op = .convert t t x) (ht : P.underlying t = some (.slice e)) (he : P.underlying e = some (.int .u8)) (g n c : Nat) (cs : Array Value) (hx : a.eval x = .slice (some ⟨g, 0, none⟩) n c)
    (hg : w.heap[g]? = some (.cells cs e (0, 0))) : ∃ v1 w1, (execOp a.eval o).run P w = .ok (.value v1) w1 ∧ v1 = .slice (some ⟨g, 0, none⟩) n c ∧ w1.heap[g]? = some (.cells cs e (cs.size, cs.size + 1)) ∧ Chg [g] w w1 := by
  have hlt := (Array.getElem?_eq_some_iff.1 hg).1
  have hsh : w.shape? g = some (e, cs.size) := by
    unfold World.shape?
    rw [hg]
  have key : (convert t t (.slice (some ⟨g, 0, none⟩) n c)).run P w = .ok (.slice (some ⟨g, 0, none⟩) n c) (w.freeze ⟨g, cs.size, none⟩ 1) := by
    simp [convert, run_underlying ht, run_underlying he, markStringish, hsh]
  refine ⟨_, w.freeze ⟨g, cs.size, none⟩ 1, ?_, rfl, ?_, ?_⟩
  · unfold execOp
    simp only [ho, hx, Sem.run_bind, key, Result.andThen_ok, Sem.run_pure]
  · unfold World.freeze
    rw [if_neg (by decide)]
    show (w.heap.modify g _)[g]? = _
    rw [Array.getElem?_modify]
    simp [hg]
  · unfold World.freeze
    rw [if_neg (by decide)]
    refine ⟨rfl, rfl, rfl, by simp, fun k hk ho => ?_⟩
    show (w.heap.modify g _)[k]? = _
    rw [Array.getElem?_modify, if_neg (fun h => ho.1 h.symm)]
theorem run_op_cut_to (t : TypeId) (x z : Operand) (ho : o.op = .slice t x none (some z) none) (e : TypeId) (ht : P.underlying t = some (.slice e)) (hsz : (P.info? e).map (·.size) = some 1) (A : Option Addr) (n c h : Nat)
    (hx : a.eval x = .slice A n c) (hz : a.eval z = .int .i64 (h : Int)) (hh : h ≤ n) (hnc : n ≤ c) : (execOp a.eval o).run P w = .ok (.value (.slice (cutA A c 0) h c)) w := by
  unfold execOp
  simp only [ho, hx, hz, Option.map_some, Option.map_none, Sem.run_bind, run_cut_to t e ht hsz A n c h hh hnc, Result.andThen_ok, Sem.run_pure]
theorem byt_to {A : Option Addr} {n c : Nat} {l : List UInt8} (h : Byt w A n l) (k : Nat) (hk : k ≤ n) (hnc : n ≤ c) : Byt w (cutA A c 0) k (l.take k) := by
  have := h.cut 0 k (by omega) hk hnc
  simpa using this
theorem cut_none {A : Option Addr} {c k : Nat} (h : A = none → c = 0) : cutA A c k = none → c = 0 := by
  rcases A with _ | ad
  · exact fun _ => h rfl
  · exact fun e => absurd e (cutA_some ad c k)
theorem own_le {base base' sz n : Nat} {e : TypeId} {v : Value} {xs : List Value} (h : w.ownsRow base e sz v n xs) (hb : base' ≤ base) : w.ownsRow base' e sz v n xs :=
  ⟨h.1, h.2.elim Or.inl (fun ⟨g, cap, cur, hv, hg, r⟩ => Or.inr ⟨g, cap, cur, hv, Nat.le_trans hb hg, r⟩)⟩
theorem byt_row {g : Nat} {t : TypeId} {fr : Nat × Nat} (l : List UInt8) (h : w.heap[g]? = some (.cells (b8s l).toArray t fr)) : Byt w (some ⟨g, 0, none⟩) l.length l := ⟨rfl, fun _ => ⟨g, 0, rfl, fun j hj => by rw [Nat.zero_add]; exact cell_b8s h hj⟩⟩
theorem byt_sl {A : Option Addr} {n : Nat} {l : List UInt8} (h : Byt w A n l) : Sl w A n 1 (b8s l) := ⟨by rw [b8s_length, h.1, Nat.mul_one], fun hn => by
  have hp : 0 < n := by
    rcases l with _ | ⟨y, l⟩
    · exact absurd rfl hn
    · have := h.1; simp at this; omega
  obtain ⟨g, off, e, hc⟩ := h.2 hp
  refine ⟨g, off, e, fun j u hu => ?_⟩
  have hj : j < l.length := by
    have := (List.getElem?_eq_some_iff.1 hu).1
    simpa [b8s_length] using this
  rw [b8s_get l j hj] at hu
  injection hu with hu
  subst hu
  exact hc j (by have := h.1; omega)⟩
theorem byt_chg {S : List Nat} {w' : World} {A : Option Addr} {n : Nat} {l : List UInt8} (h : Byt w A n l) (c : Chg S w w') (ho : ∀ g off, A = some ⟨g, off, none⟩ → g < w.heap.size → Off g S) : Byt w' A n l := ⟨h.1, fun hp => by
  obtain ⟨g, off, e, hc⟩ := h.2 hp
  have hlt : g < w.heap.size := World.block_lt_of_cell? w ⟨g, off + 0, none⟩ (hc 0 hp)
  exact ⟨g, off, e, fun j hj => c.cell (hc j hj) (ho g off e hlt)⟩⟩
end
end Mur
