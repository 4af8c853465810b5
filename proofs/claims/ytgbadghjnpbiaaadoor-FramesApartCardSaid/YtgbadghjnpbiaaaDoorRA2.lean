/- What the row rests on, part 2. -/
import Derived.Test.YtgbadghjnpbiaaaDoorCards
import Derived.Test.YtgbadghjnpbiaaaDoorTie
import Derived.ProofKit
import Derived.OpenShut
import Derived.Deep.DeepHandedRow
import Derived.Lib.LaidTab
import Derived.WideKeyArgs
import Derived.Carry
import Derived.Deep.Slices
import Derived.Deep.MidRow
import Derived.WalkKit
import Derived.Laws.CopyOwn
import Derived.Maps.AppendAt
import Derived.OwnWalk
import Derived.OrdersHeld
import Derived.Deep.AppendLies
import Derived.DeepKeys
import Derived.Laws.StructEq
import Derived.LoopN
import Derived.Lib.Hide
import Derived.Deep.Draws
import Derived.Laws.MakeOwn
import Derived.Lib.SlBytesConst
import Derived.Laws.Strings
import Derived.Laws.CopyRow
import Derived.Test.YtgbadghjnpbiaaaDoorRA1
namespace Mur
open Go Go.RowKit Go.WideShapes Go.ChangeShapes
section
variable {H : Type} {enc : TypeId × Value → H} {P : Program}
theorem all_stay (hl : laidOutB P = true) {W W' : World} {sp' : Nat → Bool} : ∀ {ts : List TypeId} {vs : List Value} {ds : List (DataW H)} {ps : List MemPlace}, (∀ t ∈ ts, P.readableRec t = true ∧ t < P.types.size) →
    DataW.TrodAll enc P W 0 (fun _ => true) true ts vs ds ps → (∀ p ∈ ps, W.sameAt W' p) → (∀ p ∈ ps, sp' p.block = true) → DataW.TrodAll enc P W' 0 sp' true ts vs ds ps
  | [], [], [], _, _, h, _, _ => h
  | t :: ts, v :: vs, d :: ds, ps, hr, ⟨p, q, h1, h2, e⟩, hsame, hs =>
    ⟨p, q, WideElems.Trod_stays hl (hr t (by simp)).1 (hr t (by simp)).2 h1 (fun x hx => hsame x (by rw [e]; exact List.mem_append_left _ hx)) (fun x hx => hs x (by rw [e]; exact List.mem_append_left _ hx)),
      all_stay hl (fun t ht => hr t (by simp [ht])) h2 (fun x hx => hsame x (by rw [e]; exact List.mem_append_right _ hx)) (fun x hx => hs x (by rw [e]; exact List.mem_append_right _ hx)), e⟩
theorem law_post (hl : laidOutB P = true) {f : Func} {s : ChangeSpec} {fresh again : Bool} {W W' : World} {args : Array Value} {ds : List (DataW H)} {before : List MemPlace} {tb : TypeId}
    (hf : f.resultTypes = #[tb]) (hb : P.underlying tb = some .bool) (hp : ∀ t ∈ f.params.toList, P.readableRec t = true ∧ t < P.types.size) (hv : s.vars = [])
    (hs : s.fn H ds = { results := [.lit (.bool true)], args := ds }) (hW : DataW.Whole enc P f.params.toList s.vars false W args.toList ds [] before) (hB : Below W.heap.size W W') :
    s.post enc P f false fresh false again W args (.bool true) W' := by
  have hlt : ∀ p ∈ before, p.block < W.heap.size := fun p hp => hW.lt p hp
  have hW' := hW
  obtain ⟨p, q, hA, hV, hpq, hz, hn⟩ := hW
  rw [hv] at hV
  obtain ⟨_, rfl⟩ := trodVars_none hV
  rw [List.append_nil] at hpq
  subst hpq
  have hsame : ∀ x ∈ before, W.sameAt W' x := fun x hx => hB.same (hlt x hx)
  have hagain : ∀ sp : Nat → Bool, (∀ x ∈ before, sp x.block = true) → DataW.TrodAll enc P W' 0 sp true f.params.toList args.toList ds before := fun sp hsp => all_stay hl hp hA hsame hsp
  have hres : ∀ (b : Nat) (sp : Nat → Bool) (hd : Bool), DataW.TrodAll enc P W' b sp hd [tb] [.bool true] [.lit (.bool true)] [] := fun b sp hd => trodAll_cons_mk (shut_bool hb _) trodAll_mk0
  have e1 : f.resultTypes.toList = [tb] := by rw [hf]
  have e2 : (Value.bool true).resultList f.resultTypes.size = [.bool true] := by rw [hf]; rfl
  refine ⟨ds, [], before, [], before, [], hW', ?_, ?_, ?_, World.keptBut_mono (fun x hx => ⟨hx, .inr (.inl hx)⟩) (hB.frame (· ∈ before)), fun _ => ?_⟩
  · rw [List.append_nil, hs, e1, e2]
    exact hres _ _ _
  · rw [List.append_nil, hs]
    exact hagain _ (fun x hx => by simpa using hlt x hx)
  · rw [List.append_nil, hs, hv]
    rfl
  · refine ⟨fun j t r h1 h2 => ?_, .lit (.bool true) :: ds, [], before, ⟨before, [], ?_, ?_, by simp, ?_, ?_⟩, fun x hx _ => hx⟩
    · rw [hf] at h1
      rw [e2] at h2
      obtain ⟨rfl, rfl⟩ : j = 0 ∧ t = tb := by
        rcases j with _ | j
        · exact ⟨rfl, by simpa using h1.symm⟩
        · simp at h1
      obtain rfl : r = .bool true := by simpa using h2.symm
      exact okWide_bool_mk hb _
    · rw [e1, e2]
      exact ⟨[], before, shut_bool hb _, hagain (fun _ => true) (fun _ _ => rfl), rfl⟩
    · rw [hv]
      rfl
    · intro b off hx
      have hx' : MemPlace.cell b off ∈ before := hx
      rw [hB.frozen (hlt _ hx')]
      exact hz b off hx'
    · intro ha
      cases ha
theorem open_byt {t e : TypeId} {W : World} {v : Value} {d : DataW H} {ps : List MemPlace} (ht : P.underlying t = some (.slice e)) (he : P.underlying e = some (.int .u8)) (hc : P.cellsOf e = 1) (hval : ∃ r b0, Value.okWide P W r b0 t v)
    (h : DataW.Trod enc P W 0 (fun _ => true) true t v d ps) : ∃ A n c l, v = .slice A n c ∧ n ≤ c ∧ c ≤ maxLen ∧ (A = none → c = 0) ∧ Byt W A n l := by
  obtain ⟨fuel, hf⟩ := h
  have hv : v.cells.toList = [v] := by
    obtain ⟨r, b0, hok⟩ := hval
    cases v <;> first | rfl | (exfalso; simp [Value.okWide, ht, Cell.okWide, Cell.ok] at hok)
  rw [hv] at hf
  rcases open_ints ht he hc hf with ⟨h0, _⟩ | ⟨a, len, cap, zs, h0, _, hlc, hcm, hlen, _, hcell, hwf⟩
  · obtain rfl : v = .slice none 0 0 := by simpa using h0
    exact ⟨none, 0, 0, [], rfl, Nat.le_refl _, by omega, fun _ => rfl, Byt.nil _ _⟩
  · obtain rfl : v = .slice (some a) len cap := by simpa using h0
    simp only [if_true] at hlen
    refine ⟨some a, len, cap, (zs.take len).map (fun z => UInt8.ofNat z.toNat), rfl, hlc, hcm, (fun h => by cases h), (by simp; omega), fun hp => ?_⟩
    obtain ⟨g, off, rfl, hc2⟩ := ints_at hcell (by omega)
    refine ⟨g, off, rfl, fun j hj => ?_⟩
    rw [hc2 j (by omega)]
    have hr := range_u8 hwf j
    have hjz : j < zs.length := by omega
    simp only [List.getElem?_eq_getElem hjz, Option.getD_some] at hr
    simp [List.getD_eq_getElem?_getD, hj, hjz]
    omega
end
end Mur
namespace Go.Proofs.YtgbadghjnpbiaaaDoor
open Go.RowKit Go.WideShapes Go.ChangeShapes
open Mur (St w32 u32s b8s Byt)
theorem own : ownKnob Tryd.prog.godebug = none := by kernel_rfl
theorem laidOut : laidOutB Tryd.prog = true := by kernel_rfl
theorem gK : Tryd.prog.globalNamed "murmuration/sha.k" = some 2 := by kernel_rfl
theorem gF : Tryd.prog.globalNamed "murmuration/sha.first" = some 0 := by kernel_rfl
theorem gKt : (Tryd.prog.globals[2]?).map (·.type) = some 75 := by kernel_rfl
theorem gFt : (Tryd.prog.globals[0]?).map (·.type) = some 74 := by kernel_rfl
theorem c64 : Tryd.prog.cellsOf 75 = 64 := by kernel_rfl
theorem c8 : Tryd.prog.cellsOf 74 = 8 := by kernel_rfl
theorem c32 : Tryd.prog.cellsOf 73 = 1 := by kernel_rfl
theorem cB : Tryd.prog.cellsOf 5 = 1 := by kernel_rfl
theorem second {name : String} {k : IntKind} {zs : List Int} {x : String × DataW Unit} {P : Program} {W : World} {g : Nat} {t e : TypeId} {n : Nat}
    (hg : P.globalNamed name = some g) (hty : (P.globals[g]?).map (·.type) = some t) (ht : P.underlying t = some (.array n e)) (he : P.underlying e = some (.int k)) (hce : P.cellsOf e = 1) (hct : P.cellsOf t = n)
    (h : laidMet P [x, (name, Lib.tabData k zs)] W) : Lib.TabIs P W name k zs := by
  obtain ⟨_, ⟨_, _, _, _, _, _, _, _, _, _, ⟨g', t', cs, fuel, p, q, hg', ht', hvar, hd, _, _⟩, _⟩, _⟩ := h
  obtain rfl := Option.some.inj (hg.symm.trans hg')
  obtain rfl := Option.some.inj (hty.symm.trans ht')
  unfold Lib.TabIs
  rw [hvar, ← Lib.cells_of_tab ht he hce hct hd]
def numsOf (l : List UInt32) : List Int := l.map fun x => (x.toNat : Int)
theorem laidK : (Rows.laid_murmuration_sha_k : DataW Unit) = Lib.tabData .u32 (numsOf Mur.K) := by kernel_rfl
theorem laidF : (Rows.laid_murmuration_sha_first : DataW Unit) = Lib.tabData .u32 (numsOf Mur.H0.toList) := by kernel_rfl
theorem shaVars {W : World} (h : laidMetH Tryd.prog [("murmuration/sha.k", Rows.laid_murmuration_sha_k), ("murmuration/sha.first", Rows.laid_murmuration_sha_first)] W) : ShaVars W := by
  have h' : laidMet Tryd.prog [("murmuration/sha.k", Rows.laid_murmuration_sha_k), ("murmuration/sha.first", Rows.laid_murmuration_sha_first)] W := h
  rw [laidK, laidF] at h'
  have h1 := Lib.tabIs_of_head gK gKt Tryd.underlying75 Tryd.underlying73 c32 c64 h'
  have h2 := second gF gFt Tryd.underlying74 Tryd.underlying73 c32 c8 h'
  refine ⟨fun i hi => ?_, fun i hi => ?_⟩
  · have hl : i < Mur.K.length := by rw [Mur.K_length]; exact hi
    rw [h1.cell gK i (by simpa [numsOf] using hl)]
    simp [numsOf, w32, List.getD_eq_getElem?_getD, hl]
  · have hl : i < Mur.H0.toList.length := hi
    rw [h2.cell gF i (by simpa [numsOf] using hl)]
    simp [numsOf, w32, List.getD_eq_getElem?_getD, hl]
def laidCells (cs : Array Value) : Obj → Obj
  | .cells _ t frozen => .cells cs t frozen
  | o => o
noncomputable def laidWorld (os : Os) : World :=
  { World.holding Tryd.prog os ⟨#[], #[], []⟩ with
    heap := ((World.holding Tryd.prog os ⟨#[], #[], []⟩).heap.modify 2 (laidCells ((numsOf Mur.K).map fun z => Value.int .u32 z).toArray)).modify 0 (laidCells ((numsOf Mur.H0.toList).map fun z => Value.int .u32 z).toArray) }
end Go.Proofs.YtgbadghjnpbiaaaDoor
namespace Mur
open Go Go.RowKit
inductive All2 {α β : Type} (R : α → β → Prop) : List α → List β → Prop
  | nil : All2 R [] []
  | cons {a b l m} : R a b → All2 R l m → All2 R (a :: l) (b :: m)
theorem All2.length {α β : Type} {R : α → β → Prop} : ∀ {l : List α} {m : List β}, All2 R l m → l.length = m.length
  | _, _, .nil => rfl
  | _, _, .cons _ h => by simp [h.length]
theorem All2.append {α β : Type} {R : α → β → Prop} : ∀ {l l' : List α} {m m' : List β}, All2 R l m → All2 R l' m' → All2 R (l ++ l') (m ++ m')
  | _, _, _, _, .nil, k => k
  | _, _, _, _, .cons r h, k => .cons r (h.append k)
theorem All2.imp {α β : Type} {R R' : α → β → Prop} (hr : ∀ a b, R a b → R' a b) : ∀ {l : List α} {m : List β}, All2 R l m → All2 R' l m
  | _, _, .nil => .nil
  | _, _, .cons r h => .cons (hr _ _ r) (h.imp hr)
section
variable (P : Program)
def leafsS (rec : TypeId → Option (List TypeId)) : Nat → List Field → Option (List TypeId)
  | _, [] => some []
  | o, f :: fs => if f.offset = o then (rec f.type).bind fun l => if P.cellsOf f.type = l.length then (leafsS rec (o + l.length) fs).map (l ++ ·) else none else none
def leafs : Nat → TypeId → Option (List TypeId)
  | 0, _ => none
  | d + 1, t => match P.underlying t with
    | some (.struct fs) => (leafsS P (leafs d) 0 fs.toList).bind fun l => if P.cellsOf t = l.length then some l else none
    | some (.array n e) => (leafs d e).bind fun l => if P.cellsOf e = l.length ∧ P.cellsOf t = n * l.length then some (List.replicate n l).flatten else none
    | some _ => if P.cellsOf t = 1 then some [t] else none
    | none => none
end
section
variable {H : Type} {enc : TypeId × Value → H} {P : Program} {w : World} {base : Nat} {spare : Nat → Bool} {held : Bool}
def Leaf (enc : TypeId × Value → H) (P : Program) (w : World) (base : Nat) (spare : Nat → Bool) (held : Bool) (t : TypeId) (v : Value) : Prop := ∃ m y, DataW.trod enc P w base spare held m t [v] = some y
theorem leaf_int {t : TypeId} {k : IntKind} {v : Value} (ht : P.underlying t = some (.int k)) (h : Leaf enc P w base spare held t v) : ∃ n, v = .int k n ∧ (Lit.int k n).wf = true := by
  obtain ⟨m, y, h⟩ := h
  obtain ⟨n, e, _, hw⟩ := DataW.trod_int ht h
  exact ⟨n, by simpa using e, hw⟩
theorem leaf_bool {t : TypeId} {v : Value} (ht : P.underlying t = some .bool) (h : Leaf enc P w base spare held t v) : ∃ b, v = .bool b := by
  obtain ⟨m, y, h⟩ := h
  obtain ⟨b, e, _⟩ := DataW.trod_bool ht h
  exact ⟨b, by simpa using e⟩
theorem leafsS_ok {rec : TypeId → Option (List TypeId)} (hrec : ∀ t ls, rec t = some ls → ∀ fuel cs x, DataW.trod enc P w base spare held fuel t cs = some x → All2 (Leaf enc P w base spare held) ls cs) {m : Nat} {cs : List Value} :
    ∀ (fs : List Field) (o : Nat) (ls : List TypeId), leafsS P rec o fs = some ls → (∀ f ∈ fs, ∃ x, DataW.trod enc P w base spare held m f.type ((cs.drop f.offset).take (P.cellsOf f.type)) = some x) → cs.length = o + ls.length → All2 (Leaf enc P w base spare held) ls (cs.drop o)
  | [], o, ls, h, _, hl => by
    obtain rfl : ls = [] := by simpa [leafsS] using h.symm
    rw [List.drop_of_length_le (by simp at hl; omega)]
    exact .nil
  | f :: fs, o, ls, h, hf, hl => by
    simp only [leafsS] at h
    split at h
    · rename_i ho
      obtain ⟨l, h1, h2⟩ := Option.bind_eq_some_iff.1 h
      split at h2
      · rename_i hc
        obtain ⟨l', h3, rfl⟩ := Option.map_eq_some_iff.1 h2
        obtain ⟨x, hx⟩ := hf f (by simp)
        have a1 := hrec _ _ h1 _ _ _ hx
        rw [List.length_append] at hl
        have a2 := leafsS_ok hrec fs (o + l.length) l' h3 (fun g hg => hf g (by simp [hg])) (by omega)
        rw [ho, hc] at a1
        have e : cs.drop o = (cs.drop o).take l.length ++ cs.drop (o + l.length) := by rw [← List.drop_drop, List.take_append_drop]
        rw [e]
        exact a1.append a2
      · cases h2
    · cases h
theorem chunks_ok {R : TypeId → Value → Prop} {l : List TypeId} {cs : List Value} : ∀ (n o : Nat), (∀ i, i < n → All2 R l ((cs.drop (o + i * l.length)).take l.length)) → cs.length = o + n * l.length → All2 R (List.replicate n l).flatten (cs.drop o)
  | 0, o, _, hl => by
    rw [List.drop_of_length_le (by simp at hl; omega)]
    exact .nil
  | n + 1, o, h, hl => by
    have a1 := h 0 (by omega)
    rw [Nat.zero_mul, Nat.add_zero] at a1
    have a2 := chunks_ok (R := R) (l := l) (cs := cs) n (o + l.length) (fun i hi => by
      have := h (i + 1) (by omega)
      rwa [show o + (i + 1) * l.length = o + l.length + i * l.length by rw [Nat.add_mul]; omega] at this) (by rw [hl, Nat.add_mul]; omega)
    rw [List.replicate_succ, List.flatten_cons]
    have e : cs.drop o = (cs.drop o).take l.length ++ cs.drop (o + l.length) := by rw [← List.drop_drop, List.take_append_drop]
    rw [e]
    exact a1.append a2
theorem leafs_ok : ∀ (d : Nat) (t : TypeId) (ls : List TypeId), leafs P d t = some ls → ∀ fuel cs x, DataW.trod enc P w base spare held fuel t cs = some x → All2 (Leaf enc P w base spare held) ls cs
  | 0, _, _, h, _, _, _, _ => by cases h
  | d + 1, t, ls, h, fuel, cs, x, hx => by
    unfold leafs at h
    split at h
    · rename_i fs hu
      obtain ⟨l, h1, h2⟩ := Option.bind_eq_some_iff.1 h
      split at h2
      · rename_i hc
        obtain rfl := Option.some.inj h2
        obtain ⟨xs, m, _, _, hl, hlen, hf⟩ := DataW.trod_struct hu hx
        have := leafsS_ok (leafs_ok d) (m := m) (cs := cs) fs.toList 0 l h1 (fun f hfm => by
          obtain ⟨i, hi, e⟩ := List.getElem_of_mem hfm
          have hi' : i < xs.length := by rw [hlen]; simpa using hi
          have h3 := hf i f (by rw [← Array.getElem?_toList, List.getElem?_eq_getElem hi, e])
          exact ⟨xs[i], by rw [h3, List.getElem?_eq_getElem hi']⟩) (by omega)
        simpa using this
      · cases h2
    · rename_i n e hu
      obtain ⟨l, h1, h2⟩ := Option.bind_eq_some_iff.1 h
      split at h2
      · rename_i hc
        obtain rfl := Option.some.inj h2
        obtain ⟨xs, m, _, _, hl, hlen, hf⟩ := DataW.trod_array hu hx
        have := chunks_ok (R := Leaf enc P w base spare held) (l := l) (cs := cs) n 0 (fun i hi => by
          have h3 := hf i hi
          rw [hc.1] at h3
          rw [Nat.zero_add]
          exact leafs_ok d e l h1 m _ xs[i] (by rw [h3, List.getElem?_eq_getElem (by omega)])) (by omega)
        simpa using this
      · cases h2
    · rename_i hu
      split at h
      · obtain rfl := Option.some.inj h
        have hlen : ∃ v, cs = [v] := by
          cases fuel with
          | zero => simp [DataW.trod] at hx
          | succ m =>
            unfold DataW.trod at hx
            rw [hu] at hx
            split at hx <;> simp_all
        obtain ⟨v, rfl⟩ := hlen
        exact .cons ⟨_, _, hx⟩ .nil
      · cases h
    · cases h
theorem rows_decode {α : Type} (enc' : α → List Value) : ∀ rows : List (List Value), (∀ r ∈ rows, ∃ p, r = enc' p) → ∃ l : List α, rows = l.map enc'
  | [], _ => ⟨[], rfl⟩
  | r :: rows, h => by
    obtain ⟨p, rfl⟩ := h r (by simp)
    obtain ⟨l, rfl⟩ := rows_decode enc' rows fun x hx => h x (by simp [hx])
    exact ⟨p :: l, rfl⟩
theorem open_rows {t e : TypeId} {v : Value} {d : DataW H} {ps : List MemPlace} (D : Nat) (ls : List TypeId) (ht : P.underlying t = some (.slice e)) (hl : leafs P D e = some ls) (hc : P.cellsOf e = ls.length) (hpos : 0 < ls.length) (hval : v.cells.toList = [v])
    (h : DataW.Trod enc P w 0 (fun _ => true) true t v d ps) :
    ∃ (A : Option Addr) (n c : Nat) (rows : List (List Value)), v = .slice A n c ∧ n ≤ c ∧ c ≤ maxLen ∧ (A = none → c = 0) ∧ rows.length = n ∧ (∀ r ∈ rows, All2 (Leaf enc P w 0 (fun _ => true) true) ls r) ∧
      (0 < n → ∃ g off, A = some ⟨g, off, none⟩ ∧ ∀ i r, rows[i]? = some r → w.rangeAt g (off + i * ls.length) r) := by
  obtain ⟨fuel, hf⟩ := h
  rw [hval] at hf
  rcases Deep.open_slice ht hf with ⟨h0, _⟩ | ⟨a, len, cap, m, n, D', Pl, h0, _, hlc, hcm, hm, _, hx⟩
  · obtain rfl : v = .slice none 0 0 := by simpa using h0
    exact ⟨none, 0, 0, [], rfl, Nat.le_refl _, by unfold maxLen; omega, fun _ => rfl, rfl, by simp, fun h => absurd h (by omega)⟩
  · obtain rfl : v = .slice (some a) len cap := by simpa using h0
    simp only [if_true] at hm
    subst hm
    have hch : ∀ i, i < len → ∃ cs' : List Value, w.cells? 0 (a.add (i * P.cellsOf e)) (P.cellsOf e) = some cs' ∧ All2 (Leaf enc P w 0 (fun _ => true) true) ls cs' := fun i hi => by
      obtain ⟨cs', h1, h2⟩ := hx i (by omega)
      exact ⟨cs', h1, leafs_ok D e ls hl _ _ _ h2⟩
    obtain ⟨R, hR⟩ := Deep.choose_lt (α := List Value) (p := fun i cs' => w.cells? 0 (a.add (i * P.cellsOf e)) (P.cellsOf e) = some cs' ∧ All2 (Leaf enc P w 0 (fun _ => true) true) ls cs') hch
    refine ⟨some a, len, _, (List.range len).map R, rfl, hlc, hcm, (fun h => by cases h), by simp, ?_, fun hp => ?_⟩
    · intro r hr
      obtain ⟨i, hi, rfl⟩ := List.mem_map.1 hr
      exact (hR i (by simpa using hi)).2
    · have hsp : a.spot = none := by
        obtain ⟨h1, h2⟩ := hR 0 hp
        obtain ⟨_, h4, h5⟩ := World.cells?_some h1
        have h6 := h5 0 (by rw [hc]; exact hpos)
        have hl2 : (R 0).length = ls.length := h2.length.symm
        rw [List.getElem?_eq_getElem (by rw [hl2]; exact hpos)] at h6
        have e : (a.add (0 * P.cellsOf e)).add 0 = a := by simp [Addr.add]
        rw [e] at h6
        unfold World.cell? at h6
        split at h6
        · split at h6
          · cases h6
          · rename_i hq
            simpa using hq
        · cases h6
      obtain ⟨g, off, sp⟩ := a
      obtain rfl : sp = none := hsp
      refine ⟨g, off, rfl, fun i r hr j u hu => ?_⟩
      have hi : i < len := by
        have := (List.getElem?_eq_some_iff.1 hr).1
        simpa using this
      obtain rfl : R i = r := by simpa [hi] using hr
      obtain ⟨h1, h2⟩ := hR i hi
      obtain ⟨_, h4, h5⟩ := World.cells?_some h1
      have hj : j < (R i).length := (List.getElem?_eq_some_iff.1 hu).1
      have h6 := h5 j (by omega)
      rw [Addr.add_mid, Addr.add_mid, hc] at h6
      rw [h6, hu]
end
end Mur
namespace Mur
open Go Go.RowKit
structure Wrote (g : Nat) (w w' : World) : Prop where
  os : w'.os = w.os
  tape : w'.tape = w.tape
  output : w'.output = w.output
  size : w'.heap.size = w.heap.size
  block : ∀ k, k ≠ g → w'.heap[k]? = w.heap[k]?
theorem Wrote.below {g B : Nat} {w w' : World} (h : Wrote g w w') (hB : B ≤ g) : Below B w w' := ⟨h.os, h.tape, h.output, Nat.le_of_eq h.size.symm, fun k hk => h.block k (by omega)⟩
theorem Wrote.hp {g k : Nat} {w w' : World} {o : Obj} (h : Wrote g w w') (hk : k ≠ g) (hc : w.heap[k]? = some o) : w'.heap[k]? = some o := (h.block k hk).trans hc
section
variable {P : Program} {ops : Array Oper} {rest : List Oper} {o : Oper} {a : Act} {Q : Exit → Act → World → Prop} {w : World}
end
end Mur
namespace Mur
open Go Go.RowKit
section
variable {P : Program} {ops : Array Oper} {o : Oper} {a : Act} {md : Region.Mode} {S : World → Prop} {Q : Exit → Act → World → Prop} {i fuel : Nat} {listed : Array Bool} {w : World}
end

theorem mapM_all {α β : Type} (f : α → Option β) (g : α → β) : ∀ l : List α, (∀ x ∈ l, f x = some (g x)) → l.mapM f = some (l.map g)
  | [], _ => rfl
  | x :: l, h => by
    rw [List.mapM_cons, h x (by simp), mapM_all f g l (fun y hy => h y (by simp [hy]))]
    rfl
section
variable {P : Program}
structure DigT (P : Program) (T e : TypeId) : Prop where
  ty : P.underlying T = some (.array 32 e)
  el : P.underlying e = some (.int .u8)
  ce : P.cellsOf e = 1
  ct : P.cellsOf T = 32
  key : P.keyTypeAt 2 T = true
  quiet : P.eqGuardType P.depth T = false
def litOf (d : List UInt8) (i : Nat) : List Lit := [.int .u8 ((d.getD i 0).toNat : Int)]
theorem keyLits_dig {T e : TypeId} (h : DigT P T e) (d : List UInt8) (hd : d.length = 32) : P.keyLits 2 T (b8s d) = some ((List.range 32).map (litOf d)).flatten := by
  unfold Program.keyLits
  simp only [h.ty]
  rw [if_pos (by rw [b8s_length, hd, h.ct]), mapM_all _ (litOf d)]
  · rfl
  · intro i hi
    have hi' : i < 32 := by simpa using hi
    have hl : i < (b8s d).length := by rw [b8s_length]; omega
    rw [h.ce, Nat.mul_one, List.drop_eq_getElem_cons hl, List.take_succ_cons, List.take_zero]
    have hg := b8s_get d i (by omega)
    rw [List.getElem?_eq_getElem hl] at hg
    rw [Option.some.inj hg]
    unfold Program.keyLits
    simp only [h.el]
    have := (d.getD i 0).toNat_lt
    have hwf : (Lit.int .u8 ((d.getD i 0).toNat : Int)).wf = true := by
      have h1 : IntKind.u8.min = 0 := by decide
      have h2 : IntKind.u8.max = 255 := by decide
      simp only [Lit.wf, h1, h2, Bool.and_eq_true, decide_eq_true_eq]
      omega
    exact if_pos ⟨trivial, hwf⟩
theorem lits_inj {d d' : List UInt8} (hd : d.length = 32) (hd' : d'.length = 32) : ((List.range 32).map (litOf d)).flatten = ((List.range 32).map (litOf d')).flatten ↔ d = d' := by
  constructor
  · intro h
    have e : ∀ x : List UInt8, ((List.range 32).map (litOf x)).flatten = (List.range 32).map fun i => Lit.int .u8 ((x.getD i 0).toNat : Int) := by
      intro x
      generalize List.range 32 = l
      induction l with
      | nil => rfl
      | cons i l ih => simp only [List.map_cons, List.flatten_cons, ih]; rfl
    rw [e, e] at h
    refine List.ext_getElem (by omega) fun i h1 h2 => ?_
    have := List.map_inj_left.1 h i (by simp; omega)
    injection this with _ this
    have h3 := UInt8.toNat_inj.1 (Int.ofNat.inj this)
    simpa [List.getD_eq_getElem?_getD, h1, h2] using h3
  · rintro rfl
    rfl
theorem run_eql_dig {T e : TypeId} (h : DigT P T e) (d d' : List UInt8) (hd : d.length = 32) (hd' : d'.length = 32) (w : World) (x y : Operand) (ty : TypeId) (a : Act) (o : Oper) (ho : o.op = .binOp .eql T x y ty)
    (hx : a.eval x = .agg (b8s d).toArray) (hy : a.eval y = .agg (b8s d').toArray) : (execOp a.eval o).run P w = .ok (.value (.bool (decide (d = d')))) w := by
  have hf : ∀ x : List UInt8, x.length = 32 → (Value.agg (b8s x).toArray).formed P T = true := by
    intro x hx
    simp [Value.formed, h.ty, h.ct, b8s_length, hx]
  obtain ⟨r, hr, hiff⟩ := run_equalIn_deep (P := P) 9998 2 T h.key w 2 2 (.agg (b8s d).toArray) (.agg (b8s d').toArray) _ _ (hf d hd) (hf d' hd') (keyLits_dig h d hd) (keyLits_dig h d' hd')
  rw [lits_inj hd hd'] at hiff
  have hr' : r = decide (d = d') := by
    by_cases e : d = d'
    · rw [decide_eq_true e]; exact hiff.2 e
    · rw [decide_eq_false e]
      cases r
      · rfl
      · exact absurd (hiff.1 rfl) e
  subst hr'
  unfold execOp
  simp only [ho, hx, hy, Sem.run_bind, run_eqGuard_agg w _ _ _ _ _ _ h.quiet, Result.andThen_ok, run_eql_struct, Sem.run_pure]
  rw [show (10000 : Nat) = 9998 + 2 from rfl, hr]
  rfl
end
end Mur
namespace Wk
open Go Go.RowKit
section control
variable {P : Program} {Q : Exit → Act → World → Prop} {next : Act → World → Prop} {a : Act} {w : World}
theorem nxt (h : next a w) : Exit.then next Q .normal a w := h
theorem thX {id : Nat} (h : Q (.exit id) a w) : Exit.then next Q (.exit id) a w := h
theorem thR (h : Q .ret a w) : Exit.then next Q .ret a w := h
theorem inN {id : Nat} (h : Q .normal a w) : Exit.inBlock id Q .normal a w := h
theorem inR {id : Nat} (h : Q .ret a w) : Exit.inBlock id Q .ret a w := h
theorem inX {id : Nat} (h : Q .normal a w) : Exit.inBlock id Q (.exit id) a w := by simp only [Exit.inBlock, if_pos]; exact h
theorem inY {id id' : Nat} (e : (id' == id) = false) (h : Q (.exit id') a w) : Exit.inBlock id Q (.exit id') a w := by
  simp only [Exit.inBlock]
  rw [if_neg (by simpa using e)]
  exact h
theorem loop {c : Code} (I : Nat → Act → World → Prop) (m0 : Nat) (h0 : I m0 a w)
    (round : ∀ m a w, I m a w → c.wp P (Exit.then (fun a' w' => ∃ m', m' < m ∧ I m' a' w') Q) a w) : (Code.loop c).wp P Q a w := by
  classical
  have key : ∀ n, ∀ m a w, m ≤ n → I m a w → ∃ k, I k a w ∧ ∀ j, j < k → ¬ I j a w := by
    intro n
    induction n with
    | zero => exact fun m a w hm h => ⟨m, h, fun j hj => by omega⟩
    | succ n ih =>
      intro m a w hm h
      by_cases hx : ∃ j, j < m ∧ I j a w
      · obtain ⟨j, hj, hI⟩ := hx
        exact ih j a w (by omega) hI
      · exact ⟨m, h, fun j hj hI => hx ⟨j, hj, hI⟩⟩
  let μ : Act → World → Nat := fun a w => if h : ∃ k, I k a w ∧ ∀ j, j < k → ¬ I j a w then Classical.choose h else 0
  have hμ : ∀ a w, (∃ m, I m a w) → I (μ a w) a w ∧ ∀ j, j < μ a w → ¬ I j a w := by
    rintro a w ⟨m, hm⟩
    have hx := key m m a w (Nat.le_refl _) hm
    simp only [μ, dif_pos hx]
    exact Classical.choose_spec hx
  refine wp_loop (fun a w => ∃ m, I m a w) μ ⟨m0, h0⟩ fun a w hI => ?_
  refine wp_mono (round _ _ _ (hμ a w hI).1) fun e a' w' hq => ?_
  cases e with
  | normal =>
    obtain ⟨m', hlt, hI'⟩ := hq
    refine ⟨⟨m', hI'⟩, ?_⟩
    have h2 := (hμ a' w' ⟨m', hI'⟩).2
    rcases Nat.lt_or_ge m' (μ a' w') with h | h
    · exact absurd hI' (h2 _ h)
    · exact Nat.lt_of_le_of_lt h hlt
  | _ => exact hq
theorem cut {c : Code} (R : Act → World → Prop) (h : c.wp P (Exit.then R Q) a w) (k : ∀ a w, R a w → Q .normal a w) : c.wp P Q a w :=
  wp_mono h fun e a w hq => by
    cases e with
    | normal => exact k a w hq
    | _ => exact hq
theorem retN {fn : Func} {R : Ending → World → Prop} (v : Value) (hd : a.defers = []) (hr : (results fn a.tmps).run P w = .ok v w) (h : R (.returned v) w) : bodyPost P fn R .normal a w := ⟨hd, v, hr, h⟩
structure Rds (P : Program) (c : Code) (Q : Exit → Act → World → Prop) (n : Nat) (a : Act) (w : World) : Prop where
  out : Code.rounds P c Q n a w
theorem loopN {c : Code} (n : Nat) (h : Rds P c Q n a w) : (Code.loop c).wp P Q a w := wp_loop_rounds n h.out
theorem rdS {c : Code} {n : Nat} (h : c.wp P (Exit.then (Rds P c Q n) Q) a w) : Rds P c Q (n + 1) a w := ⟨wp_mono h fun e a w hq => by
  cases e with
  | normal => exact hq.out
  | _ => exact hq⟩
theorem ret {fn : Func} {R : Ending → World → Prop} (v : Value) (hd : a.defers = []) (hr : (results fn a.tmps).run P w = .ok v w) (h : R (.returned v) w) : bodyPost P fn R .ret a w := ⟨hd, v, hr, h⟩
end control
section plain
variable {P : Program} {ops : Array Oper} {Q : Exit → Act → World → Prop} {a : Act} {w w1 : World} {o : Oper}
structure From (P : Program) (ops : Array Oper) (Q : Exit → Act → World → Prop) (i : Nat) (a : Act) (w : World) : Prop where
  out : wpOps P ops Q ((List.range ops.size).drop i) a w
theorem reg {id : Nat} (h : From P ops Q 0 a w) : (Code.region id ops false).wp P Q a w := wp_region h.out
theorem from_step {i : Nat} (hi : ops[i]? = some o) (h : wpOp P ops Q i (From P ops Q (i + 1)) a w) : From P ops Q i a w := by
  have hlt : i < ops.size := (Array.getElem?_eq_some_iff.1 hi).1
  refine ⟨?_⟩
  rw [List.drop_eq_getElem_cons (by simpa using hlt), List.getElem_range, wpOps_cons]
  exact wpOp_mono (fun _ _ h => h.out) h
theorem rEnd (i : Nat) (hi : (ops.size == i) = true) (h : Q .normal a w) : From P ops Q i a w := by
  refine ⟨?_⟩
  rw [List.drop_of_length_le (by simp only [List.length_range]; exact Nat.le_of_eq (by simpa using hi))]
  exact h
theorem rVal (i : Nat) (d : Option Tmp) (v : Value) (hi : ops[i]? = some o) (hd : o.dst = d) (hw : Region.wanted o (yielded ops a.tmps) = true) (hrun : (execOp a.eval o).run P w = .ok (.value v) w1)
    (h : From P ops Q (i + 1) (a.put d v) w1) : From P ops Q i a w := by
  subst hd
  refine from_step hi ?_
  unfold wpOp
  simp only [hi]
  rw [if_pos hw]
  refine .inl ?_
  unfold Oper.wp
  rw [hrun, Oper.upon_value]
  exact h
theorem rPure (i : Nat) (d : Option Tmp) (v : Value) (hi : ops[i]? = some o) (hd : o.dst = d) (hw : Region.wanted o (yielded ops a.tmps) = true) (hrun : (execOp a.eval o).run P w = .ok (.value v) w)
    (h : From P ops Q (i + 1) (a.put d v) w) : From P ops Q i a w := rVal i d v hi hd hw hrun h
theorem rSkip (i : Nat) (d : Option Tmp) (hi : ops[i]? = some o) (hd : o.dst = d) (hw : Region.wanted o (yielded ops a.tmps) = true) (hrun : (execOp a.eval o).run P w = .ok .skip w1)
    (h : From P ops Q (i + 1) (a.put d undef) w1) : From P ops Q i a w := by
  subst hd
  refine from_step hi ?_
  unfold wpOp
  simp only [hi]
  rw [if_pos hw]
  refine .inl ?_
  unfold Oper.wp
  rw [hrun]
  exact h
theorem rPass (i : Nat) (d : Option Tmp) (hi : ops[i]? = some o) (hd : o.dst = d) (hw : Region.wanted o (yielded ops a.tmps) = false) (h : From P ops Q (i + 1) (a.put d undef) w) : From P ops Q i a w := by
  subst hd
  refine from_step hi ?_
  unfold wpOp
  simp only [hi, hw]
  exact h
theorem rEx (i : Nat) (d : Option Tmp) (F : Value → World → Prop) (hi : ops[i]? = some o) (hd : o.dst = d) (hw : Region.wanted o (yielded ops a.tmps) = true) (hrun : ∃ v w1, (execOp a.eval o).run P w = .ok (.value v) w1 ∧ F v w1)
    (h : ∀ v w1, F v w1 → From P ops Q (i + 1) (a.put d v) w1) : From P ops Q i a w := by
  obtain ⟨v, w1, h1, h2⟩ := hrun
  exact rVal i d v hi hd hw h1 (h v w1 h2)
theorem rExS (i : Nat) (d : Option Tmp) (F : World → Prop) (hi : ops[i]? = some o) (hd : o.dst = d) (hw : Region.wanted o (yielded ops a.tmps) = true) (hrun : ∃ w1, (execOp a.eval o).run P w = .ok .skip w1 ∧ F w1)
    (h : ∀ w1, F w1 → From P ops Q (i + 1) (a.put d undef) w1) : From P ops Q i a w := by
  obtain ⟨w1, h1, h2⟩ := hrun
  exact rSkip i d hi hd hw h1 (h w1 h2)
theorem rCall (i : Nat) (d : Option Tmp) (f : FuncId) (xs : List Operand) (ts : Array TypeId) (vals : List Value) (hi : ops[i]? = some o) (hd : o.dst = d) (hw : Region.wanted o (yielded ops a.tmps) = true)
    (ho : o.op = .call { callee := .value (.func f), args := xs.toArray, argTypes := ts }) (hv : xs.map a.eval = vals) (hrun : (callFunc f vals.toArray).run P w = .ok (.enter f vals.toArray) w)
    (hc : Calls P f vals.toArray w fun e w' => ∃ v, e = .returned v ∧ From P ops Q (i + 1) (a.put d v) w') : From P ops Q i a w := by
  subst hd
  refine from_step hi ?_
  unfold wpOp
  simp only [hi]
  rw [if_pos hw]
  refine .inl ?_
  obtain ⟨dst, op, ty, pos, after, guard⟩ := o
  simp only at ho
  subst ho
  unfold Oper.wp
  rw [execOp_call_go, List.map_toArray, hv, show #[] ++ vals.toArray ++ #[] = vals.toArray by simp, hrun, Oper.upon_enter]
  refine hc.mono ?_
  rintro e w' ⟨v, rfl, h1⟩
  exact h1
end plain
structure At (P : Program) (ops : Array Oper) (Q : Exit → Act → World → Prop) (i : Nat) (K : Act → World → Prop) (a : Act) (w : World) : Prop where
  out : wpOp P ops Q i K a w
section drawn
variable {P : Program} {ops : Array Oper} {o : Oper} {a : Act} {S : World → Prop} {Q : Exit → Act → World → Prop} {fuel : Nat} {listed : Array Bool} {w w1 : World}
theorem dVal (i : Nat) (d : Option Tmp) (v : Value) (hi : ops[i]? = some o) (hd : o.dst = d) (hs : Region.noSelect ops = true) (hf : Region.free .any ops listed i = true) (hr : (Region.ready .any ops listed).contains i = true)
    (hQ : ∀ c a w, Q (.panic c) (a.put d v) w → Q (.panic c) a w) (hw : Region.wanted o (yielded ops a.tmps) = true) (hrun : ∀ w, S w → (execOp a.eval o).run P w = .ok (.value v) w) (hS : S w)
    (h : wpAnyH P .any ops Q S fuel (listed.setIfInBounds i true) (a.put d v) w) : wpAnyH P .any ops Q S (fuel + 1) listed a w := by
  subst hd
  exact wpAnyH_take hi hs hf hr hQ (.inl ⟨hw, hrun⟩) hS h
theorem dPass (i : Nat) (d : Option Tmp) (hi : ops[i]? = some o) (hd : o.dst = d) (hs : Region.noSelect ops = true) (hf : Region.free .any ops listed i = true) (hr : (Region.ready .any ops listed).contains i = true)
    (hQ : ∀ c a w, Q (.panic c) (a.put d undef) w → Q (.panic c) a w) (hw : Region.wanted o (yielded ops a.tmps) = false) (hS : S w)
    (h : wpAnyH P .any ops Q S fuel (listed.setIfInBounds i true) (a.put d undef) w) : wpAnyH P .any ops Q S (fuel + 1) listed a w := by
  subst hd
  exact wpAnyH_take hi hs hf hr hQ (.inr ⟨hw, rfl⟩) hS h
theorem dOp (i : Nat) (hr : Region.ready .any ops listed = [i]) (h : At P ops Q i (fun a' w' => S w' ∧ wpAnyH P .any ops Q S fuel (listed.setIfInBounds i true) a' w') a w) : wpAnyH P .any ops Q S (fuel + 1) listed a w :=
  wpAnyH_all hr (by simp) fun j hj => by
    obtain rfl : j = i := by simpa using hj
    exact h.out
theorem dOp2 (i j : Nat) (hr : Region.ready .any ops listed = [i, j]) (h : At P ops Q i (fun a' w' => S w' ∧ wpAnyH P .any ops Q S fuel (listed.setIfInBounds i true) a' w') a w)
    (k : At P ops Q j (fun a' w' => S w' ∧ wpAnyH P .any ops Q S fuel (listed.setIfInBounds j true) a' w') a w) : wpAnyH P .any ops Q S (fuel + 1) listed a w :=
  wpAnyH_all hr (by simp) fun l hl => by
    rcases List.mem_cons.1 hl with rfl | hl
    · exact h.out
    · obtain rfl : l = j := by simpa using hl
      exact k.out
theorem dOp3 (i j k : Nat) (hr : Region.ready .any ops listed = [i, j, k]) (h : At P ops Q i (fun a' w' => S w' ∧ wpAnyH P .any ops Q S fuel (listed.setIfInBounds i true) a' w') a w)
    (h2 : At P ops Q j (fun a' w' => S w' ∧ wpAnyH P .any ops Q S fuel (listed.setIfInBounds j true) a' w') a w)
    (h3 : At P ops Q k (fun a' w' => S w' ∧ wpAnyH P .any ops Q S fuel (listed.setIfInBounds k true) a' w') a w) : wpAnyH P .any ops Q S (fuel + 1) listed a w :=
  wpAnyH_all hr (by simp) fun l hl => by
    rcases List.mem_cons.1 hl with rfl | hl
    · exact h.out
    · rcases List.mem_cons.1 hl with rfl | hl
      · exact h2.out
      · obtain rfl : l = k := by simpa using hl
        exact h3.out
theorem oVal {i : Nat} {K : Act → World → Prop} (d : Option Tmp) (v : Value) (hi : ops[i]? = some o) (hd : o.dst = d) (hw : Region.wanted o (yielded ops a.tmps) = true) (hrun : (execOp a.eval o).run P w = .ok (.value v) w1)
    (h : K (a.put d v) w1) : At P ops Q i K a w := by
  subst hd
  refine ⟨?_⟩
  unfold wpOp
  simp only [hi]
  rw [if_pos hw]
  refine .inl ?_
  unfold Oper.wp
  rw [hrun, Oper.upon_value]
  exact h
theorem oSkip {i : Nat} {K : Act → World → Prop} (d : Option Tmp) (hi : ops[i]? = some o) (hd : o.dst = d) (hw : Region.wanted o (yielded ops a.tmps) = true) (hrun : (execOp a.eval o).run P w = .ok .skip w1)
    (h : K (a.put d undef) w1) : At P ops Q i K a w := by
  subst hd
  refine ⟨?_⟩
  unfold wpOp
  simp only [hi]
  rw [if_pos hw]
  refine .inl ?_
  unfold Oper.wp
  rw [hrun]
  exact h
theorem oEx {i : Nat} {K : Act → World → Prop} (d : Option Tmp) (F : Value → World → Prop) (hi : ops[i]? = some o) (hd : o.dst = d) (hw : Region.wanted o (yielded ops a.tmps) = true) (hrun : ∃ v w1, (execOp a.eval o).run P w = .ok (.value v) w1 ∧ F v w1)
    (h : ∀ v w1, F v w1 → K (a.put d v) w1) : At P ops Q i K a w := by
  obtain ⟨v, w1, h1, h2⟩ := hrun
  exact oVal d v hi hd hw h1 (h v w1 h2)
theorem oExS {i : Nat} {K : Act → World → Prop} (d : Option Tmp) (F : World → Prop) (hi : ops[i]? = some o) (hd : o.dst = d) (hw : Region.wanted o (yielded ops a.tmps) = true) (hrun : ∃ w1, (execOp a.eval o).run P w = .ok .skip w1 ∧ F w1)
    (h : ∀ w1, F w1 → K (a.put d undef) w1) : At P ops Q i K a w := by
  obtain ⟨w1, h1, h2⟩ := hrun
  exact oSkip d hi hd hw h1 (h w1 h2)
theorem oCall {i : Nat} {K : Act → World → Prop} (d : Option Tmp) (f : FuncId) (xs : List Operand) (ts : Array TypeId) (vals : List Value) (hi : ops[i]? = some o) (hd : o.dst = d) (hw : Region.wanted o (yielded ops a.tmps) = true)
    (ho : o.op = .call { callee := .value (.func f), args := xs.toArray, argTypes := ts }) (hv : xs.map a.eval = vals) (hrun : (callFunc f vals.toArray).run P w = .ok (.enter f vals.toArray) w)
    (hc : Calls P f vals.toArray w fun e w' => ∃ v, e = .returned v ∧ K (a.put d v) w') : At P ops Q i K a w := by
  subst hd
  refine ⟨?_⟩
  unfold wpOp
  simp only [hi]
  rw [if_pos hw]
  refine .inl ?_
  obtain ⟨dst, op, ty, pos, after, guard⟩ := o
  simp only at ho
  subst ho
  unfold Oper.wp
  rw [execOp_call_go, List.map_toArray, hv, show #[] ++ vals.toArray ++ #[] = vals.toArray by simp, hrun, Oper.upon_enter]
  refine hc.mono ?_
  rintro e w' ⟨v, rfl, h1⟩
  exact h1
theorem dEnd (hr : Region.ready .any ops listed = []) (h : Q .normal a w) : wpAnyH P .any ops Q S fuel listed a w := wpAnyH_done hr h _
end drawn
section runs
variable {P : Program} {w w1 : World} {s : Sem Next}
theorem int64 {n z : Int} (e : n = z) (lo : -9223372036854775808 ≤ z) (hi : z ≤ 9223372036854775807) (h : s.run P w = .ok (.value (.int .i64 (IntKind.i64.wrap n))) w1) : s.run P w = .ok (.value (.int .i64 z)) w1 := by
  subst e
  rw [h, show IntKind.i64.wrap n = n from IntWalk.i64_in n ⟨by omega, by omega⟩]
theorem boolT {b : Bool} (e : b = true) (h : s.run P w = .ok (.value (.bool b)) w1) : s.run P w = .ok (.value (.bool true)) w1 := by rw [h, e]
theorem boolF {b : Bool} (e : b = false) (h : s.run P w = .ok (.value (.bool b)) w1) : s.run P w = .ok (.value (.bool false)) w1 := by rw [h, e]
theorem val {v v' : Value} (e : v = v') (h : s.run P w = .ok (.value v) w1) : s.run P w = .ok (.value v') w1 := by rw [h, e]
end runs
end Wk
namespace Go
open Wk
def gd (b : Array Value) (i : Nat) : Value := b.getD i undef
abbrev Z64 : Array Value := #[.int .u8 0, .int .u8 0, .int .u8 0, .int .u8 0, .int .u8 0, .int .u8 0, .int .u8 0, .int .u8 0, .int .u8 0, .int .u8 0, .int .u8 0, .int .u8 0, .int .u8 0, .int .u8 0, .int .u8 0, .int .u8 0, .int .u8 0, .int .u8 0, .int .u8 0, .int .u8 0, .int .u8 0, .int .u8 0, .int .u8 0, .int .u8 0, .int .u8 0, .int .u8 0, .int .u8 0, .int .u8 0, .int .u8 0, .int .u8 0, .int .u8 0, .int .u8 0, .int .u8 0, .int .u8 0, .int .u8 0, .int .u8 0, .int .u8 0, .int .u8 0, .int .u8 0, .int .u8 0, .int .u8 0, .int .u8 0, .int .u8 0, .int .u8 0, .int .u8 0, .int .u8 0, .int .u8 0, .int .u8 0, .int .u8 0, .int .u8 0, .int .u8 0, .int .u8 0, .int .u8 0, .int .u8 0, .int .u8 0, .int .u8 0, .int .u8 0, .int .u8 0, .int .u8 0, .int .u8 0, .int .u8 0, .int .u8 0, .int .u8 0, .int .u8 0]
abbrev Z32 : Array Value := #[.int .u8 0, .int .u8 0, .int .u8 0, .int .u8 0, .int .u8 0, .int .u8 0, .int .u8 0, .int .u8 0, .int .u8 0, .int .u8 0, .int .u8 0, .int .u8 0, .int .u8 0, .int .u8 0, .int .u8 0, .int .u8 0, .int .u8 0, .int .u8 0, .int .u8 0, .int .u8 0, .int .u8 0, .int .u8 0, .int .u8 0, .int .u8 0, .int .u8 0, .int .u8 0, .int .u8 0, .int .u8 0, .int .u8 0, .int .u8 0, .int .u8 0, .int .u8 0]
abbrev ZM : Array Value := #[.int .u8 0, .slice none 0 0, .int .u8 0, .int .u8 0, .int .u8 0, .int .u8 0, .int .u8 0, .int .u8 0, .int .u8 0, .int .u8 0, .int .u8 0, .int .u8 0, .int .u8 0, .int .u8 0, .int .u8 0, .int .u8 0, .int .u8 0, .int .u8 0, .int .u8 0, .int .u8 0, .int .u8 0, .int .u8 0, .int .u8 0, .int .u8 0, .int .u8 0, .int .u8 0, .int .u8 0, .int .u8 0, .int .u8 0, .int .u8 0, .int .u8 0, .int .u8 0, .int .u8 0, .int .u8 0, .int .i64 0, .slice none 0 0, .bool false]
abbrev pt (g o : Nat) : Value := .pointer (some ⟨g, o, none⟩)
section
variable {P : Program} {ops : Array Oper} {Q : Exit → Act → World → Prop} {a : Act} {w : World} {o : Oper} {S : World → Prop} {fuel : Nat} {listed : Array Bool}
theorem rP (i d : Nat) (v : Value) (h : From P ops Q (i + 1) (a.put (some d) v) w) (hi : ops[i]? = some o := by exact rfl) (hd : o.dst = some d := by exact rfl) (hw : Region.wanted o (yielded ops a.tmps) = true := by kernel_rfl) (hrun : (execOp a.eval o).run P w = .ok (.value v) w := by kernel_rfl) : From P ops Q i a w := rPure i (some d) v hi hd hw hrun h
theorem rZ (i d : Nat) (h : From P ops Q (i + 1) (a.put (some d) undef) w) (hi : ops[i]? = some o := by exact rfl) (hd : o.dst = some d := by exact rfl) (hw : Region.wanted o (yielded ops a.tmps) = false := by kernel_rfl) : From P ops Q i a w := rPass i (some d) hi hd hw h
theorem rt {fn : Func} {R : Ending → World → Prop} (v : Value) (h : R (.returned v) w) (hd : a.defers = [] := by exact rfl) (hr : (results fn a.tmps).run P w = .ok v w := by kernel_rfl) : bodyPost P fn R .ret a w := ⟨hd, v, hr, h⟩
theorem rQ (i d : Nat) (v : Value) (hi : ops[i]? = some o) (hd : o.dst = some d) (hrun : (execOp a.eval o).run P w = .ok (.value v) w) (h : From P ops Q (i + 1) (a.put (some d) v) w) (hw : Region.wanted o (yielded ops a.tmps) = true := by kernel_rfl) : From P ops Q i a w := rPure i (some d) v hi hd hw hrun h
theorem rC (i d : Nat) (f : FuncId) (xs : List Operand) (ts : Array TypeId) (vals : List Value) (hc : Calls P f vals.toArray w fun e w' => ∃ v, e = .returned v ∧ From P ops Q (i + 1) (a.put (some d) v) w') (hi : ops[i]? = some o := by exact rfl) (hd : o.dst = some d := by exact rfl) (ho : o.op = .call { callee := .value (.func f), args := xs.toArray, argTypes := ts } := by exact rfl)
    (hw : Region.wanted o (yielded ops a.tmps) = true := by kernel_rfl) (hv : xs.map a.eval = vals := by kernel_rfl) (hrun : (callFunc f vals.toArray).run P w = .ok (.enter f vals.toArray) w := by kernel_rfl) : From P ops Q i a w := rCall i (some d) f xs ts vals hi hd hw ho hv hrun hc
theorem qboolT {s : Sem Next} {w1 : World} {b : Bool} (e : b = true) (h : s.run P w = .ok (.value (.bool b)) w1 := by kernel_rfl) : s.run P w = .ok (.value (.bool true)) w1 := boolT e h
theorem qboolF {s : Sem Next} {w1 : World} {b : Bool} (e : b = false) (h : s.run P w = .ok (.value (.bool b)) w1 := by kernel_rfl) : s.run P w = .ok (.value (.bool false)) w1 := boolF e h
theorem qint64 {s : Sem Next} {w1 : World} {n z : Int} (e : n = z) (lo : -9223372036854775808 ≤ z) (hi : z ≤ 9223372036854775807) (h : s.run P w = .ok (.value (.int .i64 (IntKind.i64.wrap n))) w1 := by kernel_rfl) : s.run P w = .ok (.value (.int .i64 z)) w1 := int64 e lo hi h
theorem rX (i d : Nat) {F : Value → World → Prop} (hi : ops[i]? = some o) (hd : o.dst = some d) (hrun : ∃ v w1, (execOp a.eval o).run P w = .ok (.value v) w1 ∧ F v w1) (h : ∀ v w1, F v w1 → From P ops Q (i + 1) (a.put (some d) v) w1) (hw : Region.wanted o (yielded ops a.tmps) = true := by kernel_rfl) : From P ops Q i a w := rEx i (some d) F hi hd hw hrun h
theorem rY (i : Nat) {F : World → Prop} (hi : ops[i]? = some o) (hd : o.dst = none) (hrun : ∃ w1, (execOp a.eval o).run P w = .ok .skip w1 ∧ F w1) (h : ∀ w1, F w1 → From P ops Q (i + 1) (a.put none undef) w1) (hw : Region.wanted o (yielded ops a.tmps) = true := by kernel_rfl) : From P ops Q i a w := rExS i none F hi hd hw hrun h
theorem dW (i d : Nat) (v : Value) (hS : S w) (h : wpAnyH P .any ops Q S fuel (listed.setIfInBounds i true) (a.put (some d) v) w) (hi : ops[i]? = some o := by exact rfl) (hd : o.dst = some d := by exact rfl) (hrun : ∀ w, S w → (execOp a.eval o).run P w = .ok (.value v) w := by intro _ _; kernel_rfl) (hs : Region.noSelect ops = true := by kernel_rfl) (hf : Region.free .any ops listed i = true := by kernel_rfl) (hr : (Region.ready .any ops listed).contains i = true := by kernel_rfl)
    (hQ : ∀ c a w, Q (.panic c) (a.put (some d) v) w → Q (.panic c) a w := by exact fun _ _ _ h => h) (hw : Region.wanted o (yielded ops a.tmps) = true := by kernel_rfl) : wpAnyH P .any ops Q S (fuel + 1) listed a w := dVal i (some d) v hi hd hs hf hr hQ hw hrun hS h
theorem dZ (i d : Nat) (hS : S w) (h : wpAnyH P .any ops Q S fuel (listed.setIfInBounds i true) (a.put (some d) undef) w) (hi : ops[i]? = some o := by exact rfl) (hd : o.dst = some d := by exact rfl) (hs : Region.noSelect ops = true := by kernel_rfl) (hf : Region.free .any ops listed i = true := by kernel_rfl) (hr : (Region.ready .any ops listed).contains i = true := by kernel_rfl)
    (hQ : ∀ c a w, Q (.panic c) (a.put (some d) undef) w → Q (.panic c) a w := by exact fun _ _ _ h => h) (hw : Region.wanted o (yielded ops a.tmps) = false := by kernel_rfl) : wpAnyH P .any ops Q S (fuel + 1) listed a w := dPass i (some d) hi hd hs hf hr hQ hw hS h
theorem dV (i d : Nat) (v : Value) (hi : ops[i]? = some o) (hd : o.dst = some d) (hrun : ∀ w, S w → (execOp a.eval o).run P w = .ok (.value v) w) (hS : S w) (h : wpAnyH P .any ops Q S fuel (listed.setIfInBounds i true) (a.put (some d) v) w) (hs : Region.noSelect ops = true := by kernel_rfl) (hf : Region.free .any ops listed i = true := by kernel_rfl) (hr : (Region.ready .any ops listed).contains i = true := by kernel_rfl)
    (hQ : ∀ c a w, Q (.panic c) (a.put (some d) v) w → Q (.panic c) a w := by exact fun _ _ _ h => h) (hw : Region.wanted o (yielded ops a.tmps) = true := by kernel_rfl) : wpAnyH P .any ops Q S (fuel + 1) listed a w := dVal i (some d) v hi hd hs hf hr hQ hw hrun hS h
end
end Go
namespace Wk
open Go Go.RowKit
def Off (k : Nat) : List Nat → Prop
  | [] => True
  | s :: S => k ≠ s ∧ Off k S
theorem Off.append {k : Nat} : ∀ {S T : List Nat}, Off k (S ++ T) → Off k S ∧ Off k T
  | [], _, h => ⟨trivial, h⟩
  | _ :: _, _, h => let ⟨a, b⟩ := Off.append h.2; ⟨⟨h.1, a⟩, b⟩
theorem Off.of_lt {k B : Nat} (hk : k < B) : ∀ {S : List Nat}, (∀ s ∈ S, B ≤ s) → Off k S
  | [], _ => trivial
  | s :: _, h => ⟨by have := h s (by simp); omega, Off.of_lt hk fun x hx => h x (by simp [hx])⟩
theorem Off.mem {k : Nat} : ∀ {S : List Nat}, Off k S → ∀ s ∈ S, k ≠ s
  | _ :: _, h, s, hs => by
    rcases List.mem_cons.1 hs with rfl | hs
    · exact h.1
    · exact h.2.mem s hs
structure Chg (S : List Nat) (w w' : World) : Prop where
  os : w'.os = w.os
  tape : w'.tape = w.tape
  output : w'.output = w.output
  size : w.heap.size ≤ w'.heap.size
  block : ∀ k, k < w.heap.size → Off k S → w'.heap[k]? = w.heap[k]?
theorem Chg.refl (w : World) : Chg [] w w := ⟨rfl, rfl, rfl, Nat.le_refl _, fun _ _ _ => rfl⟩
theorem Chg.trans {S T : List Nat} {a b c : World} (h : Chg S a b) (k : Chg T b c) : Chg (S ++ T) a c :=
  ⟨k.os.trans h.os, k.tape.trans h.tape, k.output.trans h.output, Nat.le_trans h.size k.size, fun i hi ho => (k.block i (Nat.lt_of_lt_of_le hi h.size) ho.append.2).trans (h.block i hi ho.append.1)⟩
theorem Chg.more {S T : List Nat} {a b : World} (h : Chg S a b) (hs : ∀ s ∈ S, s ∈ T) : Chg T a b :=
  ⟨h.os, h.tape, h.output, h.size, fun i hi ho => h.block i hi (by
    clear h
    induction S with
    | nil => trivial
    | cons s S ih => exact ⟨ho.mem s (hs s (by simp)), ih fun x hx => hs x (by simp [hx])⟩)⟩
theorem Chg.drewN (w : World) (n : Nat) : Chg [] w (w.drewN n) := ⟨rfl, rfl, rfl, Nat.le_refl _, fun _ _ _ => rfl⟩
theorem Chg.drew (w : World) : Chg [] w w.drew := ⟨rfl, rfl, rfl, Nat.le_refl _, fun _ _ _ => rfl⟩
theorem Chg.alloc (w : World) (o : Obj) : Chg [] w (w.alloc o) := ⟨rfl, rfl, rfl, by simp, fun k hk _ => Below.heap_alloc w o k hk⟩
theorem Chg.ofBelow {w w' : World} (h : Below w.heap.size w w') : Chg [] w w' := ⟨h.os, h.tape, h.output, h.size, fun k hk _ => h.block k hk⟩
theorem Chg.below {S : List Nat} {w w' : World} {B : Nat} (h : Chg S w w') (hB : B ≤ w.heap.size) (hs : ∀ s ∈ S, B ≤ s) : Below B w w' :=
  ⟨h.os, h.tape, h.output, h.size, fun k hk => h.block k (by omega) (Off.of_lt hk hs)⟩
theorem Chg.below0 {w w' : World} (h : Chg [] w w') : Below w.heap.size w w' := h.below (Nat.le_refl _) (by simp)
theorem Chg.grown {w w' : World} {row : Option Nat} (h : w.grownBy w' row) {S : List Nat} (hS : ∀ k, row = some k → k ∈ S) : Chg S w w' :=
  ⟨h.os, h.tape, h.output, h.size, fun k hk ho => h.block k hk (fun e => ho.mem k (hS k e.symm) rfl)⟩
theorem Chg.hp {S : List Nat} {w w' : World} (h : Chg S w w') {k : Nat} {o : Obj} (hk : w.heap[k]? = some o) (ho : Off k S) : w'.heap[k]? = some o := (h.block k (Array.getElem?_eq_some_iff.1 hk).1 ho).trans hk
theorem Chg.cell {S : List Nat} {w w' : World} (h : Chg S w w') {g o : Nat} {v : Value} (hc : w.cell? ⟨g, o, none⟩ = some v) (ho : Off g S) : w'.cell? ⟨g, o, none⟩ = some v :=
  (World.cell?_of_block (w := w) (a := ⟨g, o, none⟩) (h.block g (World.block_lt_of_cell? w ⟨g, o, none⟩ hc) ho)).trans hc
theorem Chg.range {S : List Nat} {w w' : World} (h : Chg S w w') {g o : Nat} {cs : List Value} (hr : w.rangeAt g o cs) (ho : Off g S) : w'.rangeAt g o cs := fun j v hv => h.cell (hr j v hv) ho
def NewOr (B : Nat) (S : List Nat) : List Nat → Prop
  | [] => True
  | t :: T => (t ∈ S ∨ B ≤ t) ∧ NewOr B S T
theorem Off.newOr {B k : Nat} (hk : k < B) {S : List Nat} (h : Off k S) : ∀ {T : List Nat}, NewOr B S T → Off k T
  | [], _ => trivial
  | t :: _, ⟨h1, h2⟩ => ⟨by
      rcases h1 with h1 | h1
      · exact h.mem t h1
      · omega, Off.newOr hk h h2⟩
theorem Chg.step {S T : List Nat} {a b c : World} (h : Chg S a b) (k : Chg T b c) (ht : NewOr a.heap.size S T) : Chg S a c :=
  ⟨k.os.trans h.os, k.tape.trans h.tape, k.output.trans h.output, Nat.le_trans h.size k.size, fun i hi ho => (k.block i (Nat.lt_of_lt_of_le hi h.size) (ho.newOr hi ht)).trans (h.block i hi ho)⟩
def blk (v : Value) : List Nat := match v.ownBlock with
  | some g => [g]
  | none => []
theorem mem_blk {v : Value} {k : Nat} (h : v.ownBlock = some k) : k ∈ blk v := by simp [blk, h]
theorem off_blk {v : Value} {k : Nat} (h : ∀ g, v.ownBlock = some g → k ≠ g) : Off k (blk v) := by
  unfold blk
  split
  · rename_i g hg
    exact ⟨h g hg, trivial⟩
  · trivial
theorem newOr_blk {B : Nat} {S : List Nat} {v : Value} (h : ∀ g, v.ownBlock = some g → B ≤ g) : NewOr B S (blk v) := by
  unfold blk
  split
  · rename_i g hg
    exact ⟨.inr (h g hg), trivial⟩
  · trivial
theorem range_row {w : World} {g : Nat} {cs : Array Value} {t : TypeId} {fr : Nat × Nat} (h : w.heap[g]? = some (.cells cs t fr)) : w.rangeAt g 0 cs.toList := fun j v hv => by
  rw [Nat.zero_add, cell_of_row w g j cs t fr h]
  simpa using hv
theorem range_sub {w : World} {g : Nat} {cs : Array Value} {t : TypeId} {fr : Nat × Nat} (o : Nat) (sub : List Value) (h : w.heap[g]? = some (.cells cs t fr)) (e : (cs.toList.drop o).take sub.length = sub) : w.rangeAt g o sub := fun j v hv => by
  rw [cell_of_row w g (o + j) cs t fr h]
  have hj := (List.getElem?_eq_some_iff.1 hv).1
  rw [← e, List.getElem?_take, if_pos (by omega), List.getElem?_drop] at hv
  simpa using hv
theorem new_ex {P : Program} {w : World} {s : Sem Next} (v : Value) (cs : Array Value) (t : TypeId) (h : s.run P w = .ok (.value v) (w.alloc (.cells cs t))) :
    ∃ v1 w1, s.run P w = .ok (.value v1) w1 ∧ v1 = v ∧ w1.heap[w.heap.size]? = some (.cells cs t (0, 0)) ∧ Chg [] w w1 ∧ w.heap.size < w1.heap.size :=
  ⟨v, _, h, rfl, heap_alloc_new w _, Chg.alloc w _, by simp⟩
theorem dReg {P : Program} {id : Nat} {ops : Array Oper} {Q : Exit → Act → World → Prop} {a : Act} {w : World} (S : List Nat) (hm : P.follows .mixedOrders = true)
    (h : ∀ w1, Chg [] w w1 → w1.heap.size = w.heap.size → wpAnyH P .any ops Q (fun w' => Chg S w1 w') ops.size (Array.replicate ops.size false) a w1) : (Code.region id ops true).wp P Q a w :=
  wp_region_held (S := fun w' => Chg S w.drew w') hm (h w.drew (Chg.drew w) rfl)
def Sl (w : World) (A : Option Addr) (n sz : Nat) (cs : List Value) : Prop := cs.length = n * sz ∧ (cs ≠ [] → ∃ g off, A = some ⟨g, off, none⟩ ∧ w.rangeAt g off cs)
theorem Sl.nil (w : World) (A : Option Addr) (sz : Nat) : Sl w A 0 sz [] := ⟨by simp, fun h => absurd rfl h⟩
theorem Sl.chg {S : List Nat} {w w' : World} {A : Option Addr} {n sz : Nat} {cs : List Value} (h : Sl w A n sz cs) (c : Chg S w w') (ho : ∀ g off, A = some ⟨g, off, none⟩ → g < w.heap.size → Off g S) : Sl w' A n sz cs :=
  ⟨h.1, fun hn => by
    obtain ⟨g, off, e, hr⟩ := h.2 hn
    have hlt : g < w.heap.size := by
      rcases cs with _ | ⟨v, cs⟩
      · exact absurd rfl hn
      · exact World.block_lt_of_cell? w ⟨g, off + 0, none⟩ (hr 0 v rfl)
    exact ⟨g, off, e, c.range hr (ho g off e hlt)⟩⟩
theorem Sl.below {w w' : World} {A : Option Addr} {n sz : Nat} {cs : List Value} (h : Sl w A n sz cs) (b : Below w.heap.size w w') : Sl w' A n sz cs := h.chg (Chg.ofBelow b) fun _ _ _ _ => trivial
theorem Sl.cell {w : World} {g off n sz : Nat} {cs : List Value} (h : Sl w (some ⟨g, off, none⟩) n sz cs) {j : Nat} {v : Value} (hv : cs[j]? = some v) : w.cell? ⟨g, off + j, none⟩ = some v := by
  obtain ⟨g', off', e, hr⟩ := h.2 (by rintro rfl; simp at hv)
  injection e with e
  injection e with e1 e2
  subst e1 e2
  exact hr j v hv
section runs
variable {P : Program} {a : Act} {o : Oper} {w : World}
theorem index_sl (t e : TypeId) (x y : Operand) (ho : o.op = .indexAddr t x y) (ht : P.underlying t = some (.slice e)) (sz : Nat) (hsz : (P.info? e).map (·.size) = some sz) (g off n c i : Nat) (k : IntKind) (hx : a.eval x = .slice (some ⟨g, off, none⟩) n c)
    (hy : a.eval y = .int k (i : Int)) (hlt : i < n) : (execOp a.eval o).run P w = .ok (.value (.pointer (some ⟨g, off + i * sz, none⟩))) w := by
  obtain ⟨inf, hi, hs⟩ := Option.map_eq_some_iff.1 hsz
  unfold execOp
  simp only [ho, hx, hy]
  have h1 : (0 : Int) ≤ (i : Int) ∧ (i : Int) < (n : Int) := by omega
  simp [Instr.indexAt, asIntOf, run_underlying ht, Go.sizeOf, typeInfo, hi, hs, hlt, Addr.add_mid]
theorem index_arr (t e : TypeId) (x y : Operand) (ho : o.op = .indexAddr t x y) (n : Nat) (ht : P.underlying t = some (.array n e)) (sz : Nat) (hsz : (P.info? e).map (·.size) = some sz) (g off i : Nat) (k : IntKind) (hx : a.eval x = .pointer (some ⟨g, off, none⟩))
    (hy : a.eval y = .int k (i : Int)) (hlt : i < n) : (execOp a.eval o).run P w = .ok (.value (.pointer (some ⟨g, off + i * sz, none⟩))) w := by
  obtain ⟨inf, hi, hs⟩ := Option.map_eq_some_iff.1 hsz
  unfold execOp
  simp only [ho, hx, hy]
  simp [Instr.indexAt, asIntOf, Instr.sureAddr, run_underlying ht, Go.sizeOf, typeInfo, hi, hs, hlt, Addr.add_mid]
theorem load1 (ty : TypeId) (x : Operand) (ho : o.op = .load ty x) (hu : (match P.underlying ty with | some (.struct _) | some (.array _ _) | none => false | _ => true) = true) (ad : Addr) (hx : a.eval x = .pointer (some ad)) (v : Value) (hc : w.cell? ad = some v) :
    (execOp a.eval o).run P w = .ok (.value v) w := by
  unfold execOp
  simp only [ho, hx, Instr.loadAt, Instr.sureAddr, Sem.run_bind, Sem.run_pure, Result.andThen_ok, loadVar]
  have hb : (isAgg ty).run P w = .ok false w := by
    unfold isAgg
    cases h : P.underlying ty with
    | none => rw [h] at hu; cases hu
    | some d =>
      rw [h] at hu
      simp only [Sem.run_bind, run_underlying h, Result.andThen_ok]
      cases d <;> first | rfl | cases hu
  simp only [hb, Result.andThen_ok, Bool.false_eq_true, if_false]
  simp [load, Sem.run, hc]
theorem loadR (ty : TypeId) (x : Operand) (ho : o.op = .load ty x) (d : TypeDesc) (hu : P.underlying ty = some d) (hd : d.isRow = true) (g off : Nat) (hx : a.eval x = .pointer (some ⟨g, off, none⟩)) (cs : List Value)
    (hi : (P.info? ty).map (·.size) = some cs.length) (hc : w.rangeAt g off cs) : (execOp a.eval o).run P w = .ok (.value (.agg cs.toArray)) w := by
  unfold execOp
  simp only [ho, hx, Sem.run_bind, run_loadAt_mid w g off ty cs d hc hu hd hi, Result.andThen_ok, Sem.run_pure]
theorem store1 (ty : TypeId) (x y : Operand) (ho : o.op = .store ty x y) (hi : (P.info? ty).map (·.size) = some 1) (g off : Nat) (hx : a.eval x = .pointer (some ⟨g, off, none⟩)) (v : Value) (hy : a.eval y = v) (h1 : v.oneCell' = true)
    (t : TypeId) (cs : Array Value) (hg : w.heap[g]? = some (.cells cs t (0, 0))) (hlt : off < cs.size) :
    ∃ w', (execOp a.eval o).run P w = .ok .skip w' ∧ w'.heap[g]? = some (.cells (cs.setIfInBounds off v) t (0, 0)) ∧ Chg [g] w w' := by
  refine ⟨w.setCell ⟨g, off, none⟩ v, ?_, heap_setCell_same w g off cs t v hg, ⟨rfl, rfl, rfl, by simp [World.setCell], fun k _ hk => Below.heap_setCell _ _ _ _ hk.1⟩⟩
  obtain ⟨inf, hinf, hs⟩ := Option.map_eq_some_iff.1 hi
  have hc : w.cell? ⟨g, off, none⟩ = some cs[off] := by rw [cell_of_row w g off cs t _ hg, Array.getElem?_eq_getElem hlt]
  have hz : w.frozen? ⟨g, off, none⟩ = false := frozen_of_row w g off cs t hg
  have hcells : v.cells = #[v] := by cases v <;> first | rfl | cases h1
  have hsz : (Go.sizeOf ty).run P w = .ok 1 w := by simp [Go.sizeOf, typeInfo, hinf, hs]
  have hst : (storeVar ty ⟨g, off, none⟩ v).run P w = .ok () (w.setCell ⟨g, off, none⟩ v) := by
    unfold storeVar
    rw [hcells]
    simp only [Sem.run_bind, hsz, Result.andThen_ok]
    rw [if_neg (by simp)]
    have := run_storeCells_cells (P := P) g off [v] 0 w (fun j hj => by obtain rfl : j = 0 := by simpa using hj
                                                                        simp [hc]) (fun j hj => by obtain rfl : j = 0 := by simpa using hj
                                                                                                   simpa using hz) (by simpa using h1)
    simpa [World.setCells] using this
  unfold execOp
  simp only [ho, hx, hy, Instr.storeAt, Instr.sureAddr, Sem.run_bind, Sem.run_pure, Result.andThen_ok, hst]
theorem setCells_chg (g : Nat) : ∀ (vs : List Value) (o : Nat) (w : World), Chg [g] w (w.setCells g o vs)
  | [], _, w => (Chg.refl w).more (by simp)
  | v :: vs, o, w => by
    have h1 : Chg [g] w (w.setCell ⟨g, o, none⟩ v) := ⟨rfl, rfl, rfl, by simp [World.setCell], fun k _ hk => Below.heap_setCell _ _ _ _ hk.1⟩
    exact (h1.trans (setCells_chg g vs (o + 1) _)).more (by simp)
theorem splice_set {α : Type} (cs : List α) (o : Nat) (v : α) (r : List α) (h : o < cs.length) : splice (cs.set o v) (o + 1) r = splice cs o (v :: r) := by
  unfold splice
  rw [List.take_set, List.take_succ_eq_append_getElem (by omega), List.drop_set_of_lt (by omega)]
  simp only [List.length_cons, List.cons_append]
  rw [List.set_append_right _ _ (by simp only [List.length_take]; omega)]
  simp only [List.length_take, Nat.min_eq_left (Nat.le_of_lt h), Nat.sub_self, List.set_cons_zero, List.append_assoc, List.cons_append, List.nil_append]
  rw [show o + 1 + r.length = o + (r.length + 1) by omega]
theorem heap_setCells (g : Nat) (t : TypeId) : ∀ (vs : List Value) (o : Nat) (w : World) (cs : List Value), w.heap[g]? = some (.cells cs.toArray t (0, 0)) → o + vs.length ≤ cs.length → (w.setCells g o vs).heap[g]? = some (.cells (splice cs o vs).toArray t (0, 0))
  | [], o, w, cs, h, hl => by
    have : splice cs o [] = cs := by simp [splice]
    rw [this]
    exact h
  | v :: vs, o, w, cs, h, hl => by
    simp only [List.length_cons] at hl
    have h1 := heap_setCell_same w g o cs.toArray t v h
    rw [List.setIfInBounds_toArray] at h1
    have h2 := heap_setCells g t vs (o + 1) (w.setCell ⟨g, o, none⟩ v) (cs.set o v) h1 (by simp; omega)
    rw [splice_set cs o v vs (by omega)] at h2
    exact h2
theorem storeR (ty : TypeId) (x y : Operand) (ho : o.op = .store ty x y) (g off : Nat) (hx : a.eval x = .pointer (some ⟨g, off, none⟩)) (vs : List Value) (hy : a.eval y = .agg vs.toArray) (hi : (P.info? ty).map (·.size) = some vs.length) (h1 : ∀ v ∈ vs, v.oneCell' = true)
    (t : TypeId) (cs : List Value) (hg : w.heap[g]? = some (.cells cs.toArray t (0, 0))) (hlt : off + vs.length ≤ cs.length) :
    ∃ w', (execOp a.eval o).run P w = .ok .skip w' ∧ w'.heap[g]? = some (.cells (splice cs off vs).toArray t (0, 0)) ∧ Chg [g] w w' := by
  have hth : w.there g off vs.length := fun j hj => by
    refine ⟨?_, frozen_of_row w g _ _ t hg⟩
    rw [cell_of_row w g (off + j) _ t _ hg]
    simp only [List.getElem?_toArray]
    rw [List.getElem?_eq_getElem (by omega)]
    rfl
  refine ⟨w.setCells g off vs, ?_, ?_, ?_⟩
  · unfold execOp
    simp only [ho, hx, hy, Sem.run_bind, run_storeAt_mid w g off ty vs.toArray (by simpa using hth) (by simpa using hi) (all_oneCell_toArray h1), Result.andThen_ok, Sem.run_pure]
  · exact heap_setCells g t vs off w cs hg hlt
  · exact setCells_chg g vs off w
theorem append_run (s x : Operand) (t e : TypeId) (ho : o.op = .call { callee := .builtin .append, args := #[s, x], argTypes := #[t, t] }) (ht : P.underlying t = some (.slice e)) (z : Value) (sz bytes : Nat)
    (hinfo : (P.info? e).map (fun i => (i.zero, i.size, i.bytes)) = some (some z, sz, bytes)) (hz : z.cells.size = sz) (hsz : 0 < sz) (base : Nat) (v : Value) (n : Nat) (xs : List Value) (A : Option Addr) (m c : Nat) (ys : List Value) (hs : a.eval s = v) (hx : a.eval x = .slice A m c)
    (HO : w.ownsRow base e sz v n xs) (HR : Sl w A m sz ys) (hA : A = none → c = 0) (h1 : ∀ u ∈ ys, u.oneCell' = true) (hbase : base ≤ w.heap.size) (h63 : n + m ≤ maxLen) (hl : (n + m) * bytes ≤ 140737488355328) :
    ∃ v1 w1, (execOp a.eval o).run P w = .ok (.value v1) w1 ∧ w1.ownsRow base e sz v1 (n + m) (xs ++ ys) ∧ Chg (blk v) w w1 ∧ (v1.ownBlock = v.ownBlock ∨ v1.ownBlock = some w.heap.size) := by
  obtain ⟨i0, hi, hzz⟩ := Option.map_eq_some_iff.1 hinfo
  simp only [Prod.mk.injEq] at hzz
  obtain ⟨hz0, hz1, hz2⟩ := hzz
  have key : ∃ v1 w1, (Builtin.append_ #[t, t] o.type #[v, .slice A m c]).run P w = .ok v1 w1 ∧ w1.ownsRow base e sz v1 (n + m) (xs ++ ys) ∧ Chg (blk v) w w1 ∧ (v1.ownBlock = v.ownBlock ∨ v1.ownBlock = some w.heap.size) := by
    rcases A with _ | ad
    · have h0 : ys = [] := by
        rcases ys with _ | ⟨y, ys⟩
        · rfl
        · obtain ⟨g, off, h, _⟩ := HR.2 (by simp)
          cases h
      subst h0
      have hm : m = 0 := by
        have := HR.1
        simp only [List.length_nil] at this
        rcases Nat.eq_zero_or_pos m with h | h
        · exact h
        · have := Nat.mul_pos h hsz
          omega
      subst hm
      obtain rfl := hA rfl
      refine ⟨v, w, ?_, by simpa using HO, (Chg.refl w).more (by simp), .inl rfl⟩
      exact run_append_owned_none (P := P) (w := w) base t o.type e i0 sz ht hi v n xs HO
    · have hcells : ∀ j u, ys[j]? = some u → w.cell? (ad.add j) = some u := by
        intro j u hu
        obtain ⟨g, off, h', hc⟩ := HR.2 (by rintro rfl; simp at hu)
        injection h' with h'
        subst h'
        rw [Addr.add_mid]
        exact hc j u hu
      obtain ⟨v1, w1, hr, h2, h3, _, h5⟩ := run_append_own_at (P := P) w base t o.type e i0 z sz bytes ht hi hz0 hz1 hz2 hz hsz v n xs HO ad m c ys HR.1 hcells h1 h63 hl hbase
      exact ⟨v1, w1, hr, h2, Chg.grown h3 fun k hk => mem_blk hk, h5⟩
  obtain ⟨v1, w1, hr, h2, h3, h5⟩ := key
  refine ⟨v1, w1, ?_, h2, h3, h5⟩
  unfold execOp
  simp only [ho, resolve, invoke, builtin, Sem.run_bind, Sem.run_pure, Result.andThen_ok, List.map_toArray, List.map_cons, List.map_nil, hs, hx, hr]
end runs
theorem own_chg {w w' : World} {base : Nat} {e : TypeId} {sz : Nat} {v : Value} {n : Nat} {xs : List Value} {S : List Nat} (h : w.ownsRow base e sz v n xs) (c : Chg S w w') (ho : ∀ g, v.ownBlock = some g → base ≤ g → g < w.heap.size → Off g S) : w'.ownsRow base e sz v n xs := by
  obtain ⟨h1, h2⟩ := h
  refine ⟨h1, ?_⟩
  rcases h2 with h2 | ⟨g, cap, cur, hv, hg, hh, r⟩
  · exact .inl h2
  · exact .inr ⟨g, cap, cur, hv, hg, c.hp hh (ho g (by rw [hv]; rfl) hg (Array.getElem?_eq_some_iff.1 hh).1), r⟩
theorem own_sl {w : World} {base : Nat} {e : TypeId} {sz : Nat} {v : Value} {n : Nat} {xs : List Value} (h : w.ownsRow base e sz v n xs) : ∃ A c, v = .slice A n c ∧ n ≤ c ∧ c ≤ maxLen ∧ (A = none → c = 0) ∧ Sl w A n sz xs ∧ ∀ g off, A = some ⟨g, off, none⟩ → base ≤ g ∧ g < w.heap.size := by
  obtain ⟨h1, h2⟩ := h
  rcases h2 with ⟨rfl, rfl⟩ | ⟨g, cap, cur, rfl, hb, hg, hnc, hcm, hcs, ht⟩
  · obtain rfl : xs = [] := List.eq_nil_of_length_eq_zero (by simpa using h1)
    exact ⟨none, 0, rfl, Nat.le_refl _, by unfold maxLen; omega, fun _ => rfl, Sl.nil _ _ _, fun g off h => by cases h⟩
  · refine ⟨_, cap, rfl, hnc, hcm, (fun h => by cases h), ⟨h1, fun _ => ⟨g, 0, rfl, fun j u hu => ?_⟩⟩, fun g' off h => ?_⟩
    · rw [Nat.zero_add, cell_of_row w g j cur e _ hg, ← ht] at *
      rw [List.getElem?_take] at hu
      split at hu
      · rw [← hu, Array.getElem?_toList]
      · cases hu
    · injection h with h
      injection h with h1 h2
      subst h1
      exact ⟨hb, (Array.getElem?_eq_some_iff.1 hg).1⟩
theorem own_some {w : World} {base : Nat} {e : TypeId} {sz : Nat} {A : Option Addr} {c n : Nat} {xs : List Value} (h : w.ownsRow base e sz (.slice A n c) n xs) (hn : 0 < n) : ∃ g, A = some ⟨g, 0, none⟩ ∧ Sl w (some ⟨g, 0, none⟩) n sz xs := by
  obtain ⟨A', c', e1, _, _, _, hs, _⟩ := own_sl h
  injection e1 with e1 e2 e3
  subst e1
  rcases h.2 with ⟨h1, h2⟩ | ⟨g, cap, cur, h1, _⟩
  · omega
  · injection h1 with h1
    subst h1
    exact ⟨g, rfl, hs⟩
end Wk
namespace Wk
open Go Go.RowKit
theorem rem_nat {P : Program} {w : World} {a : Act} {o : Oper} (t ty : TypeId) (x y : Operand) (ho : o.op = .binOp .rem t x y ty) (i n : Nat) (hx : a.eval x = .int .i64 (i : Int)) (hy : a.eval y = .int .i64 (n : Int)) (hn : 0 < n) :
    (execOp a.eval o).run P w = .ok (.value (.int .i64 ((i % n : Nat) : Int))) w := by
  have hne : ¬ n = 0 := by omega
  unfold execOp
  simp only [ho, hx, hy]
  simp [eqGuard, binOp, Op.intDiv, hne, Int.tmod_eq_emod_of_nonneg (show (0 : Int) ≤ (i : Int) by omega)]
end Wk
namespace Go
open Wk
theorem ld {P : Program} {a : Act} {w : World} {o : Oper} (ty : TypeId) (x g off : Nat) (v : Value) (hc : w.cell? ⟨g, off, none⟩ = some v) (ho : o.op = .load ty (.tmp x) := by exact rfl) (hi : (match P.underlying ty with | some (.struct _) | some (.array _ _) | none => false | _ => true) = true := by kernel_rfl) (hx : a.eval (.tmp x) = .pointer (some ⟨g, off, none⟩) := by kernel_rfl) : (execOp a.eval o).run P w = .ok (.value v) w := load1 ty (.tmp x) ho hi ⟨g, off, none⟩ hx v hc
end Go
namespace Mur
open Go Go.RowKit Wk
structure Fil where
  b : List UInt8
  n : Nat
structure Dk where
  x : Fil
  y : Fil
def Fil.ok (z : Fil) : Prop := z.n ≤ z.b.length ∧ z.b.length ≤ 1048576
def Dk.fil (d : Dk) (f : Int) : Fil := if f = 0 then d.x else d.y
def Dk.put (d : Dk) (f : Int) (z : Fil) : Dk := if f = 0 then ⟨z, d.y⟩ else if f = 1 then ⟨d.x, z⟩ else d
def hasF (f : Int) : Prop := f = 0 ∨ f = 1
instance (f : Int) : Decidable (hasF f) := by unfold hasF; infer_instance
def Dk.bytes (d : Dk) (f : Int) : List UInt8 := if hasF f then (d.fil f).b else []
structure Dsk (e T : TypeId) (w : World) (g : Nat) (d : Dk) (vx vy : Value) : Prop where
  hp : w.heap[g]? = some (.cells #[vx, .int .i64 (d.x.n : Int), vy, .int .i64 (d.y.n : Int)] T (0, 0))
  ox : w.ownsRow (g + 1) e 1 vx d.x.b.length (b8s d.x.b)
  oy : w.ownsRow (g + 1) e 1 vy d.y.b.length (b8s d.y.b)
  ne : ∀ k, vx.ownBlock = some k → vy.ownBlock ≠ some k
  kx : d.x.ok
  ky : d.y.ok
def foot (g : Nat) (vx vy : Value) : List Nat := g :: (blk vx ++ blk vy)
theorem mem_blk_iff {v : Value} {k : Nat} : k ∈ blk v ↔ v.ownBlock = some k := by
  unfold blk
  split
  · rename_i h; rw [h]; simp [eq_comm]
  · rename_i h; rw [h]; simp
theorem newOr_iff {B : Nat} {S : List Nat} : ∀ {T : List Nat}, NewOr B S T ↔ ∀ t ∈ T, t ∈ S ∨ B ≤ t
  | [] => by simp [NewOr]
  | t :: T => by simp [NewOr, newOr_iff (T := T)]
section
variable {e T : TypeId} {w w' : World} {g : Nat} {d : Dk} {vx vy v' : Value}
theorem Dsk.bx (h : Dsk e T w g d vx vy) {k : Nat} (hk : vx.ownBlock = some k) : g < k ∧ k < w.heap.size := by
  refine ⟨?_, (World.ownsRow.lt h.ox k hk).2⟩
  rcases h.ox.2 with ⟨rfl, _⟩ | ⟨g', cap, cur, rfl, hb, _⟩
  · cases hk
  · obtain rfl : g' = k := by simpa [Value.ownBlock] using hk
    omega
theorem Dsk.by_ (h : Dsk e T w g d vx vy) {k : Nat} (hk : vy.ownBlock = some k) : g < k ∧ k < w.heap.size := by
  refine ⟨?_, (World.ownsRow.lt h.oy k hk).2⟩
  rcases h.oy.2 with ⟨rfl, _⟩ | ⟨g', cap, cur, rfl, hb, _⟩
  · cases hk
  · obtain rfl : g' = k := by simpa [Value.ownBlock] using hk
    omega
theorem Dsk.lt (h : Dsk e T w g d vx vy) : g < w.heap.size := (Array.getElem?_eq_some_iff.1 h.hp).1
theorem Dsk.mem (h : Dsk e T w g d vx vy) : ∀ s ∈ foot g vx vy, g ≤ s ∧ s < w.heap.size := by
  intro s hs
  have := h.lt
  rcases List.mem_cons.1 hs with rfl | hs
  · exact ⟨Nat.le_refl _, h.lt⟩
  · rcases List.mem_append.1 hs with hs | hs
    · have := h.bx (mem_blk_iff.1 hs); omega
    · have := h.by_ (mem_blk_iff.1 hs); omega
end
structure DskF (e T : TypeId) (w : World) (g : Nat) (d : Dk) (F : List Nat) : Prop where
  out : ∃ vx vy, Dsk e T w g d vx vy ∧ F = foot g vx vy
section
variable {e T : TypeId} {w w' : World} {g : Nat} {d : Dk} {F : List Nat}
theorem DskF.mem (h : DskF e T w g d F) : ∀ s ∈ F, g ≤ s ∧ s < w.heap.size := by
  obtain ⟨vx, vy, q, rfl⟩ := h.out
  exact q.mem
theorem DskF.lt (h : DskF e T w g d F) : g < w.heap.size := by
  obtain ⟨vx, vy, q, rfl⟩ := h.out
  exact q.lt
theorem DskF.ok (h : DskF e T w g d F) : d.x.ok ∧ d.y.ok := by
  obtain ⟨vx, vy, q, rfl⟩ := h.out
  exact ⟨q.kx, q.ky⟩
theorem DskF.chg {S : List Nat} (h : DskF e T w g d F) (c : Chg S w w') (hs : ∀ s ∈ F, s < w.heap.size → Off s S) : DskF e T w' g d F := by
  obtain ⟨vx, vy, q, rfl⟩ := h.out
  refine ⟨vx, vy, ⟨c.hp q.hp (hs g (by simp [foot]) q.lt), own_chg q.ox c fun k hk _ hl => hs k ?_ hl, own_chg q.oy c fun k hk _ hl => hs k ?_ hl, q.ne, q.kx, q.ky⟩, rfl⟩
  · simp [foot, mem_blk_iff.2 hk]
  · simp [foot, mem_blk_iff.2 hk]
end
theorem own_empty {w : World} {base e g : Nat} (h : w.heap[g]? = some (.cells #[] e (0, 0))) (hb : base ≤ g) : w.ownsRow base e 1 (.slice (some ⟨g, 0, none⟩) 0 0) 0 (b8s []) := ⟨rfl, .inr ⟨g, 0, #[], rfl, hb, h, Nat.le_refl _, by unfold maxLen; omega, rfl, rfl⟩⟩
theorem own_nil (w : World) (base e : Nat) : w.ownsRow base e 1 (.slice none 0 0) 0 (b8s []) := ⟨rfl, .inl ⟨rfl, rfl⟩⟩
def str (l : List UInt8) : ByteArray := ⟨l.toArray⟩
section
variable {P : Program} {w : World} {a : Act} {o : Oper}
theorem run_str (s t : TypeId) (x : Operand) (e : TypeId) (ho : o.op = .convert s t x) (hs : P.underlying s = some (.slice e)) (he : P.underlying e = some (.int .u8)) (ht : P.underlying t = some .string) (A : Option Addr) (n c : Nat) (l : List UInt8)
    (hx : a.eval x = .slice A n c) (hb : Byt w A n l) : (execOp a.eval o).run P w = .ok (.value (.string (str l))) w := by
  have key : (convert s t (.slice A n c)).run P w = .ok (.string (str l)) w := by
    rcases A with _ | ad
    · have h0 : l = [] := by
        rcases l with _ | ⟨y, l⟩
        · rfl
        · obtain ⟨g, off, h, _⟩ := hb.2 (by have := hb.1; simp at this; omega)
          cases h
      subst h0
      exact run_convert_bytes_nil w s e hs he n c t ht
    · obtain ⟨g, off, sp⟩ := ad
      have hcell : ∀ j (hj : j < l.length), w.cell? ((⟨g, off, sp⟩ : Addr).add j) = some (.int .u8 (l[j].toNat : Int)) := by
        intro j hj
        obtain ⟨g', off', h', hc⟩ := hb.2 (by have := hb.1; omega)
        injection h' with h'
        injection h' with h1 h2 h3
        subst h1 h2 h3
        rw [Addr.add_mid, hc j (by have := hb.1; omega)]
        simp [List.getD_eq_getElem?_getD, hj]
      have := run_convert_bytes_back (P := P) w s t e ⟨g, off, sp⟩ c l hs he ht hcell
      rw [hb.1] at this
      exact this
  unfold execOp
  simp only [ho, hx, Sem.run_bind, key, Result.andThen_ok, Sem.run_pure]
theorem run_mark (t : TypeId) (x : Operand) (e : TypeId) (ho : o.op = .convert t t x) (ht : P.underlying t = some (.slice e)) (he : P.underlying e = some (.int .u8)) (g n c : Nat) (cs : Array Value) (hx : a.eval x = .slice (some ⟨g, 0, none⟩) n c)
    (hg : w.heap[g]? = some (.cells cs e (0, 0))) : ∃ v1 w1, (execOp a.eval o).run P w = .ok (.value v1) w1 ∧ v1 = .slice (some ⟨g, 0, none⟩) n c ∧ w1.heap[g]? = some (.cells cs e (cs.size, cs.size + 1)) ∧ Chg [g] w w1 := by
  have hlt := (Array.getElem?_eq_some_iff.1 hg).1
  have hsh : w.shape? g = some (e, cs.size) := by
    unfold World.shape?
    rw [hg]
  have key : (convert t t (.slice (some ⟨g, 0, none⟩) n c)).run P w = .ok (.slice (some ⟨g, 0, none⟩) n c) (w.freeze ⟨g, cs.size, none⟩ 1) := by
    simp [convert, run_underlying ht, run_underlying he, markStringish, hsh]
  refine ⟨_, w.freeze ⟨g, cs.size, none⟩ 1, ?_, rfl, ?_, ?_⟩
  · unfold execOp
    simp only [ho, hx, Sem.run_bind, key, Result.andThen_ok, Sem.run_pure]
  · unfold World.freeze
    rw [if_neg (by decide)]
    show (w.heap.modify g _)[g]? = _
    rw [Array.getElem?_modify]
    simp [hg]
  · unfold World.freeze
    rw [if_neg (by decide)]
    refine ⟨rfl, rfl, rfl, by simp, fun k hk ho => ?_⟩
    show (w.heap.modify g _)[k]? = _
    rw [Array.getElem?_modify, if_neg (fun h => ho.1 h.symm)]
theorem run_op_cut_to (t : TypeId) (x z : Operand) (ho : o.op = .slice t x none (some z) none) (e : TypeId) (ht : P.underlying t = some (.slice e)) (hsz : (P.info? e).map (·.size) = some 1) (A : Option Addr) (n c h : Nat)
    (hx : a.eval x = .slice A n c) (hz : a.eval z = .int .i64 (h : Int)) (hh : h ≤ n) (hnc : n ≤ c) : (execOp a.eval o).run P w = .ok (.value (.slice (cutA A c 0) h c)) w := by
  unfold execOp
  simp only [ho, hx, hz, Option.map_some, Option.map_none, Sem.run_bind, run_cut_to t e ht hsz A n c h hh hnc, Result.andThen_ok, Sem.run_pure]
theorem byt_to {A : Option Addr} {n c : Nat} {l : List UInt8} (h : Byt w A n l) (k : Nat) (hk : k ≤ n) (hnc : n ≤ c) : Byt w (cutA A c 0) k (l.take k) := by
  have := h.cut 0 k (by omega) hk hnc
  simpa using this
theorem own_le {base base' sz n : Nat} {e : TypeId} {v : Value} {xs : List Value} (h : w.ownsRow base e sz v n xs) (hb : base' ≤ base) : w.ownsRow base' e sz v n xs :=
  ⟨h.1, h.2.elim Or.inl (fun ⟨g, cap, cur, hv, hg, r⟩ => Or.inr ⟨g, cap, cur, hv, Nat.le_trans hb hg, r⟩)⟩
theorem byt_row {g : Nat} {t : TypeId} {fr : Nat × Nat} (l : List UInt8) (h : w.heap[g]? = some (.cells (b8s l).toArray t fr)) : Byt w (some ⟨g, 0, none⟩) l.length l := ⟨rfl, fun _ => ⟨g, 0, rfl, fun j hj => by rw [Nat.zero_add]; exact cell_b8s h hj⟩⟩
theorem byt_sl {A : Option Addr} {n : Nat} {l : List UInt8} (h : Byt w A n l) : Sl w A n 1 (b8s l) := ⟨by rw [b8s_length, h.1, Nat.mul_one], fun hn => by
  have hp : 0 < n := by
    rcases l with _ | ⟨y, l⟩
    · exact absurd rfl hn
    · have := h.1; simp at this; omega
  obtain ⟨g, off, e, hc⟩ := h.2 hp
  refine ⟨g, off, e, fun j u hu => ?_⟩
  have hj : j < l.length := by
    have := (List.getElem?_eq_some_iff.1 hu).1
    simpa [b8s_length] using this
  rw [b8s_get l j hj] at hu
  injection hu with hu
  subst hu
  exact hc j (by have := h.1; omega)⟩
theorem byt_chg {S : List Nat} {w' : World} {A : Option Addr} {n : Nat} {l : List UInt8} (h : Byt w A n l) (c : Chg S w w') (ho : ∀ g off, A = some ⟨g, off, none⟩ → g < w.heap.size → Off g S) : Byt w' A n l := ⟨h.1, fun hp => by
  obtain ⟨g, off, e, hc⟩ := h.2 hp
  have hlt : g < w.heap.size := World.block_lt_of_cell? w ⟨g, off + 0, none⟩ (hc 0 hp)
  exact ⟨g, off, e, fun j hj => c.cell (hc j hj) (ho g off e hlt)⟩⟩
end
end Mur
namespace Mur
open Go Go.RowKit Wk
section
set_option linter.unusedSimpArgs false
variable {P : Program} {w : World} {a : Act} {o : Oper}
theorem str_toList (l : List UInt8) : (str l).toList = l := by rw [Go.ByteArray.toList_eq]; simp [str]
theorem streq (t ty : TypeId) (x y : Operand) (ho : o.op = .binOp .eql t x y ty) (l r : List UInt8) (hx : a.eval x = .string (str l)) (hy : a.eval y = .string (str r)) : (execOp a.eval o).run P w = .ok (.value (.bool (decide (l = r)))) w := by
  unfold execOp
  simp only [ho, hx, hy]
  simp only [eqGuard, binOp_string_eql, binOp_string_neq, Sem.run_bind, Sem.run_pure, Result.andThen_ok, str_toList]
  by_cases h : l = r <;> simp [h]
theorem strne (t ty : TypeId) (x y : Operand) (ho : o.op = .binOp .neq t x y ty) (l r : List UInt8) (hx : a.eval x = .string (str l)) (hy : a.eval y = .string (str r)) : (execOp a.eval o).run P w = .ok (.value (.bool (decide (l ≠ r)))) w := by
  unfold execOp
  simp only [ho, hx, hy]
  simp only [eqGuard, binOp_string_eql, binOp_string_neq, Sem.run_bind, Sem.run_pure, Result.andThen_ok, str_toList]
  by_cases h : l = r <;> simp [h]
end
end Mur
namespace Mur
open Go Go.RowKit Wk
theorem b8s_set (l : List UInt8) (i : Nat) (x : UInt8) : (b8s l).toArray.setIfInBounds i (.int .u8 (x.toNat : Int)) = (b8s (l.set i x)).toArray := by
  rw [List.setIfInBounds_toArray]
  congr 1
  simp [b8s, List.map_set]
section
variable {P : Program} {w : World} {a : Act} {o : Oper}
theorem blk_cell {g : Nat} {t : TypeId} {fr : Nat × Nat} (l : List UInt8) (h : w.heap[g]? = some (.cells (b8s l).toArray t fr)) (j : Nat) (hj : j < l.length) : w.cell? ⟨g, 0 + j * 1, none⟩ = some (.int .u8 (((l.getD j 0).toNat : Nat) : Int)) := by
  rw [Nat.zero_add, Nat.mul_one]
  exact cell_b8s h hj
theorem byt_cell {g off n : Nat} {l : List UInt8} (h : Byt w (some ⟨g, off, none⟩) n l) (j : Nat) (hj : j < n) : w.cell? ⟨g, off + j * 1, none⟩ = some (.int .u8 (((l.getD j 0).toNat : Nat) : Int)) := by
  obtain ⟨g', off', e, hc⟩ := h.2 (by omega)
  injection e with e
  injection e with e1 e2
  subst e1 e2
  rw [Nat.mul_one]
  exact hc j hj
theorem byt_blk {g n : Nat} {t : TypeId} {fr : Nat × Nat} (l : List UInt8) (hl : l.length = n) (h : w.heap[g]? = some (.cells (b8s l).toArray t fr)) : Byt w (some ⟨g, 0, none⟩) n l := hl ▸ byt_row l h
theorem storeAll (ty : TypeId) (x y : Operand) (ho : o.op = .store ty x y) (g : Nat) (hx : a.eval x = .pointer (some ⟨g, 0, none⟩)) (l : List UInt8) (n : Nat) (hl : l.length = n) (hy : a.eval y = .agg (b8s l).toArray) (hi : (P.info? ty).map (·.size) = some n)
    (t : TypeId) (cs : Array Value) (hg : w.heap[g]? = some (.cells cs t (0, 0))) (hn : cs.size = n) :
    ∃ w', (execOp a.eval o).run P w = .ok .skip w' ∧ w'.heap[g]? = some (.cells (b8s l).toArray t (0, 0)) ∧ Chg [g] w w' := by
  obtain ⟨w', h1, h2, h3⟩ := storeR (P := P) ty x y ho g 0 hx (b8s l) hy (by rw [hi, b8s_length, hl]) (b8s_one l) t cs.toList (by simpa using hg) (by rw [b8s_length, hl, Array.length_toList, hn]; omega)
  refine ⟨w', h1, ?_, h3⟩
  rw [h2]
  congr 2
  have hdrop : cs.toList.drop (0 + (b8s l).length) = [] := List.drop_of_length_le (by rw [b8s_length, hl, Array.length_toList, hn]; omega)
  unfold splice
  rw [hdrop]
  simp
theorem loadAll (ty : TypeId) (x : Operand) (ho : o.op = .load ty x) (d : TypeDesc) (hu : P.underlying ty = some d) (hd : d.isRow = true) (g : Nat) (hx : a.eval x = .pointer (some ⟨g, 0, none⟩)) (l : List UInt8) (n : Nat) (hl : l.length = n)
    (hi : (P.info? ty).map (·.size) = some n) (t : TypeId) (fr : Nat × Nat) (hg : w.heap[g]? = some (.cells (b8s l).toArray t fr)) : (execOp a.eval o).run P w = .ok (.value (.agg (b8s l).toArray)) w :=
  loadR ty x ho d hu hd g 0 hx (b8s l) (by rw [hi, b8s_length, hl]) (range_row hg)
theorem arr_slice (t e : TypeId) (x : Operand) (n : Nat) (ho : o.op = .slice t x none none none) (ht : P.underlying t = some (.array n e)) (hsz : (P.info? e).map (·.size) = some 1) (g : Nat) (hx : a.eval x = .pointer (some ⟨g, 0, none⟩)) :
    (execOp a.eval o).run P w = .ok (.value (.slice (some ⟨g, 0, none⟩) n n)) w := by
  obtain ⟨i, hi, hs⟩ := Option.map_eq_some_iff.1 hsz
  unfold execOp
  simp only [ho, hx, Option.map_none]
  have e0 : (⟨g, 0, none⟩ : Addr).add 0 = ⟨g, 0, none⟩ := Addr.add_mid g 0 0
  simp [Instr.sliceAt, Instr.slice, Instr.sureAddr, run_underlying ht, Instr.sliceBounds, Go.sizeOf, typeInfo, hi, e0]
theorem bits_xor_u8 (a b : UInt8) : bits .xor .u8 ((a.toNat : Nat) : Int) ((b.toNat : Nat) : Int) = (((a ^^^ b).toNat : Nat) : Int) := by
  show IntKind.u8.wrap ((BitVec.ofInt 8 ((a.toNat : Nat) : Int) ^^^ BitVec.ofInt 8 ((b.toNat : Nat) : Int)).toNat : Int) = _
  rw [BitVec.ofInt_natCast, BitVec.ofInt_natCast, UInt8.toNat, BitVec.ofNat_toNat, BitVec.setWidth_eq, UInt8.toNat, BitVec.ofNat_toNat, BitVec.setWidth_eq]
  show ((((a ^^^ b).toNat : Nat) : Int)) % 256 = _
  have := (a ^^^ b).toNat_lt
  omega
theorem xor8 (t ty : TypeId) (x y : Operand) (ho : o.op = .binOp .xor t x y ty) (b c : UInt8) (hx : a.eval x = .int .u8 ((b.toNat : Nat) : Int)) (hy : a.eval y = .int .u8 ((c.toNat : Nat) : Int)) : (execOp a.eval o).run P w = .ok (.value (.int .u8 (((b ^^^ c).toNat : Nat) : Int))) w := by
  unfold execOp
  simp only [ho, hx, hy]
  have key : (binOp .xor t (.int .u8 ((b.toNat : Nat) : Int)) (.int .u8 ((c.toNat : Nat) : Int))).run P w = .ok (.int .u8 (bits .xor .u8 ((b.toNat : Nat) : Int) ((c.toNat : Nat) : Int))) w := rfl
  have hg : (eqGuard .xor t x y (.int .u8 ((b.toNat : Nat) : Int)) (.int .u8 ((c.toNat : Nat) : Int))).run P w = .ok () w := rfl
  rw [bits_xor_u8] at key
  simp only [Sem.run_bind, Sem.run_pure, hg, Result.andThen_ok, key]
theorem store8 (ty : TypeId) (x y : Operand) (ho : o.op = .store ty x y) (hi : (P.info? ty).map (·.size) = some 1) (g i : Nat) (hx : a.eval x = .pointer (some ⟨g, 0 + i * 1, none⟩)) (b : UInt8) (hy : a.eval y = .int .u8 ((b.toNat : Nat) : Int))
    (t : TypeId) (l : List UInt8) (hg : w.heap[g]? = some (.cells (b8s l).toArray t (0, 0))) (hlt : i < l.length) :
    ∃ w', (execOp a.eval o).run P w = .ok .skip w' ∧ w'.heap[g]? = some (.cells (b8s (l.set i b)).toArray t (0, 0)) ∧ Chg [g] w w' := by
  rw [Nat.zero_add, Nat.mul_one] at hx
  obtain ⟨w', h1, h2, h3⟩ := store1 (P := P) ty x y ho hi g i hx _ hy rfl t _ hg (by simpa [b8s_length] using hlt)
  exact ⟨w', h1, by rw [h2, b8s_set], h3⟩
theorem copy8 (d s : Operand) (dT sT : TypeId) (ho : o.op = .call { callee := .builtin .copy, args := #[d, s], argTypes := #[dT, sT] }) (e : TypeId) (hu : P.underlying dT = some (.slice e)) (hsz : (P.info? e).map (·.size) = some 1)
    (g D c : Nat) (hd : a.eval d = .slice (some ⟨g, 0, none⟩) D c) (A : Option Addr) (n c2 : Nat) (hs : a.eval s = .slice A n c2) (t : TypeId) (l r : List UInt8) (hg : w.heap[g]? = some (.cells (b8s l).toArray t (0, 0))) (hD : l.length = D) (hb : Byt w A n r) (hn : n ≤ D) (hA : A = none → c2 = 0) :
    ∃ v w', (execOp a.eval o).run P w = .ok (.value v) w' ∧ v = .int .i64 ((n : Nat) : Int) ∧ w'.heap[g]? = some (.cells (b8s (r ++ l.drop n)).toArray t (0, 0)) ∧ Chg [g] w w' := by
  have hrn := hb.1
  rcases A with _ | ad
  · have h0 : r = [] := by
      rcases r with _ | ⟨y, r⟩
      · rfl
      · obtain ⟨g, off, h, _⟩ := hb.2 (by have := hb.1; simp at this; omega)
        cases h
    subst h0
    obtain rfl : n = 0 := by simpa using hrn.symm
    obtain rfl := hA rfl
    refine ⟨_, w, ?_, rfl, by simpa using hg, (Chg.refl w).more (by simp)⟩
    have := run_copy_nil (P := P) w dT sT o.type e ⟨g, 0, none⟩ D c hu (by rw [hsz]; rfl)
    unfold execOp
    simp only [ho, resolve, invoke, builtin, Sem.run_bind, Sem.run_pure, Result.andThen_ok, List.map_toArray, List.map_cons, List.map_nil, hs, hd, this, goInt]
    rfl
  · have hsrc : ∀ j v, (b8s r)[j]? = some v → w.cell? (ad.add j) = some v := by
      intro j v hv
      have hj : j < r.length := by
        have := (List.getElem?_eq_some_iff.1 hv).1
        simpa [b8s_length] using this
      obtain ⟨g', off, e', hc⟩ := hb.2 (by omega)
      injection e' with e'
      subst e'
      rw [Addr.add_mid]
      rw [b8s_get r j hj] at hv
      injection hv with hv
      subst hv
      exact hc j (by omega)
    have hrun := run_copy_row (P := P) w dT sT o.type e g 0 D c ad n c2 (b8s l).toArray t (b8s r) hu hsz hg (by rw [b8s_length, hrn]; exact (Nat.min_eq_left hn).symm) hsrc (by simp [b8s_length]; omega) (b8s_one r)
    have hb8 : (b8s l).take 0 ++ b8s r ++ (b8s l).drop (0 + (b8s r).length) = b8s (r ++ l.drop n) := by
      rw [b8s_append, b8s_length, hrn]
      simp [b8s, List.map_drop]
    refine ⟨.int .i64 ((n : Nat) : Int), w.setRow g (b8s (r ++ l.drop n)).toArray, ?_, rfl, ?_, ?_⟩
    · unfold execOp
      simp only [ho, resolve, invoke, builtin, Sem.run_bind, Sem.run_pure, Result.andThen_ok, List.map_toArray, List.map_cons, List.map_nil, hs, hd, hrun, goInt, b8s_length, hrn]
      rw [b8s_length, hrn] at hb8
      rw [hb8]
    · exact setRow_heap w g _ _ t _ hg
    · refine ⟨rfl, rfl, rfl, by simp [World.setRow], fun k hk ho => ?_⟩
      exact setRow_other _ _ _ _ (fun h => ho.1 h)
structure Own8 (w : World) (base e : Nat) (A : Option Addr) (n c : Nat) (l : List UInt8) : Prop where
  own : w.ownsRow base e 1 (.slice A n c) n (b8s l)
  nc : n ≤ c
  cm : c ≤ maxLen
  nil : A = none → c = 0
  byt : Byt w A n l
  at_ : ∀ g off, A = some ⟨g, off, none⟩ → base ≤ g ∧ g < w.heap.size
  lt : ∀ k, (Value.slice A n c).ownBlock = some k → base ≤ k ∧ k < w.heap.size
theorem own8 {base e n : Nat} {A : Option Addr} {c : Nat} {l : List UInt8} (h : w.ownsRow base e 1 (.slice A n c) n (b8s l)) : Own8 w base e A n c l := by
  obtain ⟨A1, c1, e1, h1, h2, h3⟩ := own_byt h
  injection e1 with e1 _ e2
  subst e1 e2
  obtain ⟨A2, c2, e3, _, _, h4, _, h5⟩ := own_sl h
  injection e3 with e3 _ e4
  subst e3 e4
  exact ⟨h, h1, h2, h4, h3, h5, World.ownsRow.lt h⟩
theorem append8 (s x : Operand) (t e : TypeId) (ho : o.op = .call { callee := .builtin .append, args := #[s, x], argTypes := #[t, t] }) (ht : P.underlying t = some (.slice e)) (hinfo : (P.info? e).map (fun i => (i.zero, i.size, i.bytes)) = some (some (.int .u8 0), 1, 1))
    (base : Nat) (A0 : Option Addr) (n c0 : Nat) (xs : List UInt8) (A : Option Addr) (m c : Nat) (ys : List UInt8) (hs : a.eval s = .slice A0 n c0) (hx : a.eval x = .slice A m c) (HO : w.ownsRow base e 1 (.slice A0 n c0) n (b8s xs)) (HR : Byt w A m ys) (hA : A = none → c = 0)
    (hbase : base ≤ w.heap.size) (hl : n + m ≤ 140737488355328) (k : Nat) (hk : n + m = k) (zs : List UInt8) (hz : xs ++ ys = zs) :
    ∃ v1 w1, (execOp a.eval o).run P w = .ok (.value v1) w1 ∧ ∃ A1 c1, v1 = .slice A1 k c1 ∧ Own8 w1 base e A1 k c1 zs ∧ Chg (blk (.slice A0 n c0)) w w1 ∧ (∀ q, (Value.slice A1 k c1).ownBlock = some q → (Value.slice A0 n c0).ownBlock = some q ∨ q = w.heap.size) := by
  subst hk hz
  obtain ⟨v1, w1, h1, h2, h3, h4⟩ := append_run (P := P) s x t e ho ht (.int .u8 0) 1 1 hinfo rfl (by omega) base (.slice A0 n c0) n (b8s xs) A m c (b8s ys) hs hx HO (byt_sl HR) hA (b8s_one ys) hbase (by unfold maxLen; omega) (by omega)
  rw [← b8s_append] at h2
  obtain ⟨A1, c1, rfl, _⟩ := own_byt h2
  refine ⟨_, w1, h1, A1, c1, rfl, own8 h2, h3, fun q hq => ?_⟩
  rcases h4 with h4 | h4
  · exact .inl (h4 ▸ hq)
  · rw [h4] at hq
    exact .inr (Option.some.inj hq).symm
theorem Own8.chg {w' : World} {base e n c : Nat} {A : Option Addr} {l : List UInt8} {S : List Nat} (h : Own8 w base e A n c l) (ch : Chg S w w') (ho : ∀ g, base ≤ g → g < w.heap.size → Off g S) : Own8 w' base e A n c l :=
  own8 (own_chg h.own ch fun g _ h1 h2 => ho g h1 h2)
theorem own8_empty {base e g : Nat} (h : w.heap[g]? = some (.cells #[] e (0, 0))) (hb : base ≤ g) : Own8 w base e (some ⟨g, 0, none⟩) 0 0 [] := own8 (own_empty h hb)
theorem own8_nil (w : World) (base e : Nat) : Own8 w base e none 0 0 [] := own8 (own_nil w base e)
end
structure Seg where
  A : Option Addr
  n : Nat
  c : Nat
  l : List UInt8
def Seg.v (s : Seg) : Value := .slice s.A s.n s.c
structure SegOk (w : World) (s : Seg) : Prop where
  nc : s.n ≤ s.c
  nil : s.A = none → s.c = 0
  byt : Byt w s.A s.n s.l
  cm : s.c ≤ maxLen
structure Segs (w : World) (A : Option Addr) (n : Nat) (L : List Seg) : Prop where
  len : L.length = n
  ok : ∀ s ∈ L, SegOk w s
  cells : 0 < n → ∃ g off, A = some ⟨g, off, none⟩ ∧ ∀ i s, L[i]? = some s → w.cell? ⟨g, off + i, none⟩ = some s.v
theorem SegOk.chg {w w' : World} {s : Seg} (h : SegOk w s) (c : Chg [] w w') : SegOk w' s := ⟨h.1, h.2, byt_chg h.3 c fun _ _ _ _ => trivial, h.4⟩
theorem Segs.chg {w w' : World} {A : Option Addr} {n : Nat} {L : List Seg} (h : Segs w A n L) (c : Chg [] w w') : Segs w' A n L :=
  ⟨h.1, fun s hs => (h.2 s hs).chg c, fun hn => by
    obtain ⟨g, off, e, hc⟩ := h.3 hn
    exact ⟨g, off, e, fun i s hi => c.cell (hc i s hi) trivial⟩⟩
def flat (L : List Seg) : List UInt8 := L.flatMap (·.l)
theorem flat_take {L : List Seg} {i : Nat} {s : Seg} (h : L[i]? = some s) : flat (L.take (i + 1)) = flat (L.take i) ++ s.l := by
  have hi : i < L.length := (List.getElem?_eq_some_iff.1 h).1
  have he : L[i] = s := (List.getElem?_eq_some_iff.1 h).2
  rw [List.take_succ_eq_append_getElem hi, he]
  simp [flat]
theorem flat_take_le {L : List Seg} (i : Nat) : (flat (L.take i)).length ≤ (flat L).length := by
  have : flat L = flat (L.take i) ++ flat (L.drop i) := by rw [flat, flat, flat, ← List.flatMap_append, List.take_append_drop]
  rw [this, List.length_append]
  omega
theorem flat_all {L : List Seg} {n : Nat} (h : L.length = n) : flat (L.take n) = flat L := by rw [List.take_of_length_le (by omega)]
theorem Segs.at {w : World} {A : Option Addr} {n : Nat} {L : List Seg} (h : Segs w A n L) {k : Nat} (hk : k < n) : ∃ g off As ns cs ls, A = some ⟨g, off, none⟩ ∧ g < w.heap.size ∧ w.cell? ⟨g, off + k * 1, none⟩ = some (.slice As ns cs) ∧ Byt w As ns ls ∧ ns ≤ cs ∧ cs ≤ maxLen ∧ (As = none → cs = 0) ∧
    flat (L.take (k + 1)) = flat (L.take k) ++ ls ∧ (flat (L.take k)).length + ns ≤ (flat L).length := by
  obtain ⟨g, off, rfl, hc⟩ := h.3 (by omega)
  obtain ⟨x, hx⟩ : ∃ x, L[k]? = some x := ⟨_, List.getElem?_eq_getElem (by have := h.1; omega)⟩
  have hok := h.2 x (List.mem_of_getElem? hx)
  have q := hc k x hx
  have hf := flat_take hx
  have hle := flat_take_le (L := L) (k + 1)
  have hl := hok.byt.1
  rw [hf, List.length_append, hl] at hle
  exact ⟨g, off, x.A, x.n, x.c, x.l, rfl, World.block_lt_of_cell? w ⟨g, off + k, none⟩ q, by rw [Nat.mul_one]; exact q, hok.byt, hok.nc, hok.cm, hok.nil, hf, hle⟩
end Mur
namespace Mur
open Go Go.RowKit Wk
def hkey0 (s : List UInt8) : List UInt8 := if 64 < s.length then sha s else s
def hkey (s : List UInt8) : List UInt8 := hkey0 s ++ List.replicate (64 - (hkey0 s).length) 0
def xorl (c : UInt8) (l : List UInt8) : List UInt8 := l.map (· ^^^ c)
def hmac (s b : List UInt8) : List UInt8 := sha (xorl 92 (hkey s) ++ sha (xorl 54 (hkey s) ++ b))
theorem sha_len (b : List UInt8) : (sha b).length = 32 := Go.Proofs.YtgbadghjnpbiaaaDoor.sha_length b
theorem xorl_length (c : UInt8) (l : List UInt8) : (xorl c l).length = l.length := by simp [xorl]
theorem hmac_length (s b : List UInt8) : (hmac s b).length = 32 := sha_len _
def xorTo (c : UInt8) (k : List UInt8) (i : Nat) : List UInt8 := xorl c (k.take i) ++ k.drop i
theorem xorTo_zero (c : UInt8) (k : List UInt8) : xorTo c k 0 = k := by simp [xorTo, xorl]
theorem xorTo_all (c : UInt8) (k : List UInt8) {n : Nat} (h : k.length = n) : xorTo c k n = xorl c k := by
  subst h
  simp [xorTo]
theorem xorTo_length (c : UInt8) (k : List UInt8) (i : Nat) : (xorTo c k i).length = k.length := by
  simp only [xorTo, List.length_append, xorl_length, List.length_take, List.length_drop]
  omega
theorem xorTo_getD (c : UInt8) (k : List UInt8) (i : Nat) (h : i < k.length) : (xorTo c k i).getD i 0 = k.getD i 0 := by
  have h1 : (xorl c (k.take i)).length = i := by rw [xorl_length, List.length_take]; omega
  simp only [xorTo, List.getD_eq_getElem?_getD]
  rw [List.getElem?_append_right (by omega), h1, List.getElem?_drop]
  simp
theorem xorl_succ (c : UInt8) (k : List UInt8) (i : Nat) (h : i < k.length) : xorl c (k.take (i + 1)) = xorl c (k.take i) ++ [k.getD i 0 ^^^ c] := by
  rw [List.take_succ_eq_append_getElem h, xorl, List.map_append]
  simp [xorl, List.getD_eq_getElem?_getD, h]
theorem xorTo_set (c : UInt8) (k : List UInt8) (i : Nat) (h : i < k.length) : (xorTo c k i).set i (k.getD i 0 ^^^ c) = xorTo c k (i + 1) := by
  have h1 : (xorl c (k.take i)).length = i := by rw [xorl_length, List.length_take]; omega
  unfold xorTo
  rw [List.set_append_right _ _ (by omega), h1, Nat.sub_self, xorl_succ c k i h, List.drop_eq_getElem_cons h, List.set_cons_zero, List.append_assoc]
  rfl
end Mur
namespace Mur
theorem key_small {s : List UInt8} {n : Nat} (h : s.length = n) (hn : n ≤ 64) : s ++ (List.replicate 64 0).drop n = hkey s := by
  have h1 : hkey0 s = s := if_neg (by omega)
  unfold hkey
  rw [h1, List.drop_replicate, h]
theorem key_big {s d : List UInt8} (h : 64 < s.length) (hd : d = sha s) : d ++ (List.replicate 64 0).drop 32 = hkey s := by
  have h1 : hkey0 s = sha s := if_pos h
  unfold hkey
  rw [h1, hd, List.drop_replicate, sha_len]
end Mur
namespace Mur
open Go Go.RowKit Go.WideShapes Go.ChangeShapes
section
variable {H : Type} {enc : TypeId × Value → H} {P : Program} {W : World}
theorem leaf_byt {t e : TypeId} {v : Value} (ht : P.underlying t = some (.slice e)) (he : P.underlying e = some (.int .u8)) (hc : P.cellsOf e = 1) (h : Leaf enc P W 0 (fun _ => true) true t v) : ∃ A n c l, v = .slice A n c ∧ n ≤ c ∧ c ≤ maxLen ∧ (A = none → c = 0) ∧ Byt W A n l := by
  obtain ⟨m, y, hf⟩ := h
  rcases open_ints ht he hc hf with ⟨h0, _⟩ | ⟨a, len, cap, zs, h0, _, hlc, hcm, hlen, _, hcell, hwf⟩
  · obtain rfl : v = .slice none 0 0 := by simpa using h0
    exact ⟨none, 0, 0, [], rfl, Nat.le_refl _, by unfold maxLen; omega, fun _ => rfl, Byt.nil _ _⟩
  · obtain rfl : v = .slice (some a) len cap := by simpa using h0
    simp only [if_true] at hlen
    refine ⟨some a, len, cap, (zs.take len).map (fun z => UInt8.ofNat z.toNat), rfl, hlc, hcm, (fun h => by cases h), (by simp; omega), fun hp => ?_⟩
    obtain ⟨g, off, rfl, hc2⟩ := ints_at hcell (by omega)
    refine ⟨g, off, rfl, fun j hj => ?_⟩
    rw [hc2 j (by omega)]
    have hr := range_u8 hwf j
    have hjz : j < zs.length := by omega
    simp only [List.getElem?_eq_getElem hjz, Option.getD_some] at hr
    simp [List.getD_eq_getElem?_getD, hj, hjz]
    omega
theorem open_agg {t : TypeId} {ls : List TypeId} {W : World} {v : Value} {d : DataW H} {ps : List MemPlace} (D : Nat) (hu : (∃ n e, P.underlying t = some (.array n e)) ∨ ∃ fs, P.underlying t = some (.struct fs)) (hl : leafs P D t = some ls)
    (hval : ∃ r b0, Value.okWide P W r b0 t v) (h : DataW.Trod enc P W 0 (fun _ => true) true t v d ps) : ∃ cs, v = .agg cs ∧ All2 (Leaf enc P W 0 (fun _ => true) true) ls cs.toList := by
  obtain ⟨fuel, hf⟩ := h
  obtain ⟨r, b0, hok⟩ := hval
  obtain ⟨cs, rfl⟩ : ∃ cs, v = .agg cs := by
    unfold Value.okWide at hok
    rcases hu with ⟨n, e, hu⟩ | ⟨fs, hu⟩
    · simp only [hu] at hok
      obtain ⟨cs, h1, _⟩ := hok
      exact ⟨cs, h1⟩
    · simp only [hu] at hok
      obtain ⟨cs, h1, _⟩ := hok
      exact ⟨cs, h1⟩
  exact ⟨cs, rfl, leafs_ok D t ls hl _ _ _ hf⟩
theorem leaf_u8 {t : TypeId} {v : Value} (ht : P.underlying t = some (.int .u8)) {w : World} (h : Leaf enc P w 0 (fun _ => true) true t v) : ∃ b : UInt8, v = .int .u8 (b.toNat : Int) := by
  obtain ⟨z, rfl, hwf⟩ := leaf_int ht h
  have h1 : IntKind.u8.min = 0 := by decide
  have h2 : IntKind.u8.max = 255 := by decide
  simp only [Lit.wf, h1, h2, Bool.and_eq_true, decide_eq_true_eq] at hwf
  exact ⟨UInt8.ofNat z.toNat, by simp; omega⟩
theorem leaf_u8s {t : TypeId} (ht : P.underlying t = some (.int .u8)) {w : World} : ∀ (n : Nat) (cs : List Value), All2 (Leaf enc P w 0 (fun _ => true) true) (List.replicate n t) cs → ∃ l : List UInt8, l.length = n ∧ cs = b8s l
  | 0, cs, h => by
    cases h
    exact ⟨[], rfl, rfl⟩
  | n + 1, cs, h => by
    rw [List.replicate_succ] at h
    rcases h with _ | ⟨h0, h⟩
    obtain ⟨b, rfl⟩ := leaf_u8 ht h0
    obtain ⟨l, h1, rfl⟩ := leaf_u8s ht n _ h
    exact ⟨b :: l, by simp [h1], rfl⟩
end
end Mur
namespace Go.Proofs.YtgbadghjnpbiaaaDoor
end Go.Proofs.YtgbadghjnpbiaaaDoor
namespace Mur
open Go Go.RowKit
def beN (l : List UInt8) : Nat := l.foldl (fun n b => n * 256 + b.toNat) 0
theorem beN_snoc (l : List UInt8) (b : UInt8) : beN (l ++ [b]) = beN l * 256 + b.toNat := by simp [beN]
theorem beN_foldl : ∀ (l : List UInt8) (n : Nat), l.foldl (fun n b => n * 256 + b.toNat) n = n * 256 ^ l.length + beN l
  | [], n => by simp [beN]
  | b :: l, n => by
    rw [List.foldl_cons, beN_foldl l, List.length_cons, Nat.pow_succ]
    have h : beN (b :: l) = b.toNat * 256 ^ l.length + beN l := by
      show l.foldl _ (0 * 256 + b.toNat) = _
      rw [beN_foldl l, Nat.zero_mul, Nat.zero_add]
    rw [h, Nat.add_mul, Nat.mul_assoc, Nat.mul_comm 256, Nat.add_assoc]
theorem beN_cons (b : UInt8) (l : List UInt8) : beN (b :: l) = b.toNat * 256 ^ l.length + beN l := by
  show l.foldl _ (0 * 256 + b.toNat) = _
  rw [beN_foldl l, Nat.zero_mul, Nat.zero_add]
theorem beN_lt : ∀ l : List UInt8, beN l < 256 ^ l.length
  | [] => by simp [beN]
  | b :: l => by
    rw [beN_cons, List.length_cons, Nat.pow_succ]
    have h1 := beN_lt l
    have h2 := b.toNat_lt
    have h3 : b.toNat * 256 ^ l.length ≤ 255 * 256 ^ l.length := Nat.mul_le_mul_right _ (by omega)
    omega
def digs (n : Nat) : List UInt8 := if _h : n = 0 then [] else digs (n / 256) ++ [UInt8.ofNat (n % 256)]
termination_by n
decreasing_by omega
theorem digs_zero : digs 0 = [] := by
  unfold digs
  rfl
theorem digs_pos {n : Nat} (h : n ≠ 0) : digs n = digs (n / 256) ++ [UInt8.ofNat (n % 256)] := by
  rw [digs, dif_neg h]
theorem beN_digs (n : Nat) : beN (digs n) = n := by
  induction n using Nat.strongRecOn with
  | _ n ih =>
    by_cases h : n = 0
    · subst h
      rw [digs_zero]
      rfl
    · rw [digs_pos h, beN_snoc, ih (n / 256) (by omega)]
      have : (UInt8.ofNat (n % 256)).toNat = n % 256 := by simp
      rw [this]
      omega
theorem digs_len {n k : Nat} (h : n < 256 ^ k) : (digs n).length ≤ k := by
  induction k generalizing n with
  | zero =>
    obtain rfl : n = 0 := by simp at h; exact h
    rw [digs_zero]
    exact Nat.le_refl 0
  | succ k ih =>
    by_cases h0 : n = 0
    · subst h0
      rw [digs_zero]
      exact Nat.zero_le _
    · rw [digs_pos h0, List.length_append]
      have := ih (n := n / 256) (by rw [Nat.pow_succ] at h; omega)
      simp
      omega
theorem digs_head (n : Nat) : (digs n).head? ≠ some 0 := by
  induction n using Nat.strongRecOn with
  | _ n ih =>
    by_cases h : n = 0
    · subst h
      rw [digs_zero]
      simp
    · rw [digs_pos h]
      by_cases h1 : n / 256 = 0
      · rw [h1, digs_zero]
        intro e
        simp at e
        have := congrArg UInt8.toNat e
        simp at this
        omega
      · have h2 : digs (n / 256) ≠ [] := fun e => h1 (by
          have := beN_digs (n / 256)
          rw [e] at this
          exact this.symm)
        obtain ⟨x, l, e⟩ := List.exists_cons_of_ne_nil h2
        have := ih (n / 256) (by omega)
        rw [e] at this ⊢
        simpa using this
theorem digs_beN : ∀ {l : List UInt8}, l.head? ≠ some 0 → digs (beN l) = l := by
  intro l
  induction h : l.length generalizing l with
  | zero =>
    intro _
    rw [List.eq_nil_of_length_eq_zero h]
    exact digs_zero
  | succ k ih =>
    intro hh
    obtain ⟨m, b, rfl⟩ : ∃ m b, l = m ++ [b] := ⟨l.dropLast, l.getLast (by rintro rfl; cases h), (List.dropLast_concat_getLast _).symm⟩
    have hm : m.length = k := by simpa using h
    have hm0 : m.head? ≠ some 0 := by
      rcases m with _ | ⟨x, m⟩
      · simp
      · simpa using hh
    have hb := b.toNat_lt
    have hne : beN (m ++ [b]) ≠ 0 := by
      rw [beN_snoc]
      intro e
      have h1 : beN m = 0 := by omega
      have h2 := ih hm hm0
      rw [h1, digs_zero] at h2
      subst h2
      have h3 : b = 0 := UInt8.toNat_inj.1 (by
        have : b.toNat = 0 := by omega
        rw [this]
        rfl)
      subst h3
      simp at hh
    rw [digs_pos hne, beN_snoc, show (beN m * 256 + b.toNat) / 256 = beN m by omega, show (beN m * 256 + b.toNat) % 256 = b.toNat by omega, ih hm hm0]
    simp
def formN (n : Nat) : List UInt8 := UInt8.ofNat (digs n).length :: digs n
def readN : List UInt8 → Option (Nat × List UInt8)
  | [] => none
  | s :: r => if 8 < s.toNat ∨ r.length < s.toNat ∨ (0 < s.toNat ∧ r.head? = some 0) then none else some (beN (r.take s.toNat), r.drop s.toNat)
theorem readN_cons (s : UInt8) (r : List UInt8) : readN (s :: r) = if 8 < s.toNat ∨ r.length < s.toNat ∨ (0 < s.toNat ∧ r.head? = some 0) then none else some (beN (r.take s.toNat), r.drop s.toNat) := rfl
theorem readN_form {n : Nat} (h : n < 2 ^ 64) (r : List UInt8) : readN (formN n ++ r) = some (n, r) := by
  have hl : (digs n).length ≤ 8 := digs_len (k := 8) (by simpa using h)
  have hs : (UInt8.ofNat (digs n).length).toNat = (digs n).length := by
    simp
    omega
  have e : formN n ++ r = UInt8.ofNat (digs n).length :: (digs n ++ r) := rfl
  rw [e, readN_cons, hs, if_neg, List.take_left' rfl, List.drop_left' rfl, beN_digs]
  rintro (h1 | h1 | ⟨h1, h2⟩)
  · omega
  · rw [List.length_append] at h1
    omega
  · obtain ⟨x, l, e2⟩ := List.exists_cons_of_ne_nil (List.ne_nil_of_length_pos h1)
    have h3 := digs_head n
    rw [e2] at h2 h3
    exact h3 (by simpa using h2)
theorem readN_some {b r : List UInt8} {n : Nat} (h : readN b = some (n, r)) : b = formN n ++ r ∧ n < 2 ^ 64 := by
  rcases b with _ | ⟨s, t⟩
  · cases h
  · rw [readN_cons] at h
    split at h
    · cases h
    · rename_i hc
      have h1 : ¬ 8 < s.toNat := fun k => hc (.inl k)
      have h2 : ¬ t.length < s.toNat := fun k => hc (.inr (.inl k))
      have h3 : ¬ (0 < s.toNat ∧ t.head? = some 0) := fun k => hc (.inr (.inr k))
      injection h with h
      injection h with h4 h5
      subst h4 h5
      have hlen : (t.take s.toNat).length = s.toNat := by
        rw [List.length_take]
        omega
      have hh : (t.take s.toNat).head? ≠ some 0 := fun e => by
        rcases Nat.eq_zero_or_pos s.toNat with h0 | h0
        · rw [h0] at e
          simp at e
        · refine h3 ⟨h0, ?_⟩
          rcases t with _ | ⟨x, t⟩
          · simp at e
          · obtain ⟨k, hk⟩ : ∃ k, s.toNat = k + 1 := ⟨s.toNat - 1, by omega⟩
            rw [hk] at e
            simpa using e
      have hd := digs_beN hh
      refine ⟨?_, ?_⟩
      · unfold formN
        rw [hd, hlen]
        simp
      · have := beN_lt (t.take s.toNat)
        rw [hlen] at this
        refine Nat.lt_of_lt_of_le this ?_
        have : 256 ^ s.toNat ≤ 256 ^ 8 := Nat.pow_le_pow_right (by decide) (by omega)
        simpa using this
theorem formN_len {n : Nat} (h : n < 2 ^ 64) : (formN n).length ≤ 9 := by
  have := digs_len (n := n) (k := 8) (by simpa using h)
  simp [formN]
  omega
end Mur
