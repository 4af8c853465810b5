/- What the rows' last steps share: the two variables, the arguments read again, bytes that come in. -/
import Derived.Test.YtljfjjofhclhiaaDoorSum
import Derived.Test.YtljfjjofhclhiaaDoorCards
import Derived.Test.YtljfjjofhclhiaaDoorTie
import Derived.ProofKit
import Derived.OpenShut
import Derived.Deep.DeepHandedRow
import Derived.Lib.LaidTab
import Derived.WideKeyArgs
import Derived.Carry
namespace Mur
open Go Go.RowKit Go.WideShapes Go.ChangeShapes
section
variable {H : Type} {enc : TypeId × Value → H} {P : Program}
theorem all_stay (hl : laidOutB P = true) {W W' : World} {sp' : Nat → Bool} : ∀ {ts : List TypeId} {vs : List Value} {ds : List (DataW H)} {ps : List MemPlace}, (∀ t ∈ ts, P.readableRec t = true ∧ t < P.types.size) →
    DataW.TrodAll enc P W 0 (fun _ => true) true ts vs ds ps → (∀ p ∈ ps, W.sameAt W' p) → (∀ p ∈ ps, sp' p.block = true) → DataW.TrodAll enc P W' 0 sp' true ts vs ds ps
  | [], [], [], _, _, h, _, _ => h
  | t :: ts, v :: vs, d :: ds, ps, hr, ⟨p, q, h1, h2, e⟩, hsame, hs =>
    ⟨p, q, WideElems.Trod_stays hl (hr t (by simp)).1 (hr t (by simp)).2 h1 (fun x hx => hsame x (by rw [e]; exact List.mem_append_left _ hx)) (fun x hx => hs x (by rw [e]; exact List.mem_append_left _ hx)),
      all_stay hl (fun t ht => hr t (by simp [ht])) h2 (fun x hx => hsame x (by rw [e]; exact List.mem_append_right _ hx)) (fun x hx => hs x (by rw [e]; exact List.mem_append_right _ hx)), e⟩
/-- A LAW's LAST STEP: it answered true, and below the old heap nothing has turned. -/
theorem law_post (hl : laidOutB P = true) {f : Func} {s : ChangeSpec} {fresh again : Bool} {W W' : World} {args : Array Value} {ds : List (DataW H)} {before : List MemPlace} {tb : TypeId}
    (hf : f.resultTypes = #[tb]) (hb : P.underlying tb = some .bool) (hp : ∀ t ∈ f.params.toList, P.readableRec t = true ∧ t < P.types.size) (hv : s.vars = [])
    (hs : s.fn H ds = { results := [.lit (.bool true)], args := ds }) (hW : DataW.Whole enc P f.params.toList s.vars false W args.toList ds [] before) (hB : Below W.heap.size W W') :
    s.post enc P f false fresh false again W args (.bool true) W' := by
  have hlt : ∀ p ∈ before, p.block < W.heap.size := fun p hp => hW.lt p hp
  have hW' := hW
  obtain ⟨p, q, hA, hV, hpq, hz, hn⟩ := hW
  rw [hv] at hV
  obtain ⟨_, rfl⟩ := trodVars_none hV
  rw [List.append_nil] at hpq
  subst hpq
  have hsame : ∀ x ∈ before, W.sameAt W' x := fun x hx => hB.same (hlt x hx)
  have hagain : ∀ sp : Nat → Bool, (∀ x ∈ before, sp x.block = true) → DataW.TrodAll enc P W' 0 sp true f.params.toList args.toList ds before := fun sp hsp => all_stay hl hp hA hsame hsp
  have hres : ∀ (b : Nat) (sp : Nat → Bool) (hd : Bool), DataW.TrodAll enc P W' b sp hd [tb] [.bool true] [.lit (.bool true)] [] := fun b sp hd => trodAll_cons_mk (shut_bool hb _) trodAll_mk0
  have e1 : f.resultTypes.toList = [tb] := by rw [hf]
  have e2 : (Value.bool true).resultList f.resultTypes.size = [.bool true] := by rw [hf]; rfl
  refine ⟨ds, [], before, [], before, [], hW', ?_, ?_, ?_, World.keptBut_mono (fun x hx => ⟨hx, .inr (.inl hx)⟩) (hB.frame (· ∈ before)), fun _ => ?_⟩
  · rw [List.append_nil, hs, e1, e2]
    exact hres _ _ _
  · rw [List.append_nil, hs]
    exact hagain _ (fun x hx => by simpa using hlt x hx)
  · rw [List.append_nil, hs, hv]
    rfl
  · refine ⟨fun j t r h1 h2 => ?_, .lit (.bool true) :: ds, [], before, ⟨before, [], ?_, ?_, by simp, ?_, ?_⟩, fun x hx _ => hx⟩
    · rw [hf] at h1
      rw [e2] at h2
      obtain ⟨rfl, rfl⟩ : j = 0 ∧ t = tb := by
        rcases j with _ | j
        · exact ⟨rfl, by simpa using h1.symm⟩
        · simp at h1
      obtain rfl : r = .bool true := by simpa using h2.symm
      exact okWide_bool_mk hb _
    · rw [e1, e2]
      exact ⟨[], before, shut_bool hb _, hagain (fun _ => true) (fun _ _ => rfl), rfl⟩
    · rw [hv]
      rfl
    · intro b off hx
      have hx' : MemPlace.cell b off ∈ before := hx
      rw [hB.frozen (hlt _ hx')]
      exact hz b off hx'
    · intro ha
      cases ha
/-- Bytes that come in. -/
theorem open_byt {t e : TypeId} {W : World} {v : Value} {d : DataW H} {ps : List MemPlace} (ht : P.underlying t = some (.slice e)) (he : P.underlying e = some (.int .u8)) (hc : P.cellsOf e = 1) (hval : ∃ r b0, Value.okWide P W r b0 t v)
    (h : DataW.Trod enc P W 0 (fun _ => true) true t v d ps) : ∃ A n c l, v = .slice A n c ∧ n ≤ c ∧ c ≤ maxLen ∧ (A = none → c = 0) ∧ Byt W A n l := by
  obtain ⟨fuel, hf⟩ := h
  have hv : v.cells.toList = [v] := by
    obtain ⟨r, b0, hok⟩ := hval
    cases v <;> first | rfl | (exfalso; simp [Value.okWide, ht, Cell.okWide, Cell.ok] at hok)
  rw [hv] at hf
  rcases open_ints ht he hc hf with ⟨h0, _⟩ | ⟨a, len, cap, zs, h0, _, hlc, hcm, hlen, _, hcell, hwf⟩
  · obtain rfl : v = .slice none 0 0 := by simpa using h0
    exact ⟨none, 0, 0, [], rfl, Nat.le_refl _, by omega, fun _ => rfl, Byt.nil _ _⟩
  · obtain rfl : v = .slice (some a) len cap := by simpa using h0
    simp only [if_true] at hlen
    refine ⟨some a, len, cap, (zs.take len).map (fun z => UInt8.ofNat z.toNat), rfl, hlc, hcm, (fun h => by cases h), (by simp; omega), fun hp => ?_⟩
    obtain ⟨g, off, rfl, hc2⟩ := ints_at hcell (by omega)
    refine ⟨g, off, rfl, fun j hj => ?_⟩
    rw [hc2 j (by omega)]
    have hr := range_u8 hwf j
    have hjz : j < zs.length := by omega
    simp only [List.getElem?_eq_getElem hjz, Option.getD_some] at hr
    simp [List.getD_eq_getElem?_getD, hj, hjz]
    omega
end
end Mur
namespace Go.Proofs.YtljfjjofhclhiaaDoor
open Go.RowKit Go.WideShapes Go.ChangeShapes
open Mur (St w32 u32s b8s Byt)
theorem own : ownKnob Tryd.prog.godebug = none := by kernel_rfl
theorem laidOut : laidOutB Tryd.prog = true := by kernel_rfl
theorem gK : Tryd.prog.globalNamed "murmuration/sha.k" = some 1 := by kernel_rfl
theorem gF : Tryd.prog.globalNamed "murmuration/sha.first" = some 0 := by kernel_rfl
theorem gKt : (Tryd.prog.globals[1]?).map (·.type) = some 61 := by kernel_rfl
theorem gFt : (Tryd.prog.globals[0]?).map (·.type) = some 60 := by kernel_rfl
theorem c64 : Tryd.prog.cellsOf 61 = 64 := by kernel_rfl
theorem c8 : Tryd.prog.cellsOf 60 = 8 := by kernel_rfl
theorem c32 : Tryd.prog.cellsOf 59 = 1 := by kernel_rfl
theorem cB : Tryd.prog.cellsOf 5 = 1 := by kernel_rfl
theorem second {name : String} {k : IntKind} {zs : List Int} {x : String × DataW Unit} {P : Program} {W : World} {g : Nat} {t e : TypeId} {n : Nat}
    (hg : P.globalNamed name = some g) (hty : (P.globals[g]?).map (·.type) = some t) (ht : P.underlying t = some (.array n e)) (he : P.underlying e = some (.int k)) (hce : P.cellsOf e = 1) (hct : P.cellsOf t = n)
    (h : laidMet P [x, (name, Lib.tabData k zs)] W) : Lib.TabIs P W name k zs := by
  obtain ⟨_, ⟨_, _, _, _, _, _, _, _, _, _, ⟨g', t', cs, fuel, p, q, hg', ht', hvar, hd, _, _⟩, _⟩, _⟩ := h
  obtain rfl := Option.some.inj (hg.symm.trans hg')
  obtain rfl := Option.some.inj (hty.symm.trans ht')
  unfold Lib.TabIs
  rw [hvar, ← Lib.cells_of_tab ht he hce hct hd]
def numsOf (l : List UInt32) : List Int := l.map fun x => (x.toNat : Int)
theorem laidK : (Rows.laid_murmuration_sha_k : DataW Unit) = Lib.tabData .u32 (numsOf Mur.K) := by kernel_rfl
theorem laidF : (Rows.laid_murmuration_sha_first : DataW Unit) = Lib.tabData .u32 (numsOf Mur.H0.toList) := by kernel_rfl
theorem shaVars {W : World} (h : laidMetH Tryd.prog [("murmuration/sha.k", Rows.laid_murmuration_sha_k), ("murmuration/sha.first", Rows.laid_murmuration_sha_first)] W) : ShaVars W := by
  have h' : laidMet Tryd.prog [("murmuration/sha.k", Rows.laid_murmuration_sha_k), ("murmuration/sha.first", Rows.laid_murmuration_sha_first)] W := h
  rw [laidK, laidF] at h'
  have h1 := Lib.tabIs_of_head gK gKt Tryd.underlying61 Tryd.underlying59 c32 c64 h'
  have h2 := second gF gFt Tryd.underlying60 Tryd.underlying59 c32 c8 h'
  refine ⟨fun i hi => ?_, fun i hi => ?_⟩
  · have hl : i < Mur.K.length := by rw [Mur.K_length]; exact hi
    rw [h1.cell gK i (by simpa [numsOf] using hl)]
    simp [numsOf, w32, List.getD_eq_getElem?_getD, hl]
  · have hl : i < Mur.H0.toList.length := hi
    rw [h2.cell gF i (by simpa [numsOf] using hl)]
    simp [numsOf, w32, List.getD_eq_getElem?_getD, hl]
def laidCells (cs : Array Value) : Obj → Obj
  | .cells _ t frozen => .cells cs t frozen
  | o => o
noncomputable def laidWorld (os : Os) : World :=
  { World.holding Tryd.prog os ⟨#[], #[], []⟩ with
    heap := ((World.holding Tryd.prog os ⟨#[], #[], []⟩).heap.modify 1 (laidCells ((numsOf Mur.K).map fun z => Value.int .u32 z).toArray)).modify 0 (laidCells ((numsOf Mur.H0.toList).map fun z => Value.int .u32 z).toArray) }
end Go.Proofs.YtljfjjofhclhiaaDoor
