/- The last step of every law: it answered true and left the old heap alone. No program in sight. -/
import Derived.ProofKit
import Derived.OpenShut
import Derived.Deep.DeepHandedRow
import Derived.Lib.LaidTab
import Derived.WideKeyArgs
import Derived.Carry
import Derived.WalkKit
import GoSem.ClaimJoined
import Derived.JoinedTies
namespace Mur
open Go Go.RowKit Go.WideShapes Go.ChangeShapes
section
variable {H : Type} {enc : TypeId × Value → H} {P : Program}
theorem all_stay (hl : laidOutB P = true) {W W' : World} {sp' : Nat → Bool} : ∀ {ts : List TypeId} {vs : List Value} {ds : List (DataW H)} {ps : List MemPlace}, (∀ t ∈ ts, P.readableRec t = true ∧ t < P.types.size) →
    DataW.TrodAll enc P W 0 (fun _ => true) true ts vs ds ps → (∀ p ∈ ps, W.sameAt W' p) → (∀ p ∈ ps, sp' p.block = true) → DataW.TrodAll enc P W' 0 sp' true ts vs ds ps
  | [], [], [], _, _, h, _, _ => h
  | t :: ts, v :: vs, d :: ds, ps, hr, ⟨p, q, h1, h2, e⟩, hsame, hs =>
    ⟨p, q, WideElems.Trod_stays hl (hr t (by simp)).1 (hr t (by simp)).2 h1 (fun x hx => hsame x (by rw [e]; exact List.mem_append_left _ hx)) (fun x hx => hs x (by rw [e]; exact List.mem_append_left _ hx)),
      all_stay hl (fun t ht => hr t (by simp [ht])) h2 (fun x hx => hsame x (by rw [e]; exact List.mem_append_right _ hx)) (fun x hx => hs x (by rw [e]; exact List.mem_append_right _ hx)), e⟩
/-- A LAW's LAST STEP: it answered true, and below the old heap nothing has turned. -/
theorem law_post (hl : laidOutB P = true) {f : Func} {s : ChangeSpec} {fresh again : Bool} {W W' : World} {args : Array Value} {ds : List (DataW H)} {before : List MemPlace} {tb : TypeId}
    (hf : f.resultTypes = #[tb]) (hb : P.underlying tb = some .bool) (hp : ∀ t ∈ f.params.toList, P.readableRec t = true ∧ t < P.types.size) (hv : s.vars = [])
    (hs : s.fn H ds = { results := [.lit (.bool true)], args := ds }) (hW : DataW.Whole enc P f.params.toList s.vars false W args.toList ds [] before) (hB : Below W.heap.size W W') :
    s.post enc P f false fresh false again W args (.bool true) W' := by
  have hlt : ∀ p ∈ before, p.block < W.heap.size := fun p hp => hW.lt p hp
  have hW' := hW
  obtain ⟨p, q, hA, hV, hpq, hz, hn⟩ := hW
  rw [hv] at hV
  obtain ⟨_, rfl⟩ := trodVars_none hV
  rw [List.append_nil] at hpq
  subst hpq
  have hsame : ∀ x ∈ before, W.sameAt W' x := fun x hx => hB.same (hlt x hx)
  have hagain : ∀ sp : Nat → Bool, (∀ x ∈ before, sp x.block = true) → DataW.TrodAll enc P W' 0 sp true f.params.toList args.toList ds before := fun sp hsp => all_stay hl hp hA hsame hsp
  have hres : ∀ (b : Nat) (sp : Nat → Bool) (hd : Bool), DataW.TrodAll enc P W' b sp hd [tb] [.bool true] [.lit (.bool true)] [] := fun b sp hd => trodAll_cons_mk (shut_bool hb _) trodAll_mk0
  have e1 : f.resultTypes.toList = [tb] := by rw [hf]
  have e2 : (Value.bool true).resultList f.resultTypes.size = [.bool true] := by rw [hf]; rfl
  refine ⟨ds, [], before, [], before, [], hW', ?_, ?_, ?_, World.keptBut_mono (fun x hx => ⟨hx, .inr (.inl hx)⟩) (hB.frame (· ∈ before)), fun _ => ?_⟩
  · rw [List.append_nil, hs, e1, e2]
    exact hres _ _ _
  · rw [List.append_nil, hs]
    exact hagain _ (fun x hx => by simpa using hlt x hx)
  · rw [List.append_nil, hs, hv]
    rfl
  · refine ⟨fun j t r h1 h2 => ?_, .lit (.bool true) :: ds, [], before, ⟨before, [], ?_, ?_, by simp, ?_, ?_⟩, fun x hx _ => hx⟩
    · rw [hf] at h1
      rw [e2] at h2
      obtain ⟨rfl, rfl⟩ : j = 0 ∧ t = tb := by
        rcases j with _ | j
        · exact ⟨rfl, by simpa using h1.symm⟩
        · simp at h1
      obtain rfl : r = .bool true := by simpa using h2.symm
      exact okWide_bool_mk hb _
    · rw [e1, e2]
      exact ⟨[], before, shut_bool hb _, hagain (fun _ => true) (fun _ _ => rfl), rfl⟩
    · rw [hv]
      rfl
    · intro b off hx
      have hx' : MemPlace.cell b off ∈ before := hx
      rw [hB.frozen (hlt _ hx')]
      exact hz b off hx'
    · intro ha
      cases ha
end
end Mur
