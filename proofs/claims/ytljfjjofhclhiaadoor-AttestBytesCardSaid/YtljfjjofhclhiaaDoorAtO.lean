/- Attests that come in. -/
import Derived.Test.YtljfjjofhclhiaaDoorHmO
import Derived.Test.YtljfjjofhclhiaaDoorAtP
namespace Mur
open Go Go.RowKit Go.WideShapes Go.ChangeShapes
theorem all2_split {α β : Type} {R : α → β → Prop} : ∀ {l1 l2 : List α} {cs : List β}, All2 R (l1 ++ l2) cs → ∃ c1 c2, cs = c1 ++ c2 ∧ All2 R l1 c1 ∧ All2 R l2 c2
  | [], _, cs, h => ⟨[], cs, rfl, .nil, h⟩
  | x :: l1, l2, cs, h => by
    rcases h with _ | ⟨h0, h⟩
    obtain ⟨c1, c2, rfl, h1, h2⟩ := all2_split h
    exact ⟨_ :: c1, c2, rfl, .cons h0 h1, h2⟩
section
variable {H : Type} {enc : TypeId × Value → H} {P : Program} {W : World}
theorem open_att {t e i : TypeId} {fs : Array Field} {v : Value} {d : DataW H} {ps : List MemPlace} (hu : P.underlying t = some (.struct fs)) (he : P.underlying e = some (.int .u8)) (hi : P.underlying i = some (.int .i64))
    (hl : leafs P 3 t = some (List.replicate 32 e ++ (List.replicate 32 e ++ ([i] ++ List.replicate 32 e)))) (hval : ∃ r b0, Value.okWide P W r b0 t v) (h : DataW.Trod enc P W 0 (fun _ => true) true t v d ps) :
    ∃ (k r t : List UInt8) (n : Int), k.length = 32 ∧ r.length = 32 ∧ t.length = 32 ∧ (Lit.int .i64 n).wf = true ∧ v = .agg (attC k r n t).toArray := by
  obtain ⟨cs, rfl, ha⟩ := open_agg 3 (.inr ⟨_, hu⟩) hl hval h
  obtain ⟨c1, c2, e1, h1, ha⟩ := all2_split ha
  obtain ⟨c3, c4, e2, h2, ha⟩ := all2_split ha
  obtain ⟨c5, c6, e3, h3, h4⟩ := all2_split ha
  obtain ⟨k, hk, rfl⟩ := leaf_u8s he 32 _ h1
  obtain ⟨r, hr, rfl⟩ := leaf_u8s he 32 _ h2
  obtain ⟨t, ht, rfl⟩ := leaf_u8s he 32 _ h4
  rcases h3 with _ | ⟨h3, h5⟩
  cases h5
  obtain ⟨n, rfl, hn⟩ := leaf_int hi h3
  refine ⟨k, r, t, n, hk, hr, ht, hn, ?_⟩
  subst e3 e2
  unfold attC
  rw [← List.singleton_append, ← e1]
end
end Mur
namespace Go.Proofs.YtljfjjofhclhiaaDoor
theorem leafs_a : Mur.leafs Tryd.prog 3 36 = some (List.replicate 32 5 ++ (List.replicate 32 5 ++ ([3] ++ List.replicate 32 5))) := by kernel_rfl
end Go.Proofs.YtljfjjofhclhiaaDoor
