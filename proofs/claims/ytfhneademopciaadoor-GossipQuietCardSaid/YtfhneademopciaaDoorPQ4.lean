/- Gossip: both together. No program in sight. Gossip: one message is heard. No program in sight. Sets of results: the document's add, round by round. No program in sight. What is known of one result; a result built of a key and a length. Messages as they lie. No program in sight but for values that are built. Messages that come in. attest: what may be, eight bytes, the tag, Make, Right. -/
import Derived.Test.YtfhneademopciaaDoorPQ3
import Derived.Test.YtfhneademopciaaDoorPQ2
namespace Mur
open Go Go.RowKit Go.Lib
def addsL (l L : List Att) : List Att := l.foldl (fun L x => (addS x L).1) L
theorem addS_in {x : Att} {L U : List Att} (hs : Sorted L) (hl : U.length ≤ 200) (ok : ∀ y, y ∈ U → may y.n) (hL : ∀ y, y ∈ L → y ∈ U) (hx : x ∈ U) : Sorted (addS x L).1 ∧ ∀ y, y ∈ (addS x L).1 ↔ y ∈ L ∨ y = x := by
  have hm := ok x hx
  by_cases h : x ∈ L
  · rw [addS_twice hm h]
    exact ⟨hs, fun y => ⟨.inl, fun q => q.elim id fun e => by rw [e]; exact h⟩⟩
  · have hlt : (x :: L).length ≤ U.length := nodup_le (List.nodup_cons.2 ⟨h, hs.nodup⟩) fun y hy => by
      rcases List.mem_cons.1 hy with rfl | hy
      · exact hx
      · exact hL y hy
    rw [List.length_cons] at hlt
    have hp := pos_le x L
    have hi := ins_length x L
    rw [addS_ok hm h (by omega)]
    simp only
    rw [List.take_of_length_le (by omega)]
    exact ⟨ins_sorted hs h, fun y => mem_ins.trans or_comm⟩
theorem addsL_in {U : List Att} (hl : U.length ≤ 200) (ok : ∀ y, y ∈ U → may y.n) : ∀ (l L : List Att), Sorted L → (∀ y, y ∈ L → y ∈ U) → (∀ y, y ∈ l → y ∈ U) → Sorted (addsL l L) ∧ ∀ y, y ∈ addsL l L ↔ y ∈ L ∨ y ∈ l
  | [], L, hs, _, _ => ⟨hs, fun y => by simp [addsL]⟩
  | x :: l, L, hs, hL, hx => by
    obtain ⟨h1, h2⟩ := addS_in hs hl ok hL (hx x (by simp))
    obtain ⟨h3, h4⟩ := addsL_in hl ok l (addS x L).1 h1 (fun y hy => ((h2 y).1 hy).elim (hL y) fun e => by rw [e]; exact hx x (by simp)) (fun y hy => hx y (List.mem_cons_of_mem _ hy))
    refine ⟨h3, fun y => ?_⟩
    show y ∈ addsL l (addS x L).1 ↔ _
    rw [h4, h2, List.mem_cons, or_assoc]
def Inc (p q : List UInt8) : Prop := ¬ p <+: q ∧ ¬ q <+: p
theorem Inc.symm {p q : List UInt8} (h : Inc p q) : Inc q p := ⟨h.2, h.1⟩
theorem Inc.snoc {p q : List UInt8} (h : Inc p q) (x : UInt8) : Inc (p ++ [x]) q := ⟨fun k => h.1 ((List.prefix_append p [x]).trans k), fun k => by
  rcases List.prefix_concat_iff.1 k with e | e
  · exact h.1 (by rw [e]; exact List.prefix_append p [x])
  · exact h.2 e⟩
theorem inc_two {p : List UInt8} {x y : UInt8} (h : x ≠ y) : Inc (p ++ [x]) (p ++ [y]) := ⟨fun k => h (by
  have := k.eq_of_length (by simp)
  simpa using this), fun k => h (by
  have := k.eq_of_length (by simp)
  simpa using this.symm)⟩
theorem under_pre {p q k : List UInt8} (h : under p k = true) (g : under q k = true) (hl : p.length ≤ q.length) : p <+: q := by
  rw [List.prefix_iff_eq_take]
  apply List.ext_getElem (by rw [List.length_take]; omega)
  intro i h1 h2
  have e1 := under_iff.1 h i h1
  have e2 := under_iff.1 g i (by omega)
  rw [List.getElem_take]
  have e3 : p.getD i 0 = q.getD i 0 := e1.symm.trans e2
  simpa [List.getD_eq_getElem?_getD, List.getElem?_eq_getElem h1, List.getElem?_eq_getElem (show i < q.length by omega)] using e3
theorem inc_under {p q k : List UInt8} (h : Inc p q) (g : under p k = true) : under q k = false := by
  cases e : under q k
  · rfl
  · rcases Nat.le_total p.length q.length with hl | hl
    · exact absurd (under_pre g e hl) h.1
    · exact absurd (under_pre e g hl) h.2
theorem belowL_snoc {p : List UInt8} {u : UInt8} (L : List Att) (h : isPre p = true) (hl : p.length < 8) (hu : u.toNat < 16) : belowL (p ++ [u]) L = (belowL p L).filter fun x => decide ((nib x.k p.length).toNat = u.toNat) := by
  rw [belowL_ok (pre_snoc h hl hu), belowL_ok h, List.filter_filter]
  congr 1
  funext x
  rw [under_snoc, Bool.and_comm]
theorem sumL_eq {p : List UInt8} {L M : List Att} (h : belowL p L = belowL p M) : sumL p L = sumL p M := by
  unfold sumL
  rw [h]
theorem cntL_eq {p : List UInt8} {L M : List Att} (h : belowL p L = belowL p M) : cntL p L = cntL p M := by
  unfold cntL
  rw [h]
/-- What the two sets are, all of both, as they begin. -/
structure Two (I : Bool → List Att) (U : List Att) : Prop where
  us : Sorted U
  ul : U.length ≤ 200
  uok : ∀ y, y ∈ U → may y.n
  is : ∀ b, Sorted (I b)
  iu : ∀ b x, x ∈ I b → x ∈ U
  ui : ∀ x, x ∈ U → x ∈ I false ∨ x ∈ I true
def Bad (I : Bool → List Att) : Prop := ∃ p, isPre p = true ∧ belowL p (I false) ≠ belowL p (I true) ∧ cntL p (I false) = cntL p (I true) ∧ sumL p (I false) = sumL p (I true)
structure Inv (I : Bool → List Att) (U : List Att) (S : Bool → List Att) (post : List (Bool × Msg)) : Prop where
  srt : ∀ b, Sorted (S b)
  sub : ∀ b x, x ∈ S b → x ∈ U
  may_ : ∀ y, y ∈ post → mayM y.2
  sumd : ∀ y, y ∈ post → y.2.kind = 1 → y.2.sum = sumL y.2.pre (I !y.1) ∧ y.2.cnt = ((cntL y.2.pre (I !y.1) : Nat) : Int) ∧ ∀ b, belowL y.2.pre (S b) = belowL y.2.pre (I b)
  inc : post.Pairwise (fun x y => x.2.kind = 1 ∨ y.2.kind = 1 → Inc x.2.pre y.2.pre)
  its : ∀ y, y ∈ post → ∀ x, x ∈ y.2.items → x ∈ U
def Cov (U : List Att) (S : Bool → List Att) (post : List (Bool × Msg)) : Prop := ∀ x, x ∈ U → ∀ b, x ∈ S b ∨ ∃ y, y ∈ post ∧ ((y.2.kind = 1 ∧ under y.2.pre x.k = true) ∨ (y.2.kind = 2 ∧ y.1 = b ∧ x ∈ y.2.items) ∨ (y.2.kind = 2 ∧ y.2.ans = false ∧ y.1 = !b ∧ under y.2.pre x.k = true ∧ x ∈ S y.1 ∧ x ∉ y.2.items))
def costP (U : List Att) (post : List (Bool × Msg)) : Nat := costs U (post.map Prod.snd)
section
variable {I S : Bool → List Att} {U : List Att} {post post' rest : List (Bool × Msg)} {b : Bool} {m : Msg}
theorem Inv.perm (h : Inv I U S post) (e : post.Perm post') : Inv I U S post' :=
  ⟨h.srt, h.sub, fun y hy => h.may_ y (e.mem_iff.2 hy), fun y hy => h.sumd y (e.mem_iff.2 hy), (e.pairwise_iff fun k q => (k q.symm).symm).1 h.inc, fun y hy => h.its y (e.mem_iff.2 hy)⟩
theorem Cov.perm (h : Cov U S post) (e : post.Perm post') : Cov U S post' := fun x hx b => (h x hx b).imp id fun ⟨y, hy, k⟩ => ⟨y, e.mem_iff.1 hy, k⟩
theorem costP.perm (e : post.Perm post') : costP U post = costP U post' := ((e.map Prod.snd).map (cost U)).sum_nat
theorem costP_cons : costP U ((b, m) :: rest) = cost U m + costP U rest := by simp [costP, costs]
theorem costP_new (M : List Msg) (c : Bool) : costP U (rest ++ M.map fun n => (c, n)) = costP U rest + costs U M := by
  unfold costP
  rw [List.map_append, List.map_map, costs_append]
  congr 2
  simp [Function.comp_def]
theorem Inv.len (h : Inv I U S post) (T : Two I U) (b : Bool) : (S b).length ≤ 200 := Nat.le_trans (nodup_le (h.srt b).nodup (h.sub b)) T.ul
/-- New messages of two kinds, in the place of one that was heard. -/
theorem Inv.put (h : Inv I U S ((b, m) :: rest)) (M : List Msg) (hm : ∀ n, n ∈ M → mayM n) (hi : ∀ n, n ∈ M → ∀ x, x ∈ n.items → x ∈ U)
    (hs : ∀ n, n ∈ M → n.kind = 1 → n.sum = sumL n.pre (I b) ∧ n.cnt = ((cntL n.pre (I b) : Nat) : Int) ∧ ∀ c, belowL n.pre (S c) = belowL n.pre (I c))
    (hp : M.Pairwise (fun x y => x.kind = 1 ∨ y.kind = 1 → Inc x.pre y.pre)) (hq : ∀ n, n ∈ M → ∀ y, y ∈ rest → n.kind = 1 ∨ y.2.kind = 1 → Inc y.2.pre n.pre) : Inv I U S (rest ++ M.map fun n => (!b, n)) := by
  have hin := List.pairwise_cons.1 h.inc
  have hmem : ∀ y, y ∈ rest ++ (M.map fun n => (!b, n)) → y ∈ rest ∨ ∃ n, n ∈ M ∧ y = (!b, n) := fun y hy => (List.mem_append.1 hy).imp id fun k => by
    obtain ⟨n, hn, rfl⟩ := List.mem_map.1 k
    exact ⟨n, hn, rfl⟩
  refine ⟨h.srt, h.sub, fun y hy => ?_, fun y hy hk => ?_, ?_, fun y hy => ?_⟩
  · rcases hmem y hy with k | ⟨n, hn, rfl⟩
    · exact h.may_ y (List.mem_cons_of_mem _ k)
    · exact hm n hn
  · rcases hmem y hy with k | ⟨n, hn, rfl⟩
    · exact h.sumd y (List.mem_cons_of_mem _ k) hk
    · have := hs n hn hk
      simpa using this
  · refine List.pairwise_append.2 ⟨hin.2, List.pairwise_map.2 hp, fun y hy z hz => ?_⟩
    obtain ⟨n, hn, rfl⟩ := List.mem_map.1 hz
    exact fun q => hq n hn y hy q.symm
  · rcases hmem y hy with k | ⟨n, hn, rfl⟩
    · exact h.its y (List.mem_cons_of_mem _ k)
    · exact hi n hn
theorem nine {q N : Nat} (h1 : q ≤ 25) (h2 : 8 * q ≤ N + 7) (h3 : 1 ≤ N) : q * (1 + q) + 1 ≤ 3 + 4 * N := by
  rcases Nat.lt_or_ge q 5 with h | h
  · have : q * (1 + q) ≤ q * 5 := Nat.mul_le_mul_left q (by omega)
    omega
  · have : q * (1 + q) ≤ q * 26 := Nat.mul_le_mul_left q (by omega)
    omega
end
end Mur
namespace Mur
open Go Go.RowKit Go.Lib
section
variable {I S : Bool → List Att} {U : List Att} {rest : List (Bool × Msg)} {b : Bool} {m : Msg}
theorem mayM_items {p : List UInt8} {l : List Att} {a : Bool} (hp : isPre p = true) (hs : Sorted l) (hl : ∀ x, x ∈ l → may x.n ∧ under p x.k = true) : ∀ n, n ∈ itemsM p l a → mayM n := fun n hn => by
  obtain ⟨c, hc, rfl⟩ := List.mem_map.1 hn
  exact ⟨hp, Int.le_refl _, (show (0 : Int) ≤ 200 by decide), chunks_le hc, .inr ⟨rfl, fun x hx => hl x (chunks_sub hc hx), chunks_srt hc hs, rfl, rfl⟩⟩
theorem mayM_empty {p : List UInt8} (hp : isPre p = true) : mayM (emptyM p) := ⟨hp, Int.le_refl _, (show (0 : Int) ≤ 200 by decide), Nat.zero_le _, .inr ⟨rfl, (fun x hx => by cases hx), List.Pairwise.nil, rfl, rfl⟩⟩
theorem mayM_summary {p : List UInt8} {L : List Att} (hp : isPre p = true) (hl : L.length ≤ 200) : mayM (summaryM p L) := by
  have := cntL_all p L
  exact ⟨hp, by simp [summaryM], by show ((cntL p L : Nat) : Int) ≤ 200; omega, Nat.zero_le _, .inl ⟨rfl, rfl, rfl⟩⟩
/-- What one hears of a summary is nothing. -/
theorem heard_same (T : Two I U) (h : Inv I U S ((b, m) :: rest)) (hk : m.kind = 1) (e1 : sumL m.pre (S b) = m.sum) (e2 : ((cntL m.pre (S b) : Nat) : Int) = m.cnt) :
    Inv I U S rest ∧ costP U rest + 1 ≤ costP U ((b, m) :: rest) ∧ (¬ Bad I → Cov U S ((b, m) :: rest) → Cov U S rest) := by
  obtain ⟨s1, s2, s3⟩ := h.sumd (b, m) (by simp) hk
  have hp : isPre m.pre = true := (h.may_ (b, m) (by simp)).1
  refine ⟨?_, ?_, fun hb hc x hx c => ?_⟩
  · have := h.put [] (by simp) (by simp) (by simp) List.Pairwise.nil (by simp)
    simpa using this
  · rw [costP_cons]
    unfold cost
    rw [if_pos hk]
    omega
  · rcases hc x hx c with k | ⟨y, hy, k⟩
    · exact .inl k
    · rcases List.mem_cons.1 hy with rfl | hy
      · rcases k with ⟨_, hu⟩ | ⟨k2, _⟩ | ⟨k2, _⟩
        · refine .inl ?_
          have g1 : sumL m.pre (I b) = sumL m.pre (I !b) := by rw [← sumL_eq (s3 b), e1, s1]
          have g2 : cntL m.pre (I b) = cntL m.pre (I !b) := by
            have := cntL_eq (s3 b)
            simp only at s2 this
            omega
          have g3 : belowL m.pre (I false) = belowL m.pre (I true) := by
            by_cases q : belowL m.pre (I false) = belowL m.pre (I true)
            · exact q
            · refine absurd ⟨m.pre, hp, q, ?_, ?_⟩ hb
              · cases b
                · exact g2
                · exact g2.symm
              · cases b
                · exact g1
                · exact g1.symm
          have g4 : ∀ d, x ∈ belowL m.pre (I d) := by
            have g5 : x ∈ belowL m.pre (I false) := by
              rcases T.ui x hx with q | q
              · exact (mem_belowL hp).2 ⟨q, hu⟩
              · rw [g3]
                exact (mem_belowL hp).2 ⟨q, hu⟩
            intro d
            cases d
            · exact g5
            · rw [← g3]
              exact g5
          have g6 := g4 c
          rw [← s3 c] at g6
          exact ((mem_belowL hp).1 g6).1
        · rw [hk] at k2
          exact absurd k2 (by decide)
        · rw [hk] at k2
          exact absurd k2 (by decide)
      · exact .inr ⟨y, hy, k⟩
/-- What one hears of a summary is results. -/
theorem heard_items (T : Two I U) (h : Inv I U S ((b, m) :: rest)) (hk : m.kind = 1) (M : List Msg) (hne : M ≠ []) (hM : ∀ n, n ∈ M → mayM n ∧ n.kind = 2 ∧ n.ans = false ∧ n.pre = m.pre ∧ ∀ x, x ∈ n.items → x ∈ belowL m.pre (S b)) (hall : ∀ x, x ∈ belowL m.pre (S b) → ∃ n, n ∈ M ∧ x ∈ n.items) :
    Inv I U S (rest ++ M.map fun n => (!b, n)) ∧ (Cov U S ((b, m) :: rest) → Cov U S (rest ++ M.map fun n => (!b, n))) := by
  obtain ⟨s1, s2, s3⟩ := h.sumd (b, m) (by simp) hk
  have hp : isPre m.pre = true := (h.may_ (b, m) (by simp)).1
  have hin := List.pairwise_cons.1 h.inc
  refine ⟨h.put M (fun n hn => (hM n hn).1) (fun n hn x hx => h.sub b x ((mem_belowL hp).1 ((hM n hn).2.2.2.2 x hx)).1) (fun n hn q => ?_) ?_ (fun n hn y hy _ => ?_), fun hc x hx c => ?_⟩
  · rw [(hM n hn).2.1] at q
    exact absurd q (by decide)
  · refine List.pairwise_of_forall_mem_list fun x hx y hy q => ?_
    rw [(hM x hx).2.1, (hM y hy).2.1] at q
    exact absurd q (by decide)
  · rw [(hM n hn).2.2.2.1]
    exact (hin.1 y hy (.inl hk)).symm
  · rcases hc x hx c with k | ⟨y, hy, k⟩
    · exact .inl k
    · rcases List.mem_cons.1 hy with rfl | hy
      · rcases k with ⟨_, hu⟩ | ⟨k2, _⟩ | ⟨k2, _⟩
        · by_cases q : x ∈ S c
          · exact .inl q
          · refine .inr ?_
            have g1 : x ∈ S false ∨ x ∈ S true := by
              rcases T.ui x hx with q | q
              · have : x ∈ belowL m.pre (I false) := (mem_belowL hp).2 ⟨q, hu⟩
                rw [← s3 false] at this
                exact .inl ((mem_belowL hp).1 this).1
              · have : x ∈ belowL m.pre (I true) := (mem_belowL hp).2 ⟨q, hu⟩
                rw [← s3 true] at this
                exact .inr ((mem_belowL hp).1 this).1
            have g2 : x ∈ S !c := by
              cases c
              · exact g1.resolve_left q
              · exact g1.resolve_right q
            by_cases e : c = b
            · subst e
              obtain ⟨n, hn⟩ := List.exists_mem_of_ne_nil M hne
              obtain ⟨q1, q2, q3, q4, q5⟩ := hM n hn
              exact ⟨(!c, n), List.mem_append_right _ (List.mem_map.2 ⟨n, hn, rfl⟩), .inr (.inr ⟨q2, q3, rfl, by rw [q4]; exact hu, g2, fun z => q ((mem_belowL hp).1 (q5 x z)).1⟩)⟩
            · have e2 : (!c) = b := by cases c <;> cases b <;> simp_all
              rw [e2] at g2
              obtain ⟨n, hn, hxn⟩ := hall x ((mem_belowL hp).2 ⟨g2, hu⟩)
              exact ⟨(!b, n), List.mem_append_right _ (List.mem_map.2 ⟨n, hn, rfl⟩), .inr (.inl ⟨(hM n hn).2.1, by rw [← e2, Bool.not_not], hxn⟩)⟩
        · rw [hk] at k2
          exact absurd k2 (by decide)
        · rw [hk] at k2
          exact absurd k2 (by decide)
      · exact .inr ⟨y, List.mem_append_left _ hy, k⟩
/-- What one hears of a summary is sixteen more. -/
theorem heard_split (T : Two I U) (h : Inv I U S ((b, m) :: rest)) (hk : m.kind = 1) (hl : m.pre.length < 8) (hn : 8 < ((cntL m.pre (S b) : Nat) : Int) + m.cnt) :
    Inv I U S (rest ++ (splitM m.pre (S b) 16).map fun n => (!b, n)) ∧ costP U (rest ++ (splitM m.pre (S b) 16).map fun n => (!b, n)) + 1 ≤ costP U ((b, m) :: rest) ∧ (Cov U S ((b, m) :: rest) → Cov U S (rest ++ (splitM m.pre (S b) 16).map fun n => (!b, n))) := by
  obtain ⟨s1, s2, s3⟩ := h.sumd (b, m) (by simp) hk
  have hp : isPre m.pre = true := (h.may_ (b, m) (by simp)).1
  have hin := List.pairwise_cons.1 h.inc
  have hmem : ∀ n, n ∈ splitM m.pre (S b) 16 → ∃ x, x < 16 ∧ n = summaryM (m.pre ++ [UInt8.ofNat x]) (S b) := fun n hn => by
    obtain ⟨x, hx, rfl⟩ := List.mem_map.1 hn
    exact ⟨x, List.mem_range.1 hx, rfl⟩
  have hpx : ∀ x, x < 16 → isPre (m.pre ++ [UInt8.ofNat x]) = true := fun x hx => pre_snoc hp hl (by rw [u8_of hx]; exact hx)
  refine ⟨h.put _ (fun n hn => ?_) (fun n hn x hx => ?_) (fun n hn q => ?_) ?_ (fun n hn y hy _ => ?_), ?_, fun hc x hx c => ?_⟩
  · obtain ⟨x, hx, rfl⟩ := hmem n hn
    exact mayM_summary (hpx x hx) (h.len T b)
  · obtain ⟨x, hx, rfl⟩ := hmem n hn
    cases hx
  · obtain ⟨x, hx, rfl⟩ := hmem n hn
    have key : ∀ c, belowL (m.pre ++ [UInt8.ofNat x]) (S c) = belowL (m.pre ++ [UInt8.ofNat x]) (I c) := fun c => by
      rw [belowL_snoc _ hp hl (by rw [u8_of hx]; exact hx), belowL_snoc _ hp hl (by rw [u8_of hx]; exact hx), s3 c]
    exact ⟨sumL_eq (key b), by show ((cntL (m.pre ++ [UInt8.ofNat x]) (S b) : Nat) : Int) = _; rw [cntL_eq (key b)]; rfl, key⟩
  · unfold splitM
    refine List.pairwise_map.2 (List.Pairwise.imp_of_mem (fun {x y} hx hy hxy _ => inc_two fun e => ?_) List.nodup_range)
    have := congrArg UInt8.toNat e
    rw [u8_of (List.mem_range.1 hx), u8_of (List.mem_range.1 hy)] at this
    exact hxy this
  · obtain ⟨x, hx, rfl⟩ := hmem n hn
    exact ((hin.1 y hy (.inl hk)).snoc _).symm
  · rw [costP_cons, costP_new, costs_split T.us hp hl]
    unfold cost
    rw [if_pos hk]
    have h1 := cntL_le hp (h.srt b) (h.sub b)
    have h2 := cntL_le hp (T.is !b) (T.iu !b)
    simp only at s2
    have e : (4 + 10 * (8 - m.pre.length)) * cntL m.pre U = (4 + 10 * (8 - (m.pre.length + 1))) * cntL m.pre U + 10 * cntL m.pre U := by
      rw [← Nat.add_mul]
      congr 1
      omega
    omega
  · rcases hc x hx c with k | ⟨y, hy, k⟩
    · exact .inl k
    · rcases List.mem_cons.1 hy with rfl | hy
      · rcases k with ⟨_, hu⟩ | ⟨k2, _⟩ | ⟨k2, _⟩
        · have hlt := nib_lt x.k m.pre.length
          refine .inr ⟨(!b, summaryM (m.pre ++ [UInt8.ofNat (nib x.k m.pre.length).toNat]) (S b)), List.mem_append_right _ (List.mem_map.2 ⟨_, List.mem_map.2 ⟨_, List.mem_range.2 hlt, rfl⟩, rfl⟩), .inl ⟨rfl, ?_⟩⟩
          show under (m.pre ++ [UInt8.ofNat (nib x.k m.pre.length).toNat]) x.k = true
          rw [under_snoc, u8_of hlt]
          simp only at hu
          rw [hu]
          simp
        · rw [hk] at k2
          exact absurd k2 (by decide)
        · rw [hk] at k2
          exact absurd k2 (by decide)
      · exact .inr ⟨y, List.mem_append_left _ hy, k⟩
/-- The set that learns. -/
def upd (S : Bool → List Att) (b : Bool) (L : List Att) : Bool → List Att := fun c => if c = b then L else S c
/-- Results are heard. -/
theorem heard_two (T : Two I U) (h : Inv I U S ((b, m) :: rest)) (hk : m.kind = 2) (M : List Msg) (hM : ∀ n, n ∈ M → mayM n ∧ n.kind = 2 ∧ n.pre = m.pre ∧ ∀ x, x ∈ n.items → x ∈ S b) (hall : m.ans = false → ∀ x, x ∈ restM (S b) m → ∃ n, n ∈ M ∧ x ∈ n.items) :
    Inv I U (upd S b (addsL (learnM (S b) m) (S b))) (rest ++ M.map fun n => (!b, n)) ∧ (Cov U S ((b, m) :: rest) → Cov U (upd S b (addsL (learnM (S b) m) (S b))) (rest ++ M.map fun n => (!b, n))) := by
  have hm := h.may_ (b, m) (by simp)
  have hp : isPre m.pre = true := hm.1
  have hit : ∀ x, x ∈ m.items → x ∈ U := h.its (b, m) (by simp)
  have hun : ∀ x, x ∈ m.items → under m.pre x.k = true := by
    rcases hm.2.2.2.2 with q | q
    · have := q.1
      simp only [hk] at this
      exact absurd this (by decide)
    · exact fun x hx => (q.2.1 x hx).2
  have hin := List.pairwise_cons.1 h.inc
  have hle : ∀ x, x ∈ learnM (S b) m ↔ x ∈ m.items ∧ x ∉ S b := fun x => by simp [learnM]
  obtain ⟨a1, a2⟩ := addsL_in T.ul T.uok (learnM (S b) m) (S b) (h.srt b) (h.sub b) (fun y hy => hit y ((hle y).1 hy).1)
  have a3 : ∀ x, x ∈ addsL (learnM (S b) m) (S b) ↔ x ∈ S b ∨ x ∈ m.items := fun x => by
    rw [a2, hle]
    by_cases q : x ∈ S b <;> simp [q]
  have hS : ∀ c x, x ∈ upd S b (addsL (learnM (S b) m) (S b)) c ↔ x ∈ S c ∨ (c = b ∧ x ∈ m.items) := fun c x => by
    unfold upd
    by_cases e : c = b
    · subst e
      rw [if_pos rfl, a3]
      simp
    · rw [if_neg e]
      simp [e]
  have hS1 : ∀ c x, x ∈ S c → x ∈ upd S b (addsL (learnM (S b) m) (S b)) c := fun c x hx => (hS c x).2 (.inl hx)
  have hsrt : ∀ c, Sorted (upd S b (addsL (learnM (S b) m) (S b)) c) := fun c => by
    unfold upd
    split
    · exact a1
    · exact h.srt c
  have h2 : Inv I U (upd S b (addsL (learnM (S b) m) (S b))) ((b, m) :: rest) := by
    refine ⟨hsrt, fun c x hx => ((hS c x).1 hx).elim (h.sub c x) fun q => hit x q.2, h.may_, fun y hy q => ?_, h.inc, h.its⟩
    obtain ⟨t1, t2, t3⟩ := h.sumd y hy q
    refine ⟨t1, t2, fun c => ?_⟩
    rw [← t3 c]
    rcases List.mem_cons.1 hy with rfl | hy'
    · simp only [hk] at q
      exact absurd q (by decide)
    · have hi : Inc m.pre y.2.pre := hin.1 y hy' (.inr q)
      have hpy := (h.may_ y hy).1
      refine (belowL_srt (hsrt c)).ext (belowL_srt (h.srt c)) fun x => ?_
      rw [mem_belowL hpy, mem_belowL hpy, hS]
      constructor
      · rintro ⟨q1 | ⟨_, q1⟩, q2⟩
        · exact ⟨q1, q2⟩
        · rw [inc_under hi (hun x q1)] at q2
          cases q2
      · exact fun q1 => ⟨.inl q1.1, q1.2⟩
  refine ⟨h2.put M (fun n hn => (hM n hn).1) (fun n hn x hx => h.sub b x ((hM n hn).2.2.2 x hx)) (fun n hn q => ?_) ?_ (fun n hn y hy q => ?_), fun hc x hx c => ?_⟩
  · rw [(hM n hn).2.1] at q
    exact absurd q (by decide)
  · refine List.pairwise_of_forall_mem_list fun x hx y hy q => ?_
    rw [(hM x hx).2.1, (hM y hy).2.1] at q
    exact absurd q (by decide)
  · rw [(hM n hn).2.2.1]
    rcases q with q | q
    · rw [(hM n hn).2.1] at q
      exact absurd q (by decide)
    · exact (hin.1 y hy (.inr q)).symm
  · rcases hc x hx c with k | ⟨y, hy, k⟩
    · exact .inl (hS1 c x k)
    · rcases List.mem_cons.1 hy with rfl | hy
      · rcases k with ⟨k1, _⟩ | ⟨_, k2, k3⟩ | ⟨_, k2, k3, k4, k5, k6⟩
        · simp only [hk] at k1
          exact absurd k1 (by decide)
        · exact .inl ((hS c x).2 (.inr ⟨k2.symm, k3⟩))
        · obtain ⟨n, hn, hxn⟩ := hall k2 x (List.mem_filter.2 ⟨(mem_belowL hp).2 ⟨k5, k4⟩, by simpa using k6⟩)
          refine .inr ⟨(!b, n), List.mem_append_right _ (List.mem_map.2 ⟨n, hn, rfl⟩), .inr (.inl ⟨(hM n hn).2.1, ?_, hxn⟩)⟩
          simp only at k3
          show (!b) = c
          rw [k3, Bool.not_not]
      · refine .inr ⟨y, List.mem_append_left _ hy, ?_⟩
        rcases k with k | k | ⟨k1, k2, k3, k4, k5, k6⟩
        · exact .inl k
        · exact .inr (.inl k)
        · exact .inr (.inr ⟨k1, k2, k3, k4, hS1 _ x k5, k6⟩)
/-- One message is heard: what holds goes on to hold; it costs. -/
theorem heard (T : Two I U) (h : Inv I U S ((b, m) :: rest)) :
    Inv I U (upd S b (addsL (learnsM (S b) m) (S b))) (rest ++ (repliesM (S b) m).map fun n => (!b, n)) ∧ costP U (rest ++ (repliesM (S b) m).map fun n => (!b, n)) + 1 ≤ costP U ((b, m) :: rest) ∧
      (¬ Bad I → Cov U S ((b, m) :: rest) → Cov U (upd S b (addsL (learnsM (S b) m) (S b))) (rest ++ (repliesM (S b) m).map fun n => (!b, n))) := by
  have hm := h.may_ (b, m) (by simp)
  have hp : isPre m.pre = true := hm.1
  have h8 := pre_len hp
  have hn1 := cntL_le hp (h.srt b) (h.sub b)
  have hn2 := cntL_all m.pre U
  have hul := T.ul
  by_cases hk : m.kind = 1
  · have hl : learnsM (S b) m = [] := by
      unfold learnsM
      rw [if_pos hm, if_pos hk]
    have hS : upd S b (addsL [] (S b)) = S := by
      funext c
      unfold upd addsL
      by_cases e : c = b
      · subst e
        simp
      · rw [if_neg e]
    rw [hl, hS]
    obtain ⟨s1, s2, s3⟩ := h.sumd (b, m) (by simp) hk
    have hr : repliesM (S b) m = summedM (S b) m := by
      unfold repliesM
      rw [if_pos hm, if_pos hk]
    rw [hr]
    unfold summedM
    split
    · rename_i q
      simpa using heard_same T h hk q.1 q.2
    · split
      · rename_i q
        have hcost : cost U m = 3 + (4 + 10 * (8 - m.pre.length)) * cntL m.pre U := by
          unfold cost
          rw [if_pos hk]
        have hge : 4 * cntL m.pre U ≤ (4 + 10 * (8 - m.pre.length)) * cntL m.pre U := Nat.mul_le_mul_right _ (by omega)
        split
        · rename_i z
          obtain ⟨r1, r2⟩ := heard_items T h hk [emptyM m.pre] (by simp) (fun n hn => by
            rw [List.mem_singleton.1 hn]
            exact ⟨mayM_empty hp, rfl, rfl, rfl, fun x hx => by cases hx⟩) (fun x hx => by
            have : (belowL m.pre (S b)).length = 0 := z
            rw [List.eq_nil_of_length_eq_zero this] at hx
            cases hx)
          refine ⟨r1, ?_, fun _ => r2⟩
          rw [costP_cons, costP_new, hcost]
          have : costs U [emptyM m.pre] = 1 + (cntL m.pre U + 7) / 8 := by
            simp [costs, emptyM, cost]
          omega
        · rename_i z
          have hsb := belowL_srt (p := m.pre) (h.srt b)
          have hmem : ∀ x, x ∈ belowL m.pre (S b) → may x.n ∧ under m.pre x.k = true := fun x hx => ⟨T.uok x (h.sub b x ((mem_belowL hp).1 hx).1), ((mem_belowL hp).1 hx).2⟩
          obtain ⟨r1, r2⟩ := heard_items T h hk (itemsM m.pre (belowL m.pre (S b)) false) (fun e => by
            have := congrArg List.length e
            simp only [itemsM, List.length_map, chunks_len, List.length_nil] at this
            unfold cntL at z
            omega) (fun n hn => by
            have h3 := mayM_items (a := false) hp hsb hmem n hn
            obtain ⟨c, hc, rfl⟩ := List.mem_map.1 hn
            exact ⟨h3, rfl, rfl, rfl, fun x hx => chunks_sub hc hx⟩) (fun x hx => by
            obtain ⟨c, hc, hxc⟩ := chunks_all hx
            exact ⟨_, List.mem_map.2 ⟨c, hc, rfl⟩, hxc⟩)
          refine ⟨r1, ?_, fun _ => r2⟩
          rw [costP_cons, costP_new, hcost, costs_items]
          simp only [Bool.false_eq_true, if_false]
          have e : (belowL m.pre (S b)).length = cntL m.pre (S b) := rfl
          rw [e]
          rcases q with q | q
          · have h9 := nine (q := (cntL m.pre U + 7) / 8) (N := cntL m.pre U) (by omega) (by omega) (by omega)
            have h10 : (cntL m.pre (S b) + 7) / 8 * (1 + (cntL m.pre U + 7) / 8) ≤ (cntL m.pre U + 7) / 8 * (1 + (cntL m.pre U + 7) / 8) := Nat.mul_le_mul_right _ (by omega)
            omega
          · have hc0 := hm.2.1
            have h11 : (cntL m.pre (S b) + 7) / 8 = 1 := by
              simp only at hc0
              omega
            rw [h11, Nat.one_mul]
            omega
      · rename_i q1 q
        have q2 := not_or.1 q
        obtain ⟨r1, r2, r3⟩ := heard_split T h hk (by omega) (by omega)
        exact ⟨r1, r2, fun _ => r3⟩
  · have hk2 : m.kind = 2 := by
      rcases hm.2.2.2.2 with q | q
      · exact absurd q.1 hk
      · exact q.1
    have hl : learnsM (S b) m = learnM (S b) m := by
      unfold learnsM
      rw [if_pos hm, if_neg hk]
    rw [hl]
    cases ha : m.ans
    · have hr : repliesM (S b) m = itemsM m.pre (restM (S b) m) true := by
        unfold repliesM
        rw [if_pos hm, if_neg hk, ha]
        simp
      rw [hr]
      have hrs : Sorted (restM (S b) m) := (belowL_srt (h.srt b)).filter _
      have hrm : ∀ x, x ∈ restM (S b) m → x ∈ belowL m.pre (S b) := fun x hx => (List.mem_filter.1 hx).1
      have hrl : (restM (S b) m).length ≤ cntL m.pre (S b) := List.length_filter_le _ _
      obtain ⟨r1, r2⟩ := heard_two T h hk2 (itemsM m.pre (restM (S b) m) true) (fun n hn => by
        have h3 := mayM_items (a := true) hp hrs (fun x hx => ⟨T.uok x (h.sub b x ((mem_belowL hp).1 (hrm x hx)).1), ((mem_belowL hp).1 (hrm x hx)).2⟩) n hn
        obtain ⟨c, hc, rfl⟩ := List.mem_map.1 hn
        exact ⟨h3, rfl, rfl, fun x hx => ((mem_belowL hp).1 (hrm x (chunks_sub hc hx))).1⟩) (fun _ x hx => by
        obtain ⟨c, hc, hxc⟩ := chunks_all hx
        exact ⟨_, List.mem_map.2 ⟨c, hc, rfl⟩, hxc⟩)
      refine ⟨r1, ?_, fun _ => r2⟩
      rw [costP_cons, costP_new, costs_items]
      have : cost U m = 1 + (cntL m.pre U + 7) / 8 := by
        unfold cost
        rw [if_neg hk, ha]
        simp
      rw [this]
      simp only [if_true, Nat.mul_one]
      omega
    · have hr : repliesM (S b) m = [] := by
        unfold repliesM
        rw [if_pos hm, if_neg hk, ha]
        simp
      rw [hr]
      obtain ⟨r1, r2⟩ := heard_two T h hk2 [] (by simp) (fun q => by rw [ha] at q; cases q)
      refine ⟨r1, ?_, fun _ => r2⟩
      rw [costP_cons, costP_new]
      have : cost U m = 1 := by
        unfold cost
        rw [if_neg hk, ha]
        simp
      rw [this]
      simp [costs]
      omega
/-- The beginning. -/
theorem inv_start (T : Two I U) : Inv I U I [(true, summaryM [] (I false))] ∧ costP U [(true, summaryM [] (I false))] ≤ 16803 ∧ Cov U I [(true, summaryM [] (I false))] := by
  have hl : ∀ b, (I b).length ≤ 200 := fun b => Nat.le_trans (nodup_le (T.is b).nodup (T.iu b)) T.ul
  refine ⟨⟨T.is, T.iu, fun y hy => ?_, fun y hy _ => ?_, List.pairwise_singleton _ _, fun y hy x hx => ?_⟩, ?_, fun x hx b => .inr ⟨_, List.mem_singleton.2 rfl, .inl ⟨rfl, rfl⟩⟩⟩
  · rw [List.mem_singleton.1 hy]
    exact mayM_summary (by decide) (hl false)
  · rw [List.mem_singleton.1 hy]
    exact ⟨rfl, rfl, fun _ => rfl⟩
  · rw [List.mem_singleton.1 hy] at hx
    cases hx
  · have h1 := cntL_all [] U
    have h2 := T.ul
    show cost U (summaryM [] (I false)) + 0 ≤ 16803
    have : cost U (summaryM [] (I false)) = 3 + 84 * cntL [] U := rfl
    omega
/-- The end. -/
theorem inv_end (T : Two I U) (h : Inv I U S []) (hc : Cov U S []) (b : Bool) : S b = U := (h.srt b).ext T.us fun x => ⟨h.sub b x, fun hx => (hc x hx b).elim id fun ⟨y, hy, _⟩ => by cases hy⟩
end
end Mur
namespace Mur
open Go Go.RowKit Go.Lib
theorem ins_lt {x : Att} {L : List Att} {i : Nat} (h : i < pos x L) : (ins x L)[i]? = L[i]? := by
  unfold ins
  have := pos_le x L
  rw [List.getElem?_append_left (by rw [List.length_take]; omega), List.getElem?_take, if_pos h]
theorem ins_at (x : Att) (L : List Att) : (ins x L)[pos x L]? = some x := by
  unfold ins
  have := pos_le x L
  rw [List.getElem?_append_right (by rw [List.length_take]; omega), List.length_take, Nat.min_eq_left this, Nat.sub_self]
  rfl
theorem ins_gt {x : Att} {L : List Att} {i : Nat} (h : pos x L ≤ i) : (ins x L)[i + 1]? = L[i]? := by
  unfold ins
  have := pos_le x L
  rw [List.getElem?_append_right (by rw [List.length_take]; omega), List.length_take, Nat.min_eq_left this, show i + 1 - pos x L = (i - pos x L) + 1 by omega, List.getElem?_cons_succ, List.getElem?_drop]
  congr 1
  omega
theorem take_snoc {l : List Att} {i : Nat} {y : Att} (h : l[i]? = some y) : l.take (i + 1) = l.take i ++ [y] := by
  obtain ⟨h1, rfl⟩ := List.getElem?_eq_some_iff.1 h
  exact List.take_succ_eq_append_getElem h1
/-- A round of the document's add, for one that stands ahead of x, is x's successor, or comes later. -/
theorem radd_lt {x y : Att} {L : List Att} {i : Nat} (hs : Sorted L) (hy : L[i]? = some y) (hne : ¬ y = x) (hl : ¬ x.lt y) : i < pos x L ∧ (ins x L).take (i + 1) = (ins x L).take i ++ [y] := by
  have h : y.lt x := by
    rcases y.lt_or x with h | h | h
    · exact h
    · exact absurd h hne
    · exact absurd h hl
  have hp := (pos_lt hs hy).1 h
  exact ⟨hp, take_snoc ((ins_lt hp).trans hy)⟩
theorem radd_at {x y : Att} {L : List Att} {i : Nat} (hs : Sorted L) (hy : L[i]? = some y) (hi : i ≤ pos x L) (hl : x.lt y) : pos x L = i ∧ (ins x L).take (i + 2) = ((ins x L).take i ++ [x]) ++ [y] := by
  have hp : ¬ i < pos x L := fun h => Att.lt_asymm hl ((pos_lt hs hy).2 h)
  have e : pos x L = i := by omega
  refine ⟨e, ?_⟩
  have h1 : (ins x L)[i]? = some x := by
    have := ins_at x L
    rwa [e] at this
  rw [take_snoc (i := i + 1) ((ins_gt (by omega)).trans hy), take_snoc h1]
theorem radd_gt {x y : Att} {L : List Att} {i : Nat} (hy : L[i]? = some y) (hi : pos x L < i) : (ins x L).take (i + 2) = (ins x L).take (i + 1) ++ [y] := take_snoc ((ins_gt (by omega)).trans hy)
theorem radd_end {x : Att} {L : List Att} {n : Nat} (hl : L.length = n) (hi : n ≤ pos x L) : pos x L = n ∧ (ins x L).take n ++ [x] = ins x L := by
  have := pos_le x L
  have e : pos x L = n := by omega
  refine ⟨e, ?_⟩
  have h1 : (ins x L)[n]? = some x := by
    have := ins_at x L
    rwa [e] at this
  rw [← take_snoc h1]
  exact List.take_of_length_le (by rw [ins_length, hl]; exact Nat.le_refl _)
theorem radd_all {x : Att} {L : List Att} {n k : Nat} (hl : L.length = n) (hk : n + 1 ≤ k) : (ins x L).take k = ins x L := List.take_of_length_le (by rw [ins_length, hl]; exact hk)
theorem radd_new {x : Att} {L : List Att} {n : Nat} (hl : L.length = n) (h : ∀ j, j < n → L[j]? ≠ some x) : x ∉ L := fun hm => by
  obtain ⟨j, hj, e⟩ := List.getElem_of_mem hm
  exact h j (by omega) (by rw [List.getElem?_eq_getElem hj, e])
theorem radd_full {x z : Att} {L : List Att} (hl : L.length = 200) (hx : x ∉ L) (hz : (ins x L)[200]? = some z) : z = x ↔ pos x L = 200 := by
  have hp := pos_le x L
  constructor
  · rintro rfl
    by_cases h : pos z L = 200
    · exact h
    · have h1 : (ins z L)[199 + 1]? = L[199]? := ins_gt (by omega)
      rw [hz] at h1
      exact absurd (List.mem_of_getElem? h1.symm) hx
  · intro h
    have h1 := ins_at x L
    rw [h, hz] at h1
    exact Option.some.inj h1
end Mur
namespace Mur
open Go Go.RowKit Wk
section
variable {P : Program} {w : World} {a : Act} {o : Oper}
theorem SlA.kcell {n : Nat} {L : List Att} {g off : Nat} (h : SlA w (some ⟨g, off, none⟩) n L) {i : Nat} {x : Att} (hx : L[i]? = some x) {j : Nat} (hj : j < 32) : w.cell? ⟨g, off + i * 97 + j * 1, none⟩ = some (.int .u8 (((x.k.getD j 0).toNat : Nat) : Int)) := by
  have h1 := h.key hx
  have hk := x.hk
  have h2 := h1 j (.int .u8 (((x.k.getD j 0).toNat : Nat) : Int)) (by
    have hj' : j < x.k.length := by omega
    simp [b8s, List.getElem?_eq_getElem hj'])
  rw [Nat.mul_one]
  exact h2
end
end Mur
namespace Mur
end Mur
namespace Mur
open Go Go.RowKit Wk
def k63 : List UInt8 := [63, 0, 0, 0, 0, 0, 0, 0, 0, 0, 0, 0, 0, 0, 0, 0, 0, 0, 0, 0, 0, 0, 0, 0, 0, 0, 0, 0, 0, 0, 0, 0]
def kA : Att := ⟨k63, z32, z32, 1, rfl, rfl, rfl, by decide⟩
theorem kA_add : addS kA [] = ([kA], 0) := by decide +kernel
theorem fill_att2 {k : List UInt8} {n : Int} (hk : k.length = 32) : Instr.fill (fun i => #[(0, 32), (32, 32), (64, 1), (65, 32)][i]?) (attC z32 z32 0 z32).toArray [(0, .agg (b8s k).toArray), (2, .int .i64 n)] = some (attC k z32 n z32).toArray := by
  have e1 : splice (attC z32 z32 0 z32) 0 (b8s k) = attC k z32 0 z32 := splice_mid (A := []) (B := b8s z32) (C := b8s z32 ++ (.int .i64 0 :: b8s z32)) (vs := b8s k) rfl (by rw [b8s_length, b8s_length, hk]; rfl)
  have e3 : splice (attC k z32 0 z32) 64 [.int .i64 n] = attC k z32 n z32 := by
    have := splice_mid (A := b8s k ++ b8s z32) (B := [Value.int .i64 0]) (C := b8s z32) (vs := [Value.int .i64 n]) (off := 64) (by rw [List.length_append, b8s_length, b8s_length, hk]; rfl) rfl
    simpa [attC] using this
  refine fill_part (off := 0) (size := 32) rfl rfl (by rw [b8s_length, hk]) (by rw [attC_length rfl rfl rfl]; omega) ?_
  rw [e1]
  refine fill_part (off := 64) (size := 1) (vs := [.int .i64 n]) rfl rfl rfl (by rw [attC_length hk rfl rfl]; omega) ?_
  rw [e3]
  rfl
end Mur
namespace Go.Proofs.YtfhneademopciaaDoor
open Go.RowKit Wk
open Mur (b8s attC z32)
theorem built2 {k : List UInt8} {n : Int} (hk : k.length = 32) : Program.built Tryd.prog 32 [(0, .agg (b8s k).toArray), (2, .int .i64 n)] = some (attC k z32 n z32).toArray :=
  (show Program.built Tryd.prog 32 [(0, .agg (b8s k).toArray), (2, .int .i64 n)] = Instr.fill (fun i => #[(0, 32), (32, 32), (64, 1), (65, 32)][i]?) (attC z32 z32 0 z32).toArray [(0, .agg (b8s k).toArray), (2, .int .i64 n)] from by kernel_rfl).trans (Mur.fill_att2 hk)
end Go.Proofs.YtfhneademopciaaDoor
namespace Mur
open Go Go.RowKit Wk
/-- The cells of a message. -/
def msgC (kd : UInt8) (P : Option Addr) (pn pc : Nat) (s : List UInt8) (n : Int) (A : Option Addr) (an ac : Nat) (b : Bool) : List Value := .int .u8 ((kd.toNat : Nat) : Int) :: .slice P pn pc :: (b8s s ++ [.int .i64 n, .slice A an ac, .bool b])
section
variable {kd : UInt8} {P A : Option Addr} {pn pc an ac : Nat} {s : List UInt8} {n : Int} {b : Bool}
theorem msgC_length (hs : s.length = 32) : (msgC kd P pn pc s n A an ac b).length = 37 := by simp [msgC, b8s_length, hs]
theorem msgC_size (hs : s.length = 32) : (msgC kd P pn pc s n A an ac b).toArray.size = 37 := msgC_length hs
theorem msgC_one : ∀ v ∈ msgC kd P pn pc s n A an ac b, v.oneCell' = true := by
  intro v hv
  simp only [msgC, List.mem_cons, List.mem_append, List.not_mem_nil, or_false] at hv
  rcases hv with rfl | rfl | h | rfl | rfl | rfl
  · rfl
  · rfl
  · obtain ⟨x, _, rfl⟩ := List.mem_map.1 h
    rfl
  · rfl
  · rfl
  · rfl
theorem msgC_all : (msgC kd P pn pc s n A an ac b).toArray.all (·.oneCell') = true := Array.all_eq_true_iff_forall_mem.2 fun v hv => msgC_one v (by simpa using hv)
variable {w : World} {g o : Nat}
theorem msg_kind (h : w.rangeAt g o (msgC kd P pn pc s n A an ac b)) : w.cell? ⟨g, o, none⟩ = some (.int .u8 ((kd.toNat : Nat) : Int)) := h 0 _ rfl
theorem msg_pre (h : w.rangeAt g o (msgC kd P pn pc s n A an ac b)) : w.cell? ⟨g, o + 1, none⟩ = some (.slice P pn pc) := h 1 _ rfl
theorem msg_at (hs : s.length = 32) (i : Nat) : (msgC kd P pn pc s n A an ac b)[34 + i]? = [Value.int .i64 n, .slice A an ac, .bool b][i]? := by
  unfold msgC
  rw [show 34 + i = 32 + i + 1 + 1 by omega, List.getElem?_cons_succ, List.getElem?_cons_succ, List.getElem?_append_right (by rw [b8s_length, hs]; omega), b8s_length, hs]
  congr 1
  omega
theorem msg_cnt (hs : s.length = 32) (h : w.rangeAt g o (msgC kd P pn pc s n A an ac b)) : w.cell? ⟨g, o + 34, none⟩ = some (.int .i64 n) := h 34 _ (msg_at hs 0)
theorem msg_items (hs : s.length = 32) (h : w.rangeAt g o (msgC kd P pn pc s n A an ac b)) : w.cell? ⟨g, o + 35, none⟩ = some (.slice A an ac) := h 35 _ (msg_at hs 1)
theorem msg_ans (hs : s.length = 32) (h : w.rangeAt g o (msgC kd P pn pc s n A an ac b)) : w.cell? ⟨g, o + 36, none⟩ = some (.bool b) := h 36 _ (msg_at hs 2)
theorem msg_sum (h : w.rangeAt g o (msgC kd P pn pc s n A an ac b)) : w.rangeAt g (o + 2) (b8s s) := fun j v hv => by
  have := h (2 + j) v (by
    unfold msgC
    rw [show 2 + j = j + 1 + 1 by omega, List.getElem?_cons_succ, List.getElem?_cons_succ, List.getElem?_append_left (List.getElem?_eq_some_iff.1 hv).1]
    exact hv)
  rw [← Nat.add_assoc] at this
  exact this
end
-- halves of a key's bytes, as within takes them
def shn (b : UInt8) (i : Nat) : UInt8 := if i % 2 = 0 then b >>> 4 else b
theorem nib_shn (k : List UInt8) (i : Nat) : nib k i = shn (k.getD (i / 2) 0) i &&& 15 := by
  unfold nib shn
  split
  · apply UInt8.toNat_inj.1
    rw [u8_and15, u8_shr4]
    have := (k.getD (i / 2) 0).toNat_lt
    omega
  · rfl
section
variable {P : Program} {w : World} {a : Act} {o : Oper}
theorem shr8_n (t ty : TypeId) (x y : Operand) (ho : o.op = .binOp .shr t x y ty) (b : UInt8) (i : Nat) (hx : a.eval x = .int .u8 ((b.toNat : Nat) : Int)) (hy : a.eval y = .int .i64 ((4 - 4 * (i % 2) : Nat) : Int)) : (execOp a.eval o).run P w = .ok (.value (.int .u8 (((shn b i).toNat : Nat) : Int))) w := by
  have hb' := b.toNat_lt
  have key : (binOp .shr t (.int .u8 ((b.toNat : Nat) : Int)) (.int .i64 ((4 - 4 * (i % 2) : Nat) : Int))).run P w = .ok (.int .u8 (((shn b i).toNat : Nat) : Int)) w := by
    have : (Op.shift .shr .u8 ((b.toNat : Nat) : Int) .i64 ((4 - 4 * (i % 2) : Nat) : Int)).run P w = .ok (.int .u8 (((shn b i).toNat : Nat) : Int)) w := by
      unfold Op.shift
      rw [if_neg (by omega)]
      have hb : IntKind.u8.bits = 8 := rfl
      unfold shn
      rcases Nat.mod_two_eq_zero_or_one i with e | e
      · rw [e]
        have h1 : min (((4 - 4 * 0 : Nat) : Int).toNat) IntKind.u8.bits = 4 := by rw [hb]; rfl
        have h2 : Int.fdiv ((b.toNat : Nat) : Int) (2 ^ 4) = ((b.toNat / 16 : Nat) : Int) := by
          rw [Int.fdiv_eq_ediv_of_nonneg _ (by decide)]
          exact_mod_cast rfl
        simp only [h1, h2, Sem.run_pure, if_true, u8_shr4]
      · rw [e]
        have h1 : min (((4 - 4 * 1 : Nat) : Int).toNat) IntKind.u8.bits = 0 := by rw [hb]; rfl
        have h2 : Int.fdiv ((b.toNat : Nat) : Int) (2 ^ 0) = ((b.toNat : Nat) : Int) := by simp
        simp only [h1, h2, Sem.run_pure]
        simp
    exact this
  have hg : (eqGuard .shr t x y (.int .u8 ((b.toNat : Nat) : Int)) (.int .i64 ((4 - 4 * (i % 2) : Nat) : Int))).run P w = .ok () w := rfl
  unfold execOp
  simp only [ho, hx, hy]
  simp only [Sem.run_bind, Sem.run_pure, hg, Result.andThen_ok, key]
end
-- what is built
def fieldsG : Array (Nat × Nat) := #[(0, 1), (1, 1), (2, 32), (34, 1), (35, 1), (36, 1)]
section
variable {kd : UInt8} {P A : Option Addr} {pn pc an ac : Nat} {s : List UInt8} {n : Int} {b : Bool} {R : Option (Array Value)} {rest : List (Nat × Value)}
theorem fillG0 (kd' : UInt8) (hs : s.length = 32) (h : Instr.fill (fun i => fieldsG[i]?) (msgC kd' P pn pc s n A an ac b).toArray rest = R) : Instr.fill (fun i => fieldsG[i]?) (msgC kd P pn pc s n A an ac b).toArray ((0, .int .u8 ((kd'.toNat : Nat) : Int)) :: rest) = R := by
  refine fill_part (off := 0) (size := 1) (vs := [.int .u8 ((kd'.toNat : Nat) : Int)]) rfl rfl rfl (by rw [msgC_length hs]; omega) ?_
  exact h
theorem fillG1 (P' : Option Addr) (pn' pc' : Nat) (hs : s.length = 32) (h : Instr.fill (fun i => fieldsG[i]?) (msgC kd P' pn' pc' s n A an ac b).toArray rest = R) : Instr.fill (fun i => fieldsG[i]?) (msgC kd P pn pc s n A an ac b).toArray ((1, .slice P' pn' pc') :: rest) = R := by
  refine fill_part (off := 1) (size := 1) (vs := [.slice P' pn' pc']) rfl rfl rfl (by rw [msgC_length hs]; omega) ?_
  exact h
theorem fillG2 {s' : List UInt8} (hs : s.length = 32) (hs' : s'.length = 32) (h : Instr.fill (fun i => fieldsG[i]?) (msgC kd P pn pc s' n A an ac b).toArray rest = R) : Instr.fill (fun i => fieldsG[i]?) (msgC kd P pn pc s n A an ac b).toArray ((2, .agg (b8s s').toArray) :: rest) = R := by
  refine fill_part (off := 2) (size := 32) (vs := b8s s') rfl rfl (by rw [b8s_length, hs']) (by rw [msgC_length hs]; omega) ?_
  have e : splice (msgC kd P pn pc s n A an ac b) 2 (b8s s') = msgC kd P pn pc s' n A an ac b := by
    have := splice_mid (A := [Value.int .u8 ((kd.toNat : Nat) : Int), Value.slice P pn pc]) (B := b8s s) (C := [Value.int .i64 n, Value.slice A an ac, Value.bool b]) (vs := b8s s') (off := 2) rfl (by rw [b8s_length, b8s_length, hs, hs'])
    exact this
  rw [e]
  exact h
theorem fillG3 (n' : Int) (hs : s.length = 32) (h : Instr.fill (fun i => fieldsG[i]?) (msgC kd P pn pc s n' A an ac b).toArray rest = R) : Instr.fill (fun i => fieldsG[i]?) (msgC kd P pn pc s n A an ac b).toArray ((3, .int .i64 n') :: rest) = R := by
  refine fill_part (off := 34) (size := 1) (vs := [.int .i64 n']) rfl rfl rfl (by rw [msgC_length hs]; omega) ?_
  have e : splice (msgC kd P pn pc s n A an ac b) 34 [.int .i64 n'] = msgC kd P pn pc s n' A an ac b := by
    have := splice_mid (A := [.int .u8 ((kd.toNat : Nat) : Int), .slice P pn pc] ++ b8s s) (B := [Value.int .i64 n]) (C := [.slice A an ac, .bool b]) (vs := [Value.int .i64 n']) (off := 34) (by simp [b8s_length, hs]) rfl
    simpa [msgC] using this
  rw [e]
  exact h
theorem fillG4 (A' : Option Addr) (an' ac' : Nat) (hs : s.length = 32) (h : Instr.fill (fun i => fieldsG[i]?) (msgC kd P pn pc s n A' an' ac' b).toArray rest = R) : Instr.fill (fun i => fieldsG[i]?) (msgC kd P pn pc s n A an ac b).toArray ((4, .slice A' an' ac') :: rest) = R := by
  refine fill_part (off := 35) (size := 1) (vs := [.slice A' an' ac']) rfl rfl rfl (by rw [msgC_length hs]; omega) ?_
  have e : splice (msgC kd P pn pc s n A an ac b) 35 [.slice A' an' ac'] = msgC kd P pn pc s n A' an' ac' b := by
    have := splice_mid (A := [.int .u8 ((kd.toNat : Nat) : Int), .slice P pn pc] ++ (b8s s ++ [Value.int .i64 n])) (B := [Value.slice A an ac]) (C := [.bool b]) (vs := [Value.slice A' an' ac']) (off := 35) (by simp [b8s_length, hs]) rfl
    simpa [msgC] using this
  rw [e]
  exact h
theorem fillG5 (b' : Bool) (hs : s.length = 32) (h : Instr.fill (fun i => fieldsG[i]?) (msgC kd P pn pc s n A an ac b').toArray rest = R) : Instr.fill (fun i => fieldsG[i]?) (msgC kd P pn pc s n A an ac b).toArray ((5, .bool b') :: rest) = R := by
  refine fill_part (off := 36) (size := 1) (vs := [.bool b']) rfl rfl rfl (by rw [msgC_length hs]; omega) ?_
  have e : splice (msgC kd P pn pc s n A an ac b) 36 [.bool b'] = msgC kd P pn pc s n A an ac b' := by
    have := splice_mid (A := [.int .u8 ((kd.toNat : Nat) : Int), .slice P pn pc] ++ (b8s s ++ [Value.int .i64 n, .slice A an ac])) (B := [Value.bool b]) (C := []) (vs := [Value.bool b']) (off := 36) (by simp [b8s_length, hs]) rfl
    simpa [msgC] using this
  rw [e]
  exact h
end
theorem own8_low {w : World} {base base' e n c : Nat} {A : Option Addr} {l : List UInt8} (h : Own8 w base e A n c l) (hb : base' ≤ base) : Own8 w base' e A n c l := own8 (own_le h.own hb)
def msgZ : List Value := msgC 0 none 0 0 z32 0 none 0 0 false
end Mur
namespace Go.Proofs.YtfhneademopciaaDoor
open Go.RowKit Wk
open Mur (b8s msgC z32)
theorem built_msg (l : List (Nat × Value)) {R : Option (Array Value)} (h : Instr.fill (fun i => Mur.fieldsG[i]?) Mur.msgZ.toArray l = R) (e : Program.built Tryd.prog 66 l = Instr.fill (fun i => Mur.fieldsG[i]?) Mur.msgZ.toArray l) : Program.built Tryd.prog 66 l = R := e.trans h
theorem built_summary {s : List UInt8} (hs : s.length = 32) (P : Option Addr) (pn pc : Nat) (n : Int) : Program.built Tryd.prog 66 [(0, .int .u8 1), (1, .slice P pn pc), (2, .agg (b8s s).toArray), (3, .int .i64 n)] = some (msgC 1 P pn pc s n none 0 0 false).toArray :=
  built_msg _ (Mur.fillG0 1 rfl (Mur.fillG1 P pn pc rfl (Mur.fillG2 rfl hs (Mur.fillG3 n hs rfl)))) (by kernel_rfl)
theorem built_empty (P : Option Addr) (pn pc : Nat) : Program.built Tryd.prog 66 [(0, .int .u8 2), (1, .slice P pn pc)] = some (msgC 2 P pn pc z32 0 none 0 0 false).toArray :=
  built_msg _ (Mur.fillG0 2 rfl (Mur.fillG1 P pn pc rfl rfl)) (by kernel_rfl)
theorem built_items (P : Option Addr) (pn pc : Nat) (A : Option Addr) (an ac : Nat) (b : Bool) : Program.built Tryd.prog 66 [(0, .int .u8 2), (1, .slice P pn pc), (4, .slice A an ac), (5, .bool b)] = some (msgC 2 P pn pc z32 0 A an ac b).toArray :=
  built_msg _ (Mur.fillG0 2 rfl (Mur.fillG1 P pn pc rfl (Mur.fillG4 A an ac rfl (Mur.fillG5 b rfl rfl)))) (by kernel_rfl)
end Go.Proofs.YtfhneademopciaaDoor
namespace Mur
open Go Go.RowKit Go.WideShapes Go.ChangeShapes
section
variable {H : Type} {enc : TypeId × Value → H} {P : Program} {W : World}
end
end Mur
namespace Go.Proofs.YtfhneademopciaaDoor
open Go.RowKit Go.WideShapes Go.ChangeShapes
open Mur (All2 Leaf Att SlA rowA attC b8s msgC)
set_option maxRecDepth 100000
section
variable {H : Type} {enc : TypeId × Value → H} {W : World}
end
end Go.Proofs.YtfhneademopciaaDoor
namespace Go.Proofs.YtfhneademopciaaDoor
open Go.RowKit
open Mur (b8s Byt Own8 Seg Segs flat cutA attC)
set_option maxRecDepth 100000
set_option maxHeartbeats 4000000
theorem may_any (k r t : List UInt8) (n : Int) (hk : k.length = 32) (hr : r.length = 32) (_ht : t.length = 32) (w : World) : Calls Tryd.prog 60 #[.agg (attC k r n t).toArray] w fun e w' => e = .returned (.bool (decide (Mur.may n))) ∧ Wk.Chg [] w w' := by
  refine calls_of_wp Tryd.func60 rfl ?_
  refine wp_seq ?_
  refine Wk.reg ?_
  refine Wk.rEx 0 (some 1) _ rfl rfl (by kernel_rfl) (Wk.new_ex (.pointer (some ⟨w.heap.size, 0, none⟩)) ((Mur.attC k r n t).toArray) 32 (by kernel_rfl)) ?_
  rintro _ W1 ⟨rfl, hb1, ch1, sz1⟩
  have zz1 := ch1.size
  refine Wk.rPure 1 (some 2) (.bool false) rfl rfl (by kernel_rfl) (by kernel_rfl) ?_
  refine Wk.rEnd 2 rfl ?_
  refine Wk.nxt ?_
  refine wp_seq ?_
  refine Wk.reg ?_
  refine Wk.rPure 0 (some 3) (.pointer (some ⟨w.heap.size, 64, none⟩)) rfl rfl (by kernel_rfl) (by kernel_rfl) ?_
  refine Wk.rPure 1 (some 4) (.int .i64 n) rfl rfl (by kernel_rfl) (Wk.load1 3 (.tmp 3) rfl (by kernel_rfl) ⟨w.heap.size, 64, none⟩ (by kernel_rfl) (.int .i64 n) (Mur.att_len hk hr hb1)) ?_
  by_cases hx1 : n ≥ (1 : Int)
  · refine Wk.rPure 2 (some 5) (.bool true) rfl rfl (by kernel_rfl) (Wk.boolT (b := decide (n ≥ (1 : Int))) (decide_eq_true (by first | exact hx1 | omega)) (by kernel_rfl)) ?_
    refine Wk.rPure 3 (some 6) (.bool true) rfl rfl (by kernel_rfl) (by kernel_rfl) ?_
    refine Wk.rPure 4 (some 7) (.pointer (some ⟨w.heap.size, 64, none⟩)) rfl rfl (by kernel_rfl) (by kernel_rfl) ?_
    refine Wk.rPure 5 (some 8) (.int .i64 n) rfl rfl (by kernel_rfl) (Wk.load1 3 (.tmp 7) rfl (by kernel_rfl) ⟨w.heap.size, 64, none⟩ (by kernel_rfl) (.int .i64 n) (Mur.att_len hk hr hb1)) ?_
    by_cases hx2 : n ≤ (5000 : Int)
    · refine Wk.rPure 6 (some 9) (.bool true) rfl rfl (by kernel_rfl) (Wk.boolT (b := decide (n ≤ (5000 : Int))) (decide_eq_true (by first | exact hx2 | omega)) (by kernel_rfl)) ?_
      refine Wk.rPure 7 (some 10) (.bool true) rfl rfl (by kernel_rfl) (by kernel_rfl) ?_
      refine Wk.rPure 8 (some 2) (.bool true) rfl rfl (by kernel_rfl) (by kernel_rfl) ?_
      refine Wk.rEnd 9 rfl ?_
      refine Wk.nxt ?_
      refine wp_ret ?_
      have kk1 : Wk.Chg [] w W1 := Wk.Chg.step ((Wk.Chg.refl _).more (by simp)) ch1 trivial
      refine Wk.ret (.bool true) rfl (by kernel_rfl) ?_
      exact ⟨by rw [decide_eq_true (show Mur.may n from by unfold Mur.may; omega)], kk1⟩
    · refine Wk.rPure 6 (some 9) (.bool false) rfl rfl (by kernel_rfl) (Wk.boolF (b := decide (n ≤ (5000 : Int))) (decide_eq_false (by first | exact hx2 | omega)) (by kernel_rfl)) ?_
      refine Wk.rPure 7 (some 10) (.bool false) rfl rfl (by kernel_rfl) (by kernel_rfl) ?_
      refine Wk.rPure 8 (some 2) (.bool false) rfl rfl (by kernel_rfl) (by kernel_rfl) ?_
      refine Wk.rEnd 9 rfl ?_
      refine Wk.nxt ?_
      refine wp_ret ?_
      have kk2 : Wk.Chg [] w W1 := Wk.Chg.step ((Wk.Chg.refl _).more (by simp)) ch1 trivial
      refine Wk.ret (.bool false) rfl (by kernel_rfl) ?_
      exact ⟨by rw [decide_eq_false (show ¬ Mur.may n from by unfold Mur.may; omega)], kk2⟩
  · refine Wk.rPure 2 (some 5) (.bool false) rfl rfl (by kernel_rfl) (Wk.boolF (b := decide (n ≥ (1 : Int))) (decide_eq_false (by first | exact hx1 | omega)) (by kernel_rfl)) ?_
    refine Wk.rPure 3 (some 6) (.bool false) rfl rfl (by kernel_rfl) (by kernel_rfl) ?_
    refine Wk.rPass 4 (some 7) rfl rfl (by kernel_rfl) ?_
    refine Wk.rPass 5 (some 8) rfl rfl (by kernel_rfl) ?_
    refine Wk.rPass 6 (some 9) rfl rfl (by kernel_rfl) ?_
    refine Wk.rPure 7 (some 10) (.bool false) rfl rfl (by kernel_rfl) (by kernel_rfl) ?_
    refine Wk.rPure 8 (some 2) (.bool false) rfl rfl (by kernel_rfl) (by kernel_rfl) ?_
    refine Wk.rEnd 9 rfl ?_
    refine Wk.nxt ?_
    refine wp_ret ?_
    have kk3 : Wk.Chg [] w W1 := Wk.Chg.step ((Wk.Chg.refl _).more (by simp)) ch1 trivial
    refine Wk.ret (.bool false) rfl (by kernel_rfl) ?_
    exact ⟨by rw [decide_eq_false (show ¬ Mur.may n from by unfold Mur.may; omega)], kk3⟩
theorem Rmay_any (k r t : List UInt8) (n : Int) (hk : k.length = 32) (hr : r.length = 32) (_ht : t.length = 32) (w : World) : Calls Tryd.prog 50 #[.agg (attC k r n t).toArray] w fun e w' => e = .returned (.bool (decide (Mur.may n))) ∧ Wk.Chg [] w w' := by
  refine calls_of_wp Tryd.func50 rfl ?_
  refine wp_seq ?_
  refine Wk.reg ?_
  refine Wk.rEx 0 (some 1) _ rfl rfl (by kernel_rfl) (Wk.new_ex (.pointer (some ⟨w.heap.size, 0, none⟩)) ((Mur.attC k r n t).toArray) 32 (by kernel_rfl)) ?_
  rintro _ W1 ⟨rfl, hb1, ch1, sz1⟩
  have zz1 := ch1.size
  refine Wk.rPure 1 (some 2) (.bool false) rfl rfl (by kernel_rfl) (by kernel_rfl) ?_
  refine Wk.rEnd 2 rfl ?_
  refine Wk.nxt ?_
  refine wp_seq ?_
  refine Wk.reg ?_
  refine Wk.rPure 0 (some 3) (.pointer (some ⟨w.heap.size, 64, none⟩)) rfl rfl (by kernel_rfl) (by kernel_rfl) ?_
  refine Wk.rPure 1 (some 4) (.int .i64 n) rfl rfl (by kernel_rfl) (Wk.load1 3 (.tmp 3) rfl (by kernel_rfl) ⟨w.heap.size, 64, none⟩ (by kernel_rfl) (.int .i64 n) (Mur.att_len hk hr hb1)) ?_
  by_cases hx1 : n ≥ (1 : Int)
  · refine Wk.rPure 2 (some 5) (.bool true) rfl rfl (by kernel_rfl) (Wk.boolT (b := decide (n ≥ (1 : Int))) (decide_eq_true (by first | exact hx1 | omega)) (by kernel_rfl)) ?_
    refine Wk.rPure 3 (some 6) (.bool true) rfl rfl (by kernel_rfl) (by kernel_rfl) ?_
    refine Wk.rPure 4 (some 7) (.pointer (some ⟨w.heap.size, 64, none⟩)) rfl rfl (by kernel_rfl) (by kernel_rfl) ?_
    refine Wk.rPure 5 (some 8) (.int .i64 n) rfl rfl (by kernel_rfl) (Wk.load1 3 (.tmp 7) rfl (by kernel_rfl) ⟨w.heap.size, 64, none⟩ (by kernel_rfl) (.int .i64 n) (Mur.att_len hk hr hb1)) ?_
    by_cases hx2 : n ≤ (5000 : Int)
    · refine Wk.rPure 6 (some 9) (.bool true) rfl rfl (by kernel_rfl) (Wk.boolT (b := decide (n ≤ (5000 : Int))) (decide_eq_true (by first | exact hx2 | omega)) (by kernel_rfl)) ?_
      refine Wk.rPure 7 (some 10) (.bool true) rfl rfl (by kernel_rfl) (by kernel_rfl) ?_
      refine Wk.rPure 8 (some 2) (.bool true) rfl rfl (by kernel_rfl) (by kernel_rfl) ?_
      refine Wk.rEnd 9 rfl ?_
      refine Wk.nxt ?_
      refine wp_ret ?_
      have kk1 : Wk.Chg [] w W1 := Wk.Chg.step ((Wk.Chg.refl _).more (by simp)) ch1 trivial
      refine Wk.ret (.bool true) rfl (by kernel_rfl) ?_
      exact ⟨by rw [decide_eq_true (show Mur.may n from by unfold Mur.may; omega)], kk1⟩
    · refine Wk.rPure 6 (some 9) (.bool false) rfl rfl (by kernel_rfl) (Wk.boolF (b := decide (n ≤ (5000 : Int))) (decide_eq_false (by first | exact hx2 | omega)) (by kernel_rfl)) ?_
      refine Wk.rPure 7 (some 10) (.bool false) rfl rfl (by kernel_rfl) (by kernel_rfl) ?_
      refine Wk.rPure 8 (some 2) (.bool false) rfl rfl (by kernel_rfl) (by kernel_rfl) ?_
      refine Wk.rEnd 9 rfl ?_
      refine Wk.nxt ?_
      refine wp_ret ?_
      have kk2 : Wk.Chg [] w W1 := Wk.Chg.step ((Wk.Chg.refl _).more (by simp)) ch1 trivial
      refine Wk.ret (.bool false) rfl (by kernel_rfl) ?_
      exact ⟨by rw [decide_eq_false (show ¬ Mur.may n from by unfold Mur.may; omega)], kk2⟩
  · refine Wk.rPure 2 (some 5) (.bool false) rfl rfl (by kernel_rfl) (Wk.boolF (b := decide (n ≥ (1 : Int))) (decide_eq_false (by first | exact hx1 | omega)) (by kernel_rfl)) ?_
    refine Wk.rPure 3 (some 6) (.bool false) rfl rfl (by kernel_rfl) (by kernel_rfl) ?_
    refine Wk.rPass 4 (some 7) rfl rfl (by kernel_rfl) ?_
    refine Wk.rPass 5 (some 8) rfl rfl (by kernel_rfl) ?_
    refine Wk.rPass 6 (some 9) rfl rfl (by kernel_rfl) ?_
    refine Wk.rPure 7 (some 10) (.bool false) rfl rfl (by kernel_rfl) (by kernel_rfl) ?_
    refine Wk.rPure 8 (some 2) (.bool false) rfl rfl (by kernel_rfl) (by kernel_rfl) ?_
    refine Wk.rEnd 9 rfl ?_
    refine Wk.nxt ?_
    refine wp_ret ?_
    have kk3 : Wk.Chg [] w W1 := Wk.Chg.step ((Wk.Chg.refl _).more (by simp)) ch1 trivial
    refine Wk.ret (.bool false) rfl (by kernel_rfl) ?_
    exact ⟨by rw [decide_eq_false (show ¬ Mur.may n from by unfold Mur.may; omega)], kk3⟩
theorem eight_any (n : Int) (w : World) : Calls Tryd.prog 80 #[.int .i64 n] w fun e w' => ∃ E, Hid (E = Mur.e8 (Mur.u64n n)) ∧ E.length = 8 ∧ e = .returned (.agg (b8s E).toArray) ∧ Wk.Chg [] w w' := by
  refine calls_of_wp Tryd.func80 rfl ?_
  refine wp_seq ?_
  refine Wk.reg ?_
  refine Wk.rEx 0 (some 2) _ rfl rfl (by kernel_rfl) (Wk.new_ex (.pointer (some ⟨w.heap.size, 0, none⟩)) #[.int .u8 0, .int .u8 0, .int .u8 0, .int .u8 0, .int .u8 0, .int .u8 0, .int .u8 0, .int .u8 0] 127 (by kernel_rfl)) ?_
  rintro _ W1 ⟨rfl, hb1, ch1, sz1⟩
  have zz1 := ch1.size
  refine Wk.rEnd 1 rfl ?_
  refine Wk.nxt ?_
  refine wp_seq ?_
  refine wp_seq ?_
  refine Wk.reg ?_
  refine Wk.rPure 0 (some 4) (.int .i64 0) rfl rfl (by kernel_rfl) (by kernel_rfl) ?_
  refine Wk.rEnd 1 rfl ?_
  refine Wk.nxt ?_
  refine wp_block ?_
  refine Wk.loopN 9 ?_
  refine Wk.rdS ?_
  refine wp_seq ?_
  refine Wk.reg ?_
  refine Wk.rPure 0 (some 5) (.bool true) rfl rfl (by kernel_rfl) (Wk.boolT (b := decide ((0 : Int) < (8 : Int))) (decide_eq_true (by decide)) (by kernel_rfl)) ?_
  refine Wk.rEnd 1 rfl ?_
  refine Wk.nxt ?_
  refine wp_seq ?_
  refine wp_cond_true (by kernel_rfl) ?_
  refine wp_skip ?_
  refine Wk.nxt ?_
  refine wp_seq ?_
  refine wp_block ?_
  refine wp_seq ?_
  refine Wk.reg ?_
  refine Wk.rPure 0 (some 6) (.int .i64 0) rfl rfl (by kernel_rfl) (by kernel_rfl) ?_
  refine Wk.rPure 1 (some 3) (.int .i64 0) rfl rfl (by kernel_rfl) (by kernel_rfl) ?_
  refine Wk.rEnd 2 rfl ?_
  refine Wk.nxt ?_
  refine Wk.reg ?_
  refine Wk.rPure 0 (some 7) (.int .i64 0) rfl rfl (by kernel_rfl) (by kernel_rfl) ?_
  refine Wk.rPure 1 (some 8) (.int .i64 n) rfl rfl (by kernel_rfl) (by kernel_rfl) ?_
  refine Wk.rPure 2 (some 9) (.int .u64 ((Mur.u64n n : Nat) : Int)) rfl rfl (by kernel_rfl) (Mur.conv_u64n 3 26 (.tmp 8) rfl (by kernel_rfl) Tryd.underlying26 .i64 n (by kernel_rfl)) ?_
  refine Wk.rPure 3 (some 10) (.int .i64 0) rfl rfl (by kernel_rfl) (by kernel_rfl) ?_
  refine Wk.rPure 4 (some 11) (.int .i64 0) rfl rfl (by kernel_rfl) (Wk.int64 (n := 8 * 0) (z := 0) (by omega) (by omega) (by omega) (by kernel_rfl)) ?_
  refine Wk.rPure 5 (some 12) (.int .i64 56) rfl rfl (by kernel_rfl) (Wk.int64 (n := 56 - 0) (z := 56) (by omega) (by omega) (by omega) (by kernel_rfl)) ?_
  refine Wk.rPure 6 (some 13) (.int .u64 (((Mur.u64n n) / 72057594037927936 : Nat) : Int)) rfl rfl (by kernel_rfl) (Mur.shr64 26 3 (.tmp 9) (.tmp 12) rfl (Mur.u64n n) 56 .i64 (by kernel_rfl) (by kernel_rfl) (by omega) 72057594037927936 rfl) ?_
  refine Wk.rPure 7 (some 14) (.int .u8 (((Mur.u64n n) / 72057594037927936 % 256 : Nat) : Int)) rfl rfl (by kernel_rfl) (Mur.conv_u8 26 5 (.tmp 13) rfl (by kernel_rfl) Tryd.underlying5 .u64 ((Mur.u64n n) / 72057594037927936) (by kernel_rfl)) ?_
  refine Wk.rPure 8 (some 15) (.pointer (some ⟨w.heap.size, 0, none⟩)) rfl rfl (by kernel_rfl) (Wk.index_arr 127 5 (.tmp 2) (.tmp 7) rfl 8 Tryd.underlying127 1 (by kernel_rfl) w.heap.size 0 0 .i64 (by kernel_rfl) (by kernel_rfl) (by decide)) ?_
  refine Wk.rExS 9 none _ rfl rfl (by kernel_rfl) (Wk.store1 5 (.tmp 15) (.tmp 14) rfl (by kernel_rfl) w.heap.size 0 (by kernel_rfl) (.int .u8 (((Mur.u64n n) / 72057594037927936 % 256 : Nat) : Int)) (by kernel_rfl) rfl 127 #[.int .u8 0, .int .u8 0, .int .u8 0, .int .u8 0, .int .u8 0, .int .u8 0, .int .u8 0, .int .u8 0] hb1 (by simp)) ?_
  rintro W2 ⟨hb2, ch2⟩
  replace hb2 : W2.heap[w.heap.size]? = some (.cells #[.int .u8 (((Mur.u64n n) / 72057594037927936 % 256 : Nat) : Int), .int .u8 0, .int .u8 0, .int .u8 0, .int .u8 0, .int .u8 0, .int .u8 0, .int .u8 0] 127 (0, 0)) := hb2
  have zz2 := ch2.size
  refine Wk.rEnd 10 rfl ?_
  refine Wk.inN ?_
  refine Wk.nxt ?_
  refine Wk.reg ?_
  refine Wk.rPure 0 (some 16) (.int .i64 1) rfl rfl (by kernel_rfl) (Wk.int64 (n := 0 + 1) (z := 1) (by omega) (by omega) (by omega) (by kernel_rfl)) ?_
  refine Wk.rPure 1 (some 4) (.int .i64 1) rfl rfl (by kernel_rfl) (by kernel_rfl) ?_
  refine Wk.rEnd 2 rfl ?_
  refine Wk.nxt ?_
  refine Wk.rdS ?_
  refine wp_seq ?_
  refine Wk.reg ?_
  refine Wk.rPure 0 (some 5) (.bool true) rfl rfl (by kernel_rfl) (Wk.boolT (b := decide ((1 : Int) < (8 : Int))) (decide_eq_true (by decide)) (by kernel_rfl)) ?_
  refine Wk.rEnd 1 rfl ?_
  refine Wk.nxt ?_
  refine wp_seq ?_
  refine wp_cond_true (by kernel_rfl) ?_
  refine wp_skip ?_
  refine Wk.nxt ?_
  refine wp_seq ?_
  refine wp_block ?_
  refine wp_seq ?_
  refine Wk.reg ?_
  refine Wk.rPure 0 (some 6) (.int .i64 1) rfl rfl (by kernel_rfl) (by kernel_rfl) ?_
  refine Wk.rPure 1 (some 3) (.int .i64 1) rfl rfl (by kernel_rfl) (by kernel_rfl) ?_
  refine Wk.rEnd 2 rfl ?_
  refine Wk.nxt ?_
  refine Wk.reg ?_
  refine Wk.rPure 0 (some 7) (.int .i64 1) rfl rfl (by kernel_rfl) (by kernel_rfl) ?_
  refine Wk.rPure 1 (some 8) (.int .i64 n) rfl rfl (by kernel_rfl) (by kernel_rfl) ?_
  refine Wk.rPure 2 (some 9) (.int .u64 ((Mur.u64n n : Nat) : Int)) rfl rfl (by kernel_rfl) (Mur.conv_u64n 3 26 (.tmp 8) rfl (by kernel_rfl) Tryd.underlying26 .i64 n (by kernel_rfl)) ?_
  refine Wk.rPure 3 (some 10) (.int .i64 1) rfl rfl (by kernel_rfl) (by kernel_rfl) ?_
  refine Wk.rPure 4 (some 11) (.int .i64 8) rfl rfl (by kernel_rfl) (Wk.int64 (n := 8 * 1) (z := 8) (by omega) (by omega) (by omega) (by kernel_rfl)) ?_
  refine Wk.rPure 5 (some 12) (.int .i64 48) rfl rfl (by kernel_rfl) (Wk.int64 (n := 56 - 8) (z := 48) (by omega) (by omega) (by omega) (by kernel_rfl)) ?_
  refine Wk.rPure 6 (some 13) (.int .u64 (((Mur.u64n n) / 281474976710656 : Nat) : Int)) rfl rfl (by kernel_rfl) (Mur.shr64 26 3 (.tmp 9) (.tmp 12) rfl (Mur.u64n n) 48 .i64 (by kernel_rfl) (by kernel_rfl) (by omega) 281474976710656 rfl) ?_
  refine Wk.rPure 7 (some 14) (.int .u8 (((Mur.u64n n) / 281474976710656 % 256 : Nat) : Int)) rfl rfl (by kernel_rfl) (Mur.conv_u8 26 5 (.tmp 13) rfl (by kernel_rfl) Tryd.underlying5 .u64 ((Mur.u64n n) / 281474976710656) (by kernel_rfl)) ?_
  refine Wk.rPure 8 (some 15) (.pointer (some ⟨w.heap.size, 1, none⟩)) rfl rfl (by kernel_rfl) (Wk.index_arr 127 5 (.tmp 2) (.tmp 7) rfl 8 Tryd.underlying127 1 (by kernel_rfl) w.heap.size 0 1 .i64 (by kernel_rfl) (by kernel_rfl) (by decide)) ?_
  refine Wk.rExS 9 none _ rfl rfl (by kernel_rfl) (Wk.store1 5 (.tmp 15) (.tmp 14) rfl (by kernel_rfl) w.heap.size 1 (by kernel_rfl) (.int .u8 (((Mur.u64n n) / 281474976710656 % 256 : Nat) : Int)) (by kernel_rfl) rfl 127 #[.int .u8 (((Mur.u64n n) / 72057594037927936 % 256 : Nat) : Int), .int .u8 0, .int .u8 0, .int .u8 0, .int .u8 0, .int .u8 0, .int .u8 0, .int .u8 0] hb2 (by simp)) ?_
  rintro W3 ⟨hb3, ch3⟩
  replace hb3 : W3.heap[w.heap.size]? = some (.cells #[.int .u8 (((Mur.u64n n) / 72057594037927936 % 256 : Nat) : Int), .int .u8 (((Mur.u64n n) / 281474976710656 % 256 : Nat) : Int), .int .u8 0, .int .u8 0, .int .u8 0, .int .u8 0, .int .u8 0, .int .u8 0] 127 (0, 0)) := hb3
  have zz3 := ch3.size
  refine Wk.rEnd 10 rfl ?_
  refine Wk.inN ?_
  refine Wk.nxt ?_
  refine Wk.reg ?_
  refine Wk.rPure 0 (some 16) (.int .i64 2) rfl rfl (by kernel_rfl) (Wk.int64 (n := 1 + 1) (z := 2) (by omega) (by omega) (by omega) (by kernel_rfl)) ?_
  refine Wk.rPure 1 (some 4) (.int .i64 2) rfl rfl (by kernel_rfl) (by kernel_rfl) ?_
  refine Wk.rEnd 2 rfl ?_
  refine Wk.nxt ?_
  refine Wk.rdS ?_
  refine wp_seq ?_
  refine Wk.reg ?_
  refine Wk.rPure 0 (some 5) (.bool true) rfl rfl (by kernel_rfl) (Wk.boolT (b := decide ((2 : Int) < (8 : Int))) (decide_eq_true (by decide)) (by kernel_rfl)) ?_
  refine Wk.rEnd 1 rfl ?_
  refine Wk.nxt ?_
  refine wp_seq ?_
  refine wp_cond_true (by kernel_rfl) ?_
  refine wp_skip ?_
  refine Wk.nxt ?_
  refine wp_seq ?_
  refine wp_block ?_
  refine wp_seq ?_
  refine Wk.reg ?_
  refine Wk.rPure 0 (some 6) (.int .i64 2) rfl rfl (by kernel_rfl) (by kernel_rfl) ?_
  refine Wk.rPure 1 (some 3) (.int .i64 2) rfl rfl (by kernel_rfl) (by kernel_rfl) ?_
  refine Wk.rEnd 2 rfl ?_
  refine Wk.nxt ?_
  refine Wk.reg ?_
  refine Wk.rPure 0 (some 7) (.int .i64 2) rfl rfl (by kernel_rfl) (by kernel_rfl) ?_
  refine Wk.rPure 1 (some 8) (.int .i64 n) rfl rfl (by kernel_rfl) (by kernel_rfl) ?_
  refine Wk.rPure 2 (some 9) (.int .u64 ((Mur.u64n n : Nat) : Int)) rfl rfl (by kernel_rfl) (Mur.conv_u64n 3 26 (.tmp 8) rfl (by kernel_rfl) Tryd.underlying26 .i64 n (by kernel_rfl)) ?_
  refine Wk.rPure 3 (some 10) (.int .i64 2) rfl rfl (by kernel_rfl) (by kernel_rfl) ?_
  refine Wk.rPure 4 (some 11) (.int .i64 16) rfl rfl (by kernel_rfl) (Wk.int64 (n := 8 * 2) (z := 16) (by omega) (by omega) (by omega) (by kernel_rfl)) ?_
  refine Wk.rPure 5 (some 12) (.int .i64 40) rfl rfl (by kernel_rfl) (Wk.int64 (n := 56 - 16) (z := 40) (by omega) (by omega) (by omega) (by kernel_rfl)) ?_
  refine Wk.rPure 6 (some 13) (.int .u64 (((Mur.u64n n) / 1099511627776 : Nat) : Int)) rfl rfl (by kernel_rfl) (Mur.shr64 26 3 (.tmp 9) (.tmp 12) rfl (Mur.u64n n) 40 .i64 (by kernel_rfl) (by kernel_rfl) (by omega) 1099511627776 rfl) ?_
  refine Wk.rPure 7 (some 14) (.int .u8 (((Mur.u64n n) / 1099511627776 % 256 : Nat) : Int)) rfl rfl (by kernel_rfl) (Mur.conv_u8 26 5 (.tmp 13) rfl (by kernel_rfl) Tryd.underlying5 .u64 ((Mur.u64n n) / 1099511627776) (by kernel_rfl)) ?_
  refine Wk.rPure 8 (some 15) (.pointer (some ⟨w.heap.size, 2, none⟩)) rfl rfl (by kernel_rfl) (Wk.index_arr 127 5 (.tmp 2) (.tmp 7) rfl 8 Tryd.underlying127 1 (by kernel_rfl) w.heap.size 0 2 .i64 (by kernel_rfl) (by kernel_rfl) (by decide)) ?_
  refine Wk.rExS 9 none _ rfl rfl (by kernel_rfl) (Wk.store1 5 (.tmp 15) (.tmp 14) rfl (by kernel_rfl) w.heap.size 2 (by kernel_rfl) (.int .u8 (((Mur.u64n n) / 1099511627776 % 256 : Nat) : Int)) (by kernel_rfl) rfl 127 #[.int .u8 (((Mur.u64n n) / 72057594037927936 % 256 : Nat) : Int), .int .u8 (((Mur.u64n n) / 281474976710656 % 256 : Nat) : Int), .int .u8 0, .int .u8 0, .int .u8 0, .int .u8 0, .int .u8 0, .int .u8 0] hb3 (by simp)) ?_
  rintro W4 ⟨hb4, ch4⟩
  replace hb4 : W4.heap[w.heap.size]? = some (.cells #[.int .u8 (((Mur.u64n n) / 72057594037927936 % 256 : Nat) : Int), .int .u8 (((Mur.u64n n) / 281474976710656 % 256 : Nat) : Int), .int .u8 (((Mur.u64n n) / 1099511627776 % 256 : Nat) : Int), .int .u8 0, .int .u8 0, .int .u8 0, .int .u8 0, .int .u8 0] 127 (0, 0)) := hb4
  have zz4 := ch4.size
  refine Wk.rEnd 10 rfl ?_
  refine Wk.inN ?_
  refine Wk.nxt ?_
  refine Wk.reg ?_
  refine Wk.rPure 0 (some 16) (.int .i64 3) rfl rfl (by kernel_rfl) (Wk.int64 (n := 2 + 1) (z := 3) (by omega) (by omega) (by omega) (by kernel_rfl)) ?_
  refine Wk.rPure 1 (some 4) (.int .i64 3) rfl rfl (by kernel_rfl) (by kernel_rfl) ?_
  refine Wk.rEnd 2 rfl ?_
  refine Wk.nxt ?_
  refine Wk.rdS ?_
  refine wp_seq ?_
  refine Wk.reg ?_
  refine Wk.rPure 0 (some 5) (.bool true) rfl rfl (by kernel_rfl) (Wk.boolT (b := decide ((3 : Int) < (8 : Int))) (decide_eq_true (by decide)) (by kernel_rfl)) ?_
  refine Wk.rEnd 1 rfl ?_
  refine Wk.nxt ?_
  refine wp_seq ?_
  refine wp_cond_true (by kernel_rfl) ?_
  refine wp_skip ?_
  refine Wk.nxt ?_
  refine wp_seq ?_
  refine wp_block ?_
  refine wp_seq ?_
  refine Wk.reg ?_
  refine Wk.rPure 0 (some 6) (.int .i64 3) rfl rfl (by kernel_rfl) (by kernel_rfl) ?_
  refine Wk.rPure 1 (some 3) (.int .i64 3) rfl rfl (by kernel_rfl) (by kernel_rfl) ?_
  refine Wk.rEnd 2 rfl ?_
  refine Wk.nxt ?_
  refine Wk.reg ?_
  refine Wk.rPure 0 (some 7) (.int .i64 3) rfl rfl (by kernel_rfl) (by kernel_rfl) ?_
  refine Wk.rPure 1 (some 8) (.int .i64 n) rfl rfl (by kernel_rfl) (by kernel_rfl) ?_
  refine Wk.rPure 2 (some 9) (.int .u64 ((Mur.u64n n : Nat) : Int)) rfl rfl (by kernel_rfl) (Mur.conv_u64n 3 26 (.tmp 8) rfl (by kernel_rfl) Tryd.underlying26 .i64 n (by kernel_rfl)) ?_
  refine Wk.rPure 3 (some 10) (.int .i64 3) rfl rfl (by kernel_rfl) (by kernel_rfl) ?_
  refine Wk.rPure 4 (some 11) (.int .i64 24) rfl rfl (by kernel_rfl) (Wk.int64 (n := 8 * 3) (z := 24) (by omega) (by omega) (by omega) (by kernel_rfl)) ?_
  refine Wk.rPure 5 (some 12) (.int .i64 32) rfl rfl (by kernel_rfl) (Wk.int64 (n := 56 - 24) (z := 32) (by omega) (by omega) (by omega) (by kernel_rfl)) ?_
  refine Wk.rPure 6 (some 13) (.int .u64 (((Mur.u64n n) / 4294967296 : Nat) : Int)) rfl rfl (by kernel_rfl) (Mur.shr64 26 3 (.tmp 9) (.tmp 12) rfl (Mur.u64n n) 32 .i64 (by kernel_rfl) (by kernel_rfl) (by omega) 4294967296 rfl) ?_
  refine Wk.rPure 7 (some 14) (.int .u8 (((Mur.u64n n) / 4294967296 % 256 : Nat) : Int)) rfl rfl (by kernel_rfl) (Mur.conv_u8 26 5 (.tmp 13) rfl (by kernel_rfl) Tryd.underlying5 .u64 ((Mur.u64n n) / 4294967296) (by kernel_rfl)) ?_
  refine Wk.rPure 8 (some 15) (.pointer (some ⟨w.heap.size, 3, none⟩)) rfl rfl (by kernel_rfl) (Wk.index_arr 127 5 (.tmp 2) (.tmp 7) rfl 8 Tryd.underlying127 1 (by kernel_rfl) w.heap.size 0 3 .i64 (by kernel_rfl) (by kernel_rfl) (by decide)) ?_
  refine Wk.rExS 9 none _ rfl rfl (by kernel_rfl) (Wk.store1 5 (.tmp 15) (.tmp 14) rfl (by kernel_rfl) w.heap.size 3 (by kernel_rfl) (.int .u8 (((Mur.u64n n) / 4294967296 % 256 : Nat) : Int)) (by kernel_rfl) rfl 127 #[.int .u8 (((Mur.u64n n) / 72057594037927936 % 256 : Nat) : Int), .int .u8 (((Mur.u64n n) / 281474976710656 % 256 : Nat) : Int), .int .u8 (((Mur.u64n n) / 1099511627776 % 256 : Nat) : Int), .int .u8 0, .int .u8 0, .int .u8 0, .int .u8 0, .int .u8 0] hb4 (by simp)) ?_
  rintro W5 ⟨hb5, ch5⟩
  replace hb5 : W5.heap[w.heap.size]? = some (.cells #[.int .u8 (((Mur.u64n n) / 72057594037927936 % 256 : Nat) : Int), .int .u8 (((Mur.u64n n) / 281474976710656 % 256 : Nat) : Int), .int .u8 (((Mur.u64n n) / 1099511627776 % 256 : Nat) : Int), .int .u8 (((Mur.u64n n) / 4294967296 % 256 : Nat) : Int), .int .u8 0, .int .u8 0, .int .u8 0, .int .u8 0] 127 (0, 0)) := hb5
  have zz5 := ch5.size
  refine Wk.rEnd 10 rfl ?_
  refine Wk.inN ?_
  refine Wk.nxt ?_
  refine Wk.reg ?_
  refine Wk.rPure 0 (some 16) (.int .i64 4) rfl rfl (by kernel_rfl) (Wk.int64 (n := 3 + 1) (z := 4) (by omega) (by omega) (by omega) (by kernel_rfl)) ?_
  refine Wk.rPure 1 (some 4) (.int .i64 4) rfl rfl (by kernel_rfl) (by kernel_rfl) ?_
  refine Wk.rEnd 2 rfl ?_
  refine Wk.nxt ?_
  refine Wk.rdS ?_
  refine wp_seq ?_
  refine Wk.reg ?_
  refine Wk.rPure 0 (some 5) (.bool true) rfl rfl (by kernel_rfl) (Wk.boolT (b := decide ((4 : Int) < (8 : Int))) (decide_eq_true (by decide)) (by kernel_rfl)) ?_
  refine Wk.rEnd 1 rfl ?_
  refine Wk.nxt ?_
  refine wp_seq ?_
  refine wp_cond_true (by kernel_rfl) ?_
  refine wp_skip ?_
  refine Wk.nxt ?_
  refine wp_seq ?_
  refine wp_block ?_
  refine wp_seq ?_
  refine Wk.reg ?_
  refine Wk.rPure 0 (some 6) (.int .i64 4) rfl rfl (by kernel_rfl) (by kernel_rfl) ?_
  refine Wk.rPure 1 (some 3) (.int .i64 4) rfl rfl (by kernel_rfl) (by kernel_rfl) ?_
  refine Wk.rEnd 2 rfl ?_
  refine Wk.nxt ?_
  refine Wk.reg ?_
  refine Wk.rPure 0 (some 7) (.int .i64 4) rfl rfl (by kernel_rfl) (by kernel_rfl) ?_
  refine Wk.rPure 1 (some 8) (.int .i64 n) rfl rfl (by kernel_rfl) (by kernel_rfl) ?_
  refine Wk.rPure 2 (some 9) (.int .u64 ((Mur.u64n n : Nat) : Int)) rfl rfl (by kernel_rfl) (Mur.conv_u64n 3 26 (.tmp 8) rfl (by kernel_rfl) Tryd.underlying26 .i64 n (by kernel_rfl)) ?_
  refine Wk.rPure 3 (some 10) (.int .i64 4) rfl rfl (by kernel_rfl) (by kernel_rfl) ?_
  refine Wk.rPure 4 (some 11) (.int .i64 32) rfl rfl (by kernel_rfl) (Wk.int64 (n := 8 * 4) (z := 32) (by omega) (by omega) (by omega) (by kernel_rfl)) ?_
  refine Wk.rPure 5 (some 12) (.int .i64 24) rfl rfl (by kernel_rfl) (Wk.int64 (n := 56 - 32) (z := 24) (by omega) (by omega) (by omega) (by kernel_rfl)) ?_
  refine Wk.rPure 6 (some 13) (.int .u64 (((Mur.u64n n) / 16777216 : Nat) : Int)) rfl rfl (by kernel_rfl) (Mur.shr64 26 3 (.tmp 9) (.tmp 12) rfl (Mur.u64n n) 24 .i64 (by kernel_rfl) (by kernel_rfl) (by omega) 16777216 rfl) ?_
  refine Wk.rPure 7 (some 14) (.int .u8 (((Mur.u64n n) / 16777216 % 256 : Nat) : Int)) rfl rfl (by kernel_rfl) (Mur.conv_u8 26 5 (.tmp 13) rfl (by kernel_rfl) Tryd.underlying5 .u64 ((Mur.u64n n) / 16777216) (by kernel_rfl)) ?_
  refine Wk.rPure 8 (some 15) (.pointer (some ⟨w.heap.size, 4, none⟩)) rfl rfl (by kernel_rfl) (Wk.index_arr 127 5 (.tmp 2) (.tmp 7) rfl 8 Tryd.underlying127 1 (by kernel_rfl) w.heap.size 0 4 .i64 (by kernel_rfl) (by kernel_rfl) (by decide)) ?_
  refine Wk.rExS 9 none _ rfl rfl (by kernel_rfl) (Wk.store1 5 (.tmp 15) (.tmp 14) rfl (by kernel_rfl) w.heap.size 4 (by kernel_rfl) (.int .u8 (((Mur.u64n n) / 16777216 % 256 : Nat) : Int)) (by kernel_rfl) rfl 127 #[.int .u8 (((Mur.u64n n) / 72057594037927936 % 256 : Nat) : Int), .int .u8 (((Mur.u64n n) / 281474976710656 % 256 : Nat) : Int), .int .u8 (((Mur.u64n n) / 1099511627776 % 256 : Nat) : Int), .int .u8 (((Mur.u64n n) / 4294967296 % 256 : Nat) : Int), .int .u8 0, .int .u8 0, .int .u8 0, .int .u8 0] hb5 (by simp)) ?_
  rintro W6 ⟨hb6, ch6⟩
  replace hb6 : W6.heap[w.heap.size]? = some (.cells #[.int .u8 (((Mur.u64n n) / 72057594037927936 % 256 : Nat) : Int), .int .u8 (((Mur.u64n n) / 281474976710656 % 256 : Nat) : Int), .int .u8 (((Mur.u64n n) / 1099511627776 % 256 : Nat) : Int), .int .u8 (((Mur.u64n n) / 4294967296 % 256 : Nat) : Int), .int .u8 (((Mur.u64n n) / 16777216 % 256 : Nat) : Int), .int .u8 0, .int .u8 0, .int .u8 0] 127 (0, 0)) := hb6
  have zz6 := ch6.size
  refine Wk.rEnd 10 rfl ?_
  refine Wk.inN ?_
  refine Wk.nxt ?_
  refine Wk.reg ?_
  refine Wk.rPure 0 (some 16) (.int .i64 5) rfl rfl (by kernel_rfl) (Wk.int64 (n := 4 + 1) (z := 5) (by omega) (by omega) (by omega) (by kernel_rfl)) ?_
  refine Wk.rPure 1 (some 4) (.int .i64 5) rfl rfl (by kernel_rfl) (by kernel_rfl) ?_
  refine Wk.rEnd 2 rfl ?_
  refine Wk.nxt ?_
  refine Wk.rdS ?_
  refine wp_seq ?_
  refine Wk.reg ?_
  refine Wk.rPure 0 (some 5) (.bool true) rfl rfl (by kernel_rfl) (Wk.boolT (b := decide ((5 : Int) < (8 : Int))) (decide_eq_true (by decide)) (by kernel_rfl)) ?_
  refine Wk.rEnd 1 rfl ?_
  refine Wk.nxt ?_
  refine wp_seq ?_
  refine wp_cond_true (by kernel_rfl) ?_
  refine wp_skip ?_
  refine Wk.nxt ?_
  refine wp_seq ?_
  refine wp_block ?_
  refine wp_seq ?_
  refine Wk.reg ?_
  refine Wk.rPure 0 (some 6) (.int .i64 5) rfl rfl (by kernel_rfl) (by kernel_rfl) ?_
  refine Wk.rPure 1 (some 3) (.int .i64 5) rfl rfl (by kernel_rfl) (by kernel_rfl) ?_
  refine Wk.rEnd 2 rfl ?_
  refine Wk.nxt ?_
  refine Wk.reg ?_
  refine Wk.rPure 0 (some 7) (.int .i64 5) rfl rfl (by kernel_rfl) (by kernel_rfl) ?_
  refine Wk.rPure 1 (some 8) (.int .i64 n) rfl rfl (by kernel_rfl) (by kernel_rfl) ?_
  refine Wk.rPure 2 (some 9) (.int .u64 ((Mur.u64n n : Nat) : Int)) rfl rfl (by kernel_rfl) (Mur.conv_u64n 3 26 (.tmp 8) rfl (by kernel_rfl) Tryd.underlying26 .i64 n (by kernel_rfl)) ?_
  refine Wk.rPure 3 (some 10) (.int .i64 5) rfl rfl (by kernel_rfl) (by kernel_rfl) ?_
  refine Wk.rPure 4 (some 11) (.int .i64 40) rfl rfl (by kernel_rfl) (Wk.int64 (n := 8 * 5) (z := 40) (by omega) (by omega) (by omega) (by kernel_rfl)) ?_
  refine Wk.rPure 5 (some 12) (.int .i64 16) rfl rfl (by kernel_rfl) (Wk.int64 (n := 56 - 40) (z := 16) (by omega) (by omega) (by omega) (by kernel_rfl)) ?_
  refine Wk.rPure 6 (some 13) (.int .u64 (((Mur.u64n n) / 65536 : Nat) : Int)) rfl rfl (by kernel_rfl) (Mur.shr64 26 3 (.tmp 9) (.tmp 12) rfl (Mur.u64n n) 16 .i64 (by kernel_rfl) (by kernel_rfl) (by omega) 65536 rfl) ?_
  refine Wk.rPure 7 (some 14) (.int .u8 (((Mur.u64n n) / 65536 % 256 : Nat) : Int)) rfl rfl (by kernel_rfl) (Mur.conv_u8 26 5 (.tmp 13) rfl (by kernel_rfl) Tryd.underlying5 .u64 ((Mur.u64n n) / 65536) (by kernel_rfl)) ?_
  refine Wk.rPure 8 (some 15) (.pointer (some ⟨w.heap.size, 5, none⟩)) rfl rfl (by kernel_rfl) (Wk.index_arr 127 5 (.tmp 2) (.tmp 7) rfl 8 Tryd.underlying127 1 (by kernel_rfl) w.heap.size 0 5 .i64 (by kernel_rfl) (by kernel_rfl) (by decide)) ?_
  refine Wk.rExS 9 none _ rfl rfl (by kernel_rfl) (Wk.store1 5 (.tmp 15) (.tmp 14) rfl (by kernel_rfl) w.heap.size 5 (by kernel_rfl) (.int .u8 (((Mur.u64n n) / 65536 % 256 : Nat) : Int)) (by kernel_rfl) rfl 127 #[.int .u8 (((Mur.u64n n) / 72057594037927936 % 256 : Nat) : Int), .int .u8 (((Mur.u64n n) / 281474976710656 % 256 : Nat) : Int), .int .u8 (((Mur.u64n n) / 1099511627776 % 256 : Nat) : Int), .int .u8 (((Mur.u64n n) / 4294967296 % 256 : Nat) : Int), .int .u8 (((Mur.u64n n) / 16777216 % 256 : Nat) : Int), .int .u8 0, .int .u8 0, .int .u8 0] hb6 (by simp)) ?_
  rintro W7 ⟨hb7, ch7⟩
  replace hb7 : W7.heap[w.heap.size]? = some (.cells #[.int .u8 (((Mur.u64n n) / 72057594037927936 % 256 : Nat) : Int), .int .u8 (((Mur.u64n n) / 281474976710656 % 256 : Nat) : Int), .int .u8 (((Mur.u64n n) / 1099511627776 % 256 : Nat) : Int), .int .u8 (((Mur.u64n n) / 4294967296 % 256 : Nat) : Int), .int .u8 (((Mur.u64n n) / 16777216 % 256 : Nat) : Int), .int .u8 (((Mur.u64n n) / 65536 % 256 : Nat) : Int), .int .u8 0, .int .u8 0] 127 (0, 0)) := hb7
  have zz7 := ch7.size
  refine Wk.rEnd 10 rfl ?_
  refine Wk.inN ?_
  refine Wk.nxt ?_
  refine Wk.reg ?_
  refine Wk.rPure 0 (some 16) (.int .i64 6) rfl rfl (by kernel_rfl) (Wk.int64 (n := 5 + 1) (z := 6) (by omega) (by omega) (by omega) (by kernel_rfl)) ?_
  refine Wk.rPure 1 (some 4) (.int .i64 6) rfl rfl (by kernel_rfl) (by kernel_rfl) ?_
  refine Wk.rEnd 2 rfl ?_
  refine Wk.nxt ?_
  refine Wk.rdS ?_
  refine wp_seq ?_
  refine Wk.reg ?_
  refine Wk.rPure 0 (some 5) (.bool true) rfl rfl (by kernel_rfl) (Wk.boolT (b := decide ((6 : Int) < (8 : Int))) (decide_eq_true (by decide)) (by kernel_rfl)) ?_
  refine Wk.rEnd 1 rfl ?_
  refine Wk.nxt ?_
  refine wp_seq ?_
  refine wp_cond_true (by kernel_rfl) ?_
  refine wp_skip ?_
  refine Wk.nxt ?_
  refine wp_seq ?_
  refine wp_block ?_
  refine wp_seq ?_
  refine Wk.reg ?_
  refine Wk.rPure 0 (some 6) (.int .i64 6) rfl rfl (by kernel_rfl) (by kernel_rfl) ?_
  refine Wk.rPure 1 (some 3) (.int .i64 6) rfl rfl (by kernel_rfl) (by kernel_rfl) ?_
  refine Wk.rEnd 2 rfl ?_
  refine Wk.nxt ?_
  refine Wk.reg ?_
  refine Wk.rPure 0 (some 7) (.int .i64 6) rfl rfl (by kernel_rfl) (by kernel_rfl) ?_
  refine Wk.rPure 1 (some 8) (.int .i64 n) rfl rfl (by kernel_rfl) (by kernel_rfl) ?_
  refine Wk.rPure 2 (some 9) (.int .u64 ((Mur.u64n n : Nat) : Int)) rfl rfl (by kernel_rfl) (Mur.conv_u64n 3 26 (.tmp 8) rfl (by kernel_rfl) Tryd.underlying26 .i64 n (by kernel_rfl)) ?_
  refine Wk.rPure 3 (some 10) (.int .i64 6) rfl rfl (by kernel_rfl) (by kernel_rfl) ?_
  refine Wk.rPure 4 (some 11) (.int .i64 48) rfl rfl (by kernel_rfl) (Wk.int64 (n := 8 * 6) (z := 48) (by omega) (by omega) (by omega) (by kernel_rfl)) ?_
  refine Wk.rPure 5 (some 12) (.int .i64 8) rfl rfl (by kernel_rfl) (Wk.int64 (n := 56 - 48) (z := 8) (by omega) (by omega) (by omega) (by kernel_rfl)) ?_
  refine Wk.rPure 6 (some 13) (.int .u64 (((Mur.u64n n) / 256 : Nat) : Int)) rfl rfl (by kernel_rfl) (Mur.shr64 26 3 (.tmp 9) (.tmp 12) rfl (Mur.u64n n) 8 .i64 (by kernel_rfl) (by kernel_rfl) (by omega) 256 rfl) ?_
  refine Wk.rPure 7 (some 14) (.int .u8 (((Mur.u64n n) / 256 % 256 : Nat) : Int)) rfl rfl (by kernel_rfl) (Mur.conv_u8 26 5 (.tmp 13) rfl (by kernel_rfl) Tryd.underlying5 .u64 ((Mur.u64n n) / 256) (by kernel_rfl)) ?_
  refine Wk.rPure 8 (some 15) (.pointer (some ⟨w.heap.size, 6, none⟩)) rfl rfl (by kernel_rfl) (Wk.index_arr 127 5 (.tmp 2) (.tmp 7) rfl 8 Tryd.underlying127 1 (by kernel_rfl) w.heap.size 0 6 .i64 (by kernel_rfl) (by kernel_rfl) (by decide)) ?_
  refine Wk.rExS 9 none _ rfl rfl (by kernel_rfl) (Wk.store1 5 (.tmp 15) (.tmp 14) rfl (by kernel_rfl) w.heap.size 6 (by kernel_rfl) (.int .u8 (((Mur.u64n n) / 256 % 256 : Nat) : Int)) (by kernel_rfl) rfl 127 #[.int .u8 (((Mur.u64n n) / 72057594037927936 % 256 : Nat) : Int), .int .u8 (((Mur.u64n n) / 281474976710656 % 256 : Nat) : Int), .int .u8 (((Mur.u64n n) / 1099511627776 % 256 : Nat) : Int), .int .u8 (((Mur.u64n n) / 4294967296 % 256 : Nat) : Int), .int .u8 (((Mur.u64n n) / 16777216 % 256 : Nat) : Int), .int .u8 (((Mur.u64n n) / 65536 % 256 : Nat) : Int), .int .u8 0, .int .u8 0] hb7 (by simp)) ?_
  rintro W8 ⟨hb8, ch8⟩
  replace hb8 : W8.heap[w.heap.size]? = some (.cells #[.int .u8 (((Mur.u64n n) / 72057594037927936 % 256 : Nat) : Int), .int .u8 (((Mur.u64n n) / 281474976710656 % 256 : Nat) : Int), .int .u8 (((Mur.u64n n) / 1099511627776 % 256 : Nat) : Int), .int .u8 (((Mur.u64n n) / 4294967296 % 256 : Nat) : Int), .int .u8 (((Mur.u64n n) / 16777216 % 256 : Nat) : Int), .int .u8 (((Mur.u64n n) / 65536 % 256 : Nat) : Int), .int .u8 (((Mur.u64n n) / 256 % 256 : Nat) : Int), .int .u8 0] 127 (0, 0)) := hb8
  have zz8 := ch8.size
  refine Wk.rEnd 10 rfl ?_
  refine Wk.inN ?_
  refine Wk.nxt ?_
  refine Wk.reg ?_
  refine Wk.rPure 0 (some 16) (.int .i64 7) rfl rfl (by kernel_rfl) (Wk.int64 (n := 6 + 1) (z := 7) (by omega) (by omega) (by omega) (by kernel_rfl)) ?_
  refine Wk.rPure 1 (some 4) (.int .i64 7) rfl rfl (by kernel_rfl) (by kernel_rfl) ?_
  refine Wk.rEnd 2 rfl ?_
  refine Wk.nxt ?_
  refine Wk.rdS ?_
  refine wp_seq ?_
  refine Wk.reg ?_
  refine Wk.rPure 0 (some 5) (.bool true) rfl rfl (by kernel_rfl) (Wk.boolT (b := decide ((7 : Int) < (8 : Int))) (decide_eq_true (by decide)) (by kernel_rfl)) ?_
  refine Wk.rEnd 1 rfl ?_
  refine Wk.nxt ?_
  refine wp_seq ?_
  refine wp_cond_true (by kernel_rfl) ?_
  refine wp_skip ?_
  refine Wk.nxt ?_
  refine wp_seq ?_
  refine wp_block ?_
  refine wp_seq ?_
  refine Wk.reg ?_
  refine Wk.rPure 0 (some 6) (.int .i64 7) rfl rfl (by kernel_rfl) (by kernel_rfl) ?_
  refine Wk.rPure 1 (some 3) (.int .i64 7) rfl rfl (by kernel_rfl) (by kernel_rfl) ?_
  refine Wk.rEnd 2 rfl ?_
  refine Wk.nxt ?_
  refine Wk.reg ?_
  refine Wk.rPure 0 (some 7) (.int .i64 7) rfl rfl (by kernel_rfl) (by kernel_rfl) ?_
  refine Wk.rPure 1 (some 8) (.int .i64 n) rfl rfl (by kernel_rfl) (by kernel_rfl) ?_
  refine Wk.rPure 2 (some 9) (.int .u64 ((Mur.u64n n : Nat) : Int)) rfl rfl (by kernel_rfl) (Mur.conv_u64n 3 26 (.tmp 8) rfl (by kernel_rfl) Tryd.underlying26 .i64 n (by kernel_rfl)) ?_
  refine Wk.rPure 3 (some 10) (.int .i64 7) rfl rfl (by kernel_rfl) (by kernel_rfl) ?_
  refine Wk.rPure 4 (some 11) (.int .i64 56) rfl rfl (by kernel_rfl) (Wk.int64 (n := 8 * 7) (z := 56) (by omega) (by omega) (by omega) (by kernel_rfl)) ?_
  refine Wk.rPure 5 (some 12) (.int .i64 0) rfl rfl (by kernel_rfl) (Wk.int64 (n := 56 - 56) (z := 0) (by omega) (by omega) (by omega) (by kernel_rfl)) ?_
  refine Wk.rPure 6 (some 13) (.int .u64 (((Mur.u64n n) / 1 : Nat) : Int)) rfl rfl (by kernel_rfl) (Mur.shr64 26 3 (.tmp 9) (.tmp 12) rfl (Mur.u64n n) 0 .i64 (by kernel_rfl) (by kernel_rfl) (by omega) 1 rfl) ?_
  refine Wk.rPure 7 (some 14) (.int .u8 (((Mur.u64n n) / 1 % 256 : Nat) : Int)) rfl rfl (by kernel_rfl) (Mur.conv_u8 26 5 (.tmp 13) rfl (by kernel_rfl) Tryd.underlying5 .u64 ((Mur.u64n n) / 1) (by kernel_rfl)) ?_
  refine Wk.rPure 8 (some 15) (.pointer (some ⟨w.heap.size, 7, none⟩)) rfl rfl (by kernel_rfl) (Wk.index_arr 127 5 (.tmp 2) (.tmp 7) rfl 8 Tryd.underlying127 1 (by kernel_rfl) w.heap.size 0 7 .i64 (by kernel_rfl) (by kernel_rfl) (by decide)) ?_
  refine Wk.rExS 9 none _ rfl rfl (by kernel_rfl) (Wk.store1 5 (.tmp 15) (.tmp 14) rfl (by kernel_rfl) w.heap.size 7 (by kernel_rfl) (.int .u8 (((Mur.u64n n) / 1 % 256 : Nat) : Int)) (by kernel_rfl) rfl 127 #[.int .u8 (((Mur.u64n n) / 72057594037927936 % 256 : Nat) : Int), .int .u8 (((Mur.u64n n) / 281474976710656 % 256 : Nat) : Int), .int .u8 (((Mur.u64n n) / 1099511627776 % 256 : Nat) : Int), .int .u8 (((Mur.u64n n) / 4294967296 % 256 : Nat) : Int), .int .u8 (((Mur.u64n n) / 16777216 % 256 : Nat) : Int), .int .u8 (((Mur.u64n n) / 65536 % 256 : Nat) : Int), .int .u8 (((Mur.u64n n) / 256 % 256 : Nat) : Int), .int .u8 0] hb8 (by simp)) ?_
  rintro W9 ⟨hb9, ch9⟩
  replace hb9 : W9.heap[w.heap.size]? = some (.cells #[.int .u8 (((Mur.u64n n) / 72057594037927936 % 256 : Nat) : Int), .int .u8 (((Mur.u64n n) / 281474976710656 % 256 : Nat) : Int), .int .u8 (((Mur.u64n n) / 1099511627776 % 256 : Nat) : Int), .int .u8 (((Mur.u64n n) / 4294967296 % 256 : Nat) : Int), .int .u8 (((Mur.u64n n) / 16777216 % 256 : Nat) : Int), .int .u8 (((Mur.u64n n) / 65536 % 256 : Nat) : Int), .int .u8 (((Mur.u64n n) / 256 % 256 : Nat) : Int), .int .u8 (((Mur.u64n n) / 1 % 256 : Nat) : Int)] 127 (0, 0)) := hb9
  have zz9 := ch9.size
  refine Wk.rEnd 10 rfl ?_
  refine Wk.inN ?_
  refine Wk.nxt ?_
  refine Wk.reg ?_
  refine Wk.rPure 0 (some 16) (.int .i64 8) rfl rfl (by kernel_rfl) (Wk.int64 (n := 7 + 1) (z := 8) (by omega) (by omega) (by omega) (by kernel_rfl)) ?_
  refine Wk.rPure 1 (some 4) (.int .i64 8) rfl rfl (by kernel_rfl) (by kernel_rfl) ?_
  refine Wk.rEnd 2 rfl ?_
  refine Wk.nxt ?_
  refine Wk.rdS ?_
  refine wp_seq ?_
  refine Wk.reg ?_
  refine Wk.rPure 0 (some 5) (.bool false) rfl rfl (by kernel_rfl) (Wk.boolF (b := decide ((8 : Int) < (8 : Int))) (decide_eq_false (by decide)) (by kernel_rfl)) ?_
  refine Wk.rEnd 1 rfl ?_
  refine Wk.nxt ?_
  refine wp_seq ?_
  refine wp_cond_false (by kernel_rfl) ?_
  refine wp_exit ?_
  refine Wk.thX ?_
  refine Wk.thX ?_
  refine Wk.inX ?_
  refine Wk.nxt ?_
  refine wp_seq ?_
  refine Wk.reg ?_
  refine Wk.rPure 0 (some 17) (.agg #[.int .u8 (((Mur.u64n n) / 72057594037927936 % 256 : Nat) : Int), .int .u8 (((Mur.u64n n) / 281474976710656 % 256 : Nat) : Int), .int .u8 (((Mur.u64n n) / 1099511627776 % 256 : Nat) : Int), .int .u8 (((Mur.u64n n) / 4294967296 % 256 : Nat) : Int), .int .u8 (((Mur.u64n n) / 16777216 % 256 : Nat) : Int), .int .u8 (((Mur.u64n n) / 65536 % 256 : Nat) : Int), .int .u8 (((Mur.u64n n) / 256 % 256 : Nat) : Int), .int .u8 (((Mur.u64n n) / 1 % 256 : Nat) : Int)]) rfl rfl (by kernel_rfl) (Wk.loadR 127 (.tmp 2) rfl _ Tryd.underlying127 rfl w.heap.size 0 (by kernel_rfl) ([.int .u8 (((Mur.u64n n) / 72057594037927936 % 256 : Nat) : Int), .int .u8 (((Mur.u64n n) / 281474976710656 % 256 : Nat) : Int), .int .u8 (((Mur.u64n n) / 1099511627776 % 256 : Nat) : Int), .int .u8 (((Mur.u64n n) / 4294967296 % 256 : Nat) : Int), .int .u8 (((Mur.u64n n) / 16777216 % 256 : Nat) : Int), .int .u8 (((Mur.u64n n) / 65536 % 256 : Nat) : Int), .int .u8 (((Mur.u64n n) / 256 % 256 : Nat) : Int), .int .u8 (((Mur.u64n n) / 1 % 256 : Nat) : Int)]) (by kernel_rfl) (Wk.range_row hb9)) ?_
  refine Wk.rExS 1 none _ rfl rfl (by kernel_rfl) (Wk.storeR 127 (.tmp 2) (.tmp 17) rfl w.heap.size 0 (by kernel_rfl) ([.int .u8 (((Mur.u64n n) / 72057594037927936 % 256 : Nat) : Int), .int .u8 (((Mur.u64n n) / 281474976710656 % 256 : Nat) : Int), .int .u8 (((Mur.u64n n) / 1099511627776 % 256 : Nat) : Int), .int .u8 (((Mur.u64n n) / 4294967296 % 256 : Nat) : Int), .int .u8 (((Mur.u64n n) / 16777216 % 256 : Nat) : Int), .int .u8 (((Mur.u64n n) / 65536 % 256 : Nat) : Int), .int .u8 (((Mur.u64n n) / 256 % 256 : Nat) : Int), .int .u8 (((Mur.u64n n) / 1 % 256 : Nat) : Int)]) (by kernel_rfl) (by kernel_rfl) (by intro v hv; simp at hv; rcases hv with h | h | h | h | h | h | h | h <;> (subst h; rfl)) 127 ([.int .u8 (((Mur.u64n n) / 72057594037927936 % 256 : Nat) : Int), .int .u8 (((Mur.u64n n) / 281474976710656 % 256 : Nat) : Int), .int .u8 (((Mur.u64n n) / 1099511627776 % 256 : Nat) : Int), .int .u8 (((Mur.u64n n) / 4294967296 % 256 : Nat) : Int), .int .u8 (((Mur.u64n n) / 16777216 % 256 : Nat) : Int), .int .u8 (((Mur.u64n n) / 65536 % 256 : Nat) : Int), .int .u8 (((Mur.u64n n) / 256 % 256 : Nat) : Int), .int .u8 (((Mur.u64n n) / 1 % 256 : Nat) : Int)]) hb9 (by simp)) ?_
  rintro W10 ⟨hb10, ch10⟩
  replace hb10 : W10.heap[w.heap.size]? = some (.cells #[.int .u8 (((Mur.u64n n) / 72057594037927936 % 256 : Nat) : Int), .int .u8 (((Mur.u64n n) / 281474976710656 % 256 : Nat) : Int), .int .u8 (((Mur.u64n n) / 1099511627776 % 256 : Nat) : Int), .int .u8 (((Mur.u64n n) / 4294967296 % 256 : Nat) : Int), .int .u8 (((Mur.u64n n) / 16777216 % 256 : Nat) : Int), .int .u8 (((Mur.u64n n) / 65536 % 256 : Nat) : Int), .int .u8 (((Mur.u64n n) / 256 % 256 : Nat) : Int), .int .u8 (((Mur.u64n n) / 1 % 256 : Nat) : Int)] 127 (0, 0)) := hb10
  have zz10 := ch10.size
  refine Wk.rEnd 2 rfl ?_
  refine Wk.nxt ?_
  refine wp_ret ?_
  have kk1 : Wk.Chg [] w W1 := Wk.Chg.step ((Wk.Chg.refl _).more (by simp)) ch1 trivial
  have kk2 := Wk.Chg.step kk1 ch2 ⟨.inr (by omega), trivial⟩
  have kk3 := Wk.Chg.step kk2 ch3 ⟨.inr (by omega), trivial⟩
  have kk4 := Wk.Chg.step kk3 ch4 ⟨.inr (by omega), trivial⟩
  have kk5 := Wk.Chg.step kk4 ch5 ⟨.inr (by omega), trivial⟩
  have kk6 := Wk.Chg.step kk5 ch6 ⟨.inr (by omega), trivial⟩
  have kk7 := Wk.Chg.step kk6 ch7 ⟨.inr (by omega), trivial⟩
  have kk8 := Wk.Chg.step kk7 ch8 ⟨.inr (by omega), trivial⟩
  have kk9 := Wk.Chg.step kk8 ch9 ⟨.inr (by omega), trivial⟩
  have kk10 := Wk.Chg.step kk9 ch10 ⟨.inr (by omega), trivial⟩
  refine Wk.ret (.agg #[.int .u8 (((Mur.u64n n) / 72057594037927936 % 256 : Nat) : Int), .int .u8 (((Mur.u64n n) / 281474976710656 % 256 : Nat) : Int), .int .u8 (((Mur.u64n n) / 1099511627776 % 256 : Nat) : Int), .int .u8 (((Mur.u64n n) / 4294967296 % 256 : Nat) : Int), .int .u8 (((Mur.u64n n) / 16777216 % 256 : Nat) : Int), .int .u8 (((Mur.u64n n) / 65536 % 256 : Nat) : Int), .int .u8 (((Mur.u64n n) / 256 % 256 : Nat) : Int), .int .u8 (((Mur.u64n n) / 1 % 256 : Nat) : Int)]) rfl (results_cell_row rfl _ _ w.heap.size 127 #[.int .u8 (((Mur.u64n n) / 72057594037927936 % 256 : Nat) : Int), .int .u8 (((Mur.u64n n) / 281474976710656 % 256 : Nat) : Int), .int .u8 (((Mur.u64n n) / 1099511627776 % 256 : Nat) : Int), .int .u8 (((Mur.u64n n) / 4294967296 % 256 : Nat) : Int), .int .u8 (((Mur.u64n n) / 16777216 % 256 : Nat) : Int), .int .u8 (((Mur.u64n n) / 65536 % 256 : Nat) : Int), .int .u8 (((Mur.u64n n) / 256 % 256 : Nat) : Int), .int .u8 (((Mur.u64n n) / 1 % 256 : Nat) : Int)] (0, 0) _ (by kernel_rfl) hb10 Tryd.underlying127 rfl (by kernel_rfl)) ?_
  exact ⟨_, Go.Lib.hid rfl, Mur.e8_length _, by rw [Mur.e8_cells], kk10⟩
end Go.Proofs.YtfhneademopciaaDoor
