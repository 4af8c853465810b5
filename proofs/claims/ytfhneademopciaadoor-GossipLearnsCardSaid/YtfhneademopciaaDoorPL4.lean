/- Gossip: both together. No program in sight. Gossip: one message is heard. No program in sight. Sets of results: the document's add, round by round. No program in sight. What is known of one result; a result built of a key and a length. Messages as they lie. No program in sight but for values that are built. Messages that come in. attest: what may be, eight bytes, the tag, Make, Right. attest's document: eight bytes, a body, Make. -/
import Derived.Test.YtfhneademopciaaDoorPL3
import Derived.Test.YtfhneademopciaaDoorPL2
namespace Mur
open Go Go.RowKit Go.Lib
def Inc (p q : List UInt8) : Prop := ¬ p <+: q ∧ ¬ q <+: p
theorem Inc.symm {p q : List UInt8} (h : Inc p q) : Inc q p := ⟨h.2, h.1⟩
theorem Inc.snoc {p q : List UInt8} (h : Inc p q) (x : UInt8) : Inc (p ++ [x]) q := ⟨fun k => h.1 ((List.prefix_append p [x]).trans k), fun k => by
  rcases List.prefix_concat_iff.1 k with e | e
  · exact h.1 (by rw [e]; exact List.prefix_append p [x])
  · exact h.2 e⟩
/-- What the two sets are, all of both, as they begin. -/
structure Two (I : Bool → List Att) (U : List Att) : Prop where
  us : Sorted U
  ul : U.length ≤ 200
  uok : ∀ y, y ∈ U → may y.n
  is : ∀ b, Sorted (I b)
  iu : ∀ b x, x ∈ I b → x ∈ U
  ui : ∀ x, x ∈ U → x ∈ I false ∨ x ∈ I true
structure Inv (I : Bool → List Att) (U : List Att) (S : Bool → List Att) (post : List (Bool × Msg)) : Prop where
  srt : ∀ b, Sorted (S b)
  sub : ∀ b x, x ∈ S b → x ∈ U
  may_ : ∀ y, y ∈ post → mayM y.2
  sumd : ∀ y, y ∈ post → y.2.kind = 1 → y.2.sum = sumL y.2.pre (I !y.1) ∧ y.2.cnt = ((cntL y.2.pre (I !y.1) : Nat) : Int) ∧ ∀ b, belowL y.2.pre (S b) = belowL y.2.pre (I b)
  inc : post.Pairwise (fun x y => x.2.kind = 1 ∨ y.2.kind = 1 → Inc x.2.pre y.2.pre)
  its : ∀ y, y ∈ post → ∀ x, x ∈ y.2.items → x ∈ U
section
variable {I S : Bool → List Att} {U : List Att} {post post' rest : List (Bool × Msg)} {b : Bool} {m : Msg}
theorem Inv.len (h : Inv I U S post) (T : Two I U) (b : Bool) : (S b).length ≤ 200 := Nat.le_trans (nodup_le (h.srt b).nodup (h.sub b)) T.ul
/-- New messages of two kinds, in the place of one that was heard. -/
theorem Inv.put (h : Inv I U S ((b, m) :: rest)) (M : List Msg) (hm : ∀ n, n ∈ M → mayM n) (hi : ∀ n, n ∈ M → ∀ x, x ∈ n.items → x ∈ U)
    (hs : ∀ n, n ∈ M → n.kind = 1 → n.sum = sumL n.pre (I b) ∧ n.cnt = ((cntL n.pre (I b) : Nat) : Int) ∧ ∀ c, belowL n.pre (S c) = belowL n.pre (I c))
    (hp : M.Pairwise (fun x y => x.kind = 1 ∨ y.kind = 1 → Inc x.pre y.pre)) (hq : ∀ n, n ∈ M → ∀ y, y ∈ rest → n.kind = 1 ∨ y.2.kind = 1 → Inc y.2.pre n.pre) : Inv I U S (rest ++ M.map fun n => (!b, n)) := by
  have hin := List.pairwise_cons.1 h.inc
  have hmem : ∀ y, y ∈ rest ++ (M.map fun n => (!b, n)) → y ∈ rest ∨ ∃ n, n ∈ M ∧ y = (!b, n) := fun y hy => (List.mem_append.1 hy).imp id fun k => by
    obtain ⟨n, hn, rfl⟩ := List.mem_map.1 k
    exact ⟨n, hn, rfl⟩
  refine ⟨h.srt, h.sub, fun y hy => ?_, fun y hy hk => ?_, ?_, fun y hy => ?_⟩
  · rcases hmem y hy with k | ⟨n, hn, rfl⟩
    · exact h.may_ y (List.mem_cons_of_mem _ k)
    · exact hm n hn
  · rcases hmem y hy with k | ⟨n, hn, rfl⟩
    · exact h.sumd y (List.mem_cons_of_mem _ k) hk
    · have := hs n hn hk
      simpa using this
  · refine List.pairwise_append.2 ⟨hin.2, List.pairwise_map.2 hp, fun y hy z hz => ?_⟩
    obtain ⟨n, hn, rfl⟩ := List.mem_map.1 hz
    exact fun q => hq n hn y hy q.symm
  · rcases hmem y hy with k | ⟨n, hn, rfl⟩
    · exact h.its y (List.mem_cons_of_mem _ k)
    · exact hi n hn
end
end Mur
namespace Mur
open Go Go.RowKit Go.Lib
section
variable {I S : Bool → List Att} {U : List Att} {rest : List (Bool × Msg)} {b : Bool} {m : Msg}
theorem mayM_items {p : List UInt8} {l : List Att} {a : Bool} (hp : isPre p = true) (hs : Sorted l) (hl : ∀ x, x ∈ l → may x.n ∧ under p x.k = true) : ∀ n, n ∈ itemsM p l a → mayM n := fun n hn => by
  obtain ⟨c, hc, rfl⟩ := List.mem_map.1 hn
  exact ⟨hp, Int.le_refl _, (show (0 : Int) ≤ 200 by decide), chunks_le hc, .inr ⟨rfl, fun x hx => hl x (chunks_sub hc hx), chunks_srt hc hs, rfl, rfl⟩⟩
theorem mayM_empty {p : List UInt8} (hp : isPre p = true) : mayM (emptyM p) := ⟨hp, Int.le_refl _, (show (0 : Int) ≤ 200 by decide), Nat.zero_le _, .inr ⟨rfl, (fun x hx => by cases hx), List.Pairwise.nil, rfl, rfl⟩⟩
theorem mayM_summary {p : List UInt8} {L : List Att} (hp : isPre p = true) (hl : L.length ≤ 200) : mayM (summaryM p L) := by
  have := cntL_all p L
  exact ⟨hp, by simp [summaryM], by show ((cntL p L : Nat) : Int) ≤ 200; omega, Nat.zero_le _, .inl ⟨rfl, rfl, rfl⟩⟩
end
end Mur
namespace Mur
open Go Go.RowKit Go.Lib
theorem ins_lt {x : Att} {L : List Att} {i : Nat} (h : i < pos x L) : (ins x L)[i]? = L[i]? := by
  unfold ins
  have := pos_le x L
  rw [List.getElem?_append_left (by rw [List.length_take]; omega), List.getElem?_take, if_pos h]
theorem ins_at (x : Att) (L : List Att) : (ins x L)[pos x L]? = some x := by
  unfold ins
  have := pos_le x L
  rw [List.getElem?_append_right (by rw [List.length_take]; omega), List.length_take, Nat.min_eq_left this, Nat.sub_self]
  rfl
theorem ins_gt {x : Att} {L : List Att} {i : Nat} (h : pos x L ≤ i) : (ins x L)[i + 1]? = L[i]? := by
  unfold ins
  have := pos_le x L
  rw [List.getElem?_append_right (by rw [List.length_take]; omega), List.length_take, Nat.min_eq_left this, show i + 1 - pos x L = (i - pos x L) + 1 by omega, List.getElem?_cons_succ, List.getElem?_drop]
  congr 1
  omega
theorem take_snoc {l : List Att} {i : Nat} {y : Att} (h : l[i]? = some y) : l.take (i + 1) = l.take i ++ [y] := by
  obtain ⟨h1, rfl⟩ := List.getElem?_eq_some_iff.1 h
  exact List.take_succ_eq_append_getElem h1
/-- A round of the document's add, for one that stands ahead of x, is x's successor, or comes later. -/
theorem radd_lt {x y : Att} {L : List Att} {i : Nat} (hs : Sorted L) (hy : L[i]? = some y) (hne : ¬ y = x) (hl : ¬ x.lt y) : i < pos x L ∧ (ins x L).take (i + 1) = (ins x L).take i ++ [y] := by
  have h : y.lt x := by
    rcases y.lt_or x with h | h | h
    · exact h
    · exact absurd h hne
    · exact absurd h hl
  have hp := (pos_lt hs hy).1 h
  exact ⟨hp, take_snoc ((ins_lt hp).trans hy)⟩
theorem radd_at {x y : Att} {L : List Att} {i : Nat} (hs : Sorted L) (hy : L[i]? = some y) (hi : i ≤ pos x L) (hl : x.lt y) : pos x L = i ∧ (ins x L).take (i + 2) = ((ins x L).take i ++ [x]) ++ [y] := by
  have hp : ¬ i < pos x L := fun h => Att.lt_asymm hl ((pos_lt hs hy).2 h)
  have e : pos x L = i := by omega
  refine ⟨e, ?_⟩
  have h1 : (ins x L)[i]? = some x := by
    have := ins_at x L
    rwa [e] at this
  rw [take_snoc (i := i + 1) ((ins_gt (by omega)).trans hy), take_snoc h1]
theorem radd_gt {x y : Att} {L : List Att} {i : Nat} (hy : L[i]? = some y) (hi : pos x L < i) : (ins x L).take (i + 2) = (ins x L).take (i + 1) ++ [y] := take_snoc ((ins_gt (by omega)).trans hy)
theorem radd_end {x : Att} {L : List Att} {n : Nat} (hl : L.length = n) (hi : n ≤ pos x L) : pos x L = n ∧ (ins x L).take n ++ [x] = ins x L := by
  have := pos_le x L
  have e : pos x L = n := by omega
  refine ⟨e, ?_⟩
  have h1 : (ins x L)[n]? = some x := by
    have := ins_at x L
    rwa [e] at this
  rw [← take_snoc h1]
  exact List.take_of_length_le (by rw [ins_length, hl]; exact Nat.le_refl _)
theorem radd_all {x : Att} {L : List Att} {n k : Nat} (hl : L.length = n) (hk : n + 1 ≤ k) : (ins x L).take k = ins x L := List.take_of_length_le (by rw [ins_length, hl]; exact hk)
theorem radd_new {x : Att} {L : List Att} {n : Nat} (hl : L.length = n) (h : ∀ j, j < n → L[j]? ≠ some x) : x ∉ L := fun hm => by
  obtain ⟨j, hj, e⟩ := List.getElem_of_mem hm
  exact h j (by omega) (by rw [List.getElem?_eq_getElem hj, e])
theorem radd_full {x z : Att} {L : List Att} (hl : L.length = 200) (hx : x ∉ L) (hz : (ins x L)[200]? = some z) : z = x ↔ pos x L = 200 := by
  have hp := pos_le x L
  constructor
  · rintro rfl
    by_cases h : pos z L = 200
    · exact h
    · have h1 : (ins z L)[199 + 1]? = L[199]? := ins_gt (by omega)
      rw [hz] at h1
      exact absurd (List.mem_of_getElem? h1.symm) hx
  · intro h
    have h1 := ins_at x L
    rw [h, hz] at h1
    exact Option.some.inj h1
end Mur
namespace Mur
open Go Go.RowKit Wk
section
variable {P : Program} {w : World} {a : Act} {o : Oper}
theorem SlA.kcell {n : Nat} {L : List Att} {g off : Nat} (h : SlA w (some ⟨g, off, none⟩) n L) {i : Nat} {x : Att} (hx : L[i]? = some x) {j : Nat} (hj : j < 32) : w.cell? ⟨g, off + i * 97 + j * 1, none⟩ = some (.int .u8 (((x.k.getD j 0).toNat : Nat) : Int)) := by
  have h1 := h.key hx
  have hk := x.hk
  have h2 := h1 j (.int .u8 (((x.k.getD j 0).toNat : Nat) : Int)) (by
    have hj' : j < x.k.length := by omega
    simp [b8s, List.getElem?_eq_getElem hj'])
  rw [Nat.mul_one]
  exact h2
end
end Mur
namespace Mur
end Mur
namespace Mur
open Go Go.RowKit Wk
def k63 : List UInt8 := [63, 0, 0, 0, 0, 0, 0, 0, 0, 0, 0, 0, 0, 0, 0, 0, 0, 0, 0, 0, 0, 0, 0, 0, 0, 0, 0, 0, 0, 0, 0, 0]
def kA : Att := ⟨k63, z32, z32, 1, rfl, rfl, rfl, by decide⟩
theorem kA_add : addS kA [] = ([kA], 0) := by decide +kernel
theorem fill_att2 {k : List UInt8} {n : Int} (hk : k.length = 32) : Instr.fill (fun i => #[(0, 32), (32, 32), (64, 1), (65, 32)][i]?) (attC z32 z32 0 z32).toArray [(0, .agg (b8s k).toArray), (2, .int .i64 n)] = some (attC k z32 n z32).toArray := by
  have e1 : splice (attC z32 z32 0 z32) 0 (b8s k) = attC k z32 0 z32 := splice_mid (A := []) (B := b8s z32) (C := b8s z32 ++ (.int .i64 0 :: b8s z32)) (vs := b8s k) rfl (by rw [b8s_length, b8s_length, hk]; rfl)
  have e3 : splice (attC k z32 0 z32) 64 [.int .i64 n] = attC k z32 n z32 := by
    have := splice_mid (A := b8s k ++ b8s z32) (B := [Value.int .i64 0]) (C := b8s z32) (vs := [Value.int .i64 n]) (off := 64) (by rw [List.length_append, b8s_length, b8s_length, hk]; rfl) rfl
    simpa [attC] using this
  refine fill_part (off := 0) (size := 32) rfl rfl (by rw [b8s_length, hk]) (by rw [attC_length rfl rfl rfl]; omega) ?_
  rw [e1]
  refine fill_part (off := 64) (size := 1) (vs := [.int .i64 n]) rfl rfl rfl (by rw [attC_length hk rfl rfl]; omega) ?_
  rw [e3]
  rfl
end Mur
namespace Go.Proofs.YtfhneademopciaaDoor
open Go.RowKit Wk
open Mur (b8s attC z32)
theorem built2 {k : List UInt8} {n : Int} (hk : k.length = 32) : Program.built Tryd.prog 32 [(0, .agg (b8s k).toArray), (2, .int .i64 n)] = some (attC k z32 n z32).toArray :=
  (show Program.built Tryd.prog 32 [(0, .agg (b8s k).toArray), (2, .int .i64 n)] = Instr.fill (fun i => #[(0, 32), (32, 32), (64, 1), (65, 32)][i]?) (attC z32 z32 0 z32).toArray [(0, .agg (b8s k).toArray), (2, .int .i64 n)] from by kernel_rfl).trans (Mur.fill_att2 hk)
end Go.Proofs.YtfhneademopciaaDoor
namespace Mur
open Go Go.RowKit Wk
/-- The cells of a message. -/
def msgC (kd : UInt8) (P : Option Addr) (pn pc : Nat) (s : List UInt8) (n : Int) (A : Option Addr) (an ac : Nat) (b : Bool) : List Value := .int .u8 ((kd.toNat : Nat) : Int) :: .slice P pn pc :: (b8s s ++ [.int .i64 n, .slice A an ac, .bool b])
section
variable {kd : UInt8} {P A : Option Addr} {pn pc an ac : Nat} {s : List UInt8} {n : Int} {b : Bool}
theorem msgC_length (hs : s.length = 32) : (msgC kd P pn pc s n A an ac b).length = 37 := by simp [msgC, b8s_length, hs]
theorem msgC_size (hs : s.length = 32) : (msgC kd P pn pc s n A an ac b).toArray.size = 37 := msgC_length hs
theorem msgC_one : ∀ v ∈ msgC kd P pn pc s n A an ac b, v.oneCell' = true := by
  intro v hv
  simp only [msgC, List.mem_cons, List.mem_append, List.not_mem_nil, or_false] at hv
  rcases hv with rfl | rfl | h | rfl | rfl | rfl
  · rfl
  · rfl
  · obtain ⟨x, _, rfl⟩ := List.mem_map.1 h
    rfl
  · rfl
  · rfl
  · rfl
theorem msgC_all : (msgC kd P pn pc s n A an ac b).toArray.all (·.oneCell') = true := Array.all_eq_true_iff_forall_mem.2 fun v hv => msgC_one v (by simpa using hv)
variable {w : World} {g o : Nat}
theorem msg_kind (h : w.rangeAt g o (msgC kd P pn pc s n A an ac b)) : w.cell? ⟨g, o, none⟩ = some (.int .u8 ((kd.toNat : Nat) : Int)) := h 0 _ rfl
theorem msg_pre (h : w.rangeAt g o (msgC kd P pn pc s n A an ac b)) : w.cell? ⟨g, o + 1, none⟩ = some (.slice P pn pc) := h 1 _ rfl
theorem msg_at (hs : s.length = 32) (i : Nat) : (msgC kd P pn pc s n A an ac b)[34 + i]? = [Value.int .i64 n, .slice A an ac, .bool b][i]? := by
  unfold msgC
  rw [show 34 + i = 32 + i + 1 + 1 by omega, List.getElem?_cons_succ, List.getElem?_cons_succ, List.getElem?_append_right (by rw [b8s_length, hs]; omega), b8s_length, hs]
  congr 1
  omega
theorem msg_cnt (hs : s.length = 32) (h : w.rangeAt g o (msgC kd P pn pc s n A an ac b)) : w.cell? ⟨g, o + 34, none⟩ = some (.int .i64 n) := h 34 _ (msg_at hs 0)
theorem msg_items (hs : s.length = 32) (h : w.rangeAt g o (msgC kd P pn pc s n A an ac b)) : w.cell? ⟨g, o + 35, none⟩ = some (.slice A an ac) := h 35 _ (msg_at hs 1)
theorem msg_ans (hs : s.length = 32) (h : w.rangeAt g o (msgC kd P pn pc s n A an ac b)) : w.cell? ⟨g, o + 36, none⟩ = some (.bool b) := h 36 _ (msg_at hs 2)
theorem msg_sum (h : w.rangeAt g o (msgC kd P pn pc s n A an ac b)) : w.rangeAt g (o + 2) (b8s s) := fun j v hv => by
  have := h (2 + j) v (by
    unfold msgC
    rw [show 2 + j = j + 1 + 1 by omega, List.getElem?_cons_succ, List.getElem?_cons_succ, List.getElem?_append_left (List.getElem?_eq_some_iff.1 hv).1]
    exact hv)
  rw [← Nat.add_assoc] at this
  exact this
end
-- halves of a key's bytes, as within takes them
def shn (b : UInt8) (i : Nat) : UInt8 := if i % 2 = 0 then b >>> 4 else b
theorem nib_shn (k : List UInt8) (i : Nat) : nib k i = shn (k.getD (i / 2) 0) i &&& 15 := by
  unfold nib shn
  split
  · apply UInt8.toNat_inj.1
    rw [u8_and15, u8_shr4]
    have := (k.getD (i / 2) 0).toNat_lt
    omega
  · rfl
section
variable {P : Program} {w : World} {a : Act} {o : Oper}
theorem shr8_n (t ty : TypeId) (x y : Operand) (ho : o.op = .binOp .shr t x y ty) (b : UInt8) (i : Nat) (hx : a.eval x = .int .u8 ((b.toNat : Nat) : Int)) (hy : a.eval y = .int .i64 ((4 - 4 * (i % 2) : Nat) : Int)) : (execOp a.eval o).run P w = .ok (.value (.int .u8 (((shn b i).toNat : Nat) : Int))) w := by
  have hb' := b.toNat_lt
  have key : (binOp .shr t (.int .u8 ((b.toNat : Nat) : Int)) (.int .i64 ((4 - 4 * (i % 2) : Nat) : Int))).run P w = .ok (.int .u8 (((shn b i).toNat : Nat) : Int)) w := by
    have : (Op.shift .shr .u8 ((b.toNat : Nat) : Int) .i64 ((4 - 4 * (i % 2) : Nat) : Int)).run P w = .ok (.int .u8 (((shn b i).toNat : Nat) : Int)) w := by
      unfold Op.shift
      rw [if_neg (by omega)]
      have hb : IntKind.u8.bits = 8 := rfl
      unfold shn
      rcases Nat.mod_two_eq_zero_or_one i with e | e
      · rw [e]
        have h1 : min (((4 - 4 * 0 : Nat) : Int).toNat) IntKind.u8.bits = 4 := by rw [hb]; rfl
        have h2 : Int.fdiv ((b.toNat : Nat) : Int) (2 ^ 4) = ((b.toNat / 16 : Nat) : Int) := by
          rw [Int.fdiv_eq_ediv_of_nonneg _ (by decide)]
          exact_mod_cast rfl
        simp only [h1, h2, Sem.run_pure, if_true, u8_shr4]
      · rw [e]
        have h1 : min (((4 - 4 * 1 : Nat) : Int).toNat) IntKind.u8.bits = 0 := by rw [hb]; rfl
        have h2 : Int.fdiv ((b.toNat : Nat) : Int) (2 ^ 0) = ((b.toNat : Nat) : Int) := by simp
        simp only [h1, h2, Sem.run_pure]
        simp
    exact this
  have hg : (eqGuard .shr t x y (.int .u8 ((b.toNat : Nat) : Int)) (.int .i64 ((4 - 4 * (i % 2) : Nat) : Int))).run P w = .ok () w := rfl
  unfold execOp
  simp only [ho, hx, hy]
  simp only [Sem.run_bind, Sem.run_pure, hg, Result.andThen_ok, key]
end
-- what is built
def fieldsG : Array (Nat × Nat) := #[(0, 1), (1, 1), (2, 32), (34, 1), (35, 1), (36, 1)]
section
variable {kd : UInt8} {P A : Option Addr} {pn pc an ac : Nat} {s : List UInt8} {n : Int} {b : Bool} {R : Option (Array Value)} {rest : List (Nat × Value)}
theorem fillG0 (kd' : UInt8) (hs : s.length = 32) (h : Instr.fill (fun i => fieldsG[i]?) (msgC kd' P pn pc s n A an ac b).toArray rest = R) : Instr.fill (fun i => fieldsG[i]?) (msgC kd P pn pc s n A an ac b).toArray ((0, .int .u8 ((kd'.toNat : Nat) : Int)) :: rest) = R := by
  refine fill_part (off := 0) (size := 1) (vs := [.int .u8 ((kd'.toNat : Nat) : Int)]) rfl rfl rfl (by rw [msgC_length hs]; omega) ?_
  exact h
theorem fillG1 (P' : Option Addr) (pn' pc' : Nat) (hs : s.length = 32) (h : Instr.fill (fun i => fieldsG[i]?) (msgC kd P' pn' pc' s n A an ac b).toArray rest = R) : Instr.fill (fun i => fieldsG[i]?) (msgC kd P pn pc s n A an ac b).toArray ((1, .slice P' pn' pc') :: rest) = R := by
  refine fill_part (off := 1) (size := 1) (vs := [.slice P' pn' pc']) rfl rfl rfl (by rw [msgC_length hs]; omega) ?_
  exact h
theorem fillG2 {s' : List UInt8} (hs : s.length = 32) (hs' : s'.length = 32) (h : Instr.fill (fun i => fieldsG[i]?) (msgC kd P pn pc s' n A an ac b).toArray rest = R) : Instr.fill (fun i => fieldsG[i]?) (msgC kd P pn pc s n A an ac b).toArray ((2, .agg (b8s s').toArray) :: rest) = R := by
  refine fill_part (off := 2) (size := 32) (vs := b8s s') rfl rfl (by rw [b8s_length, hs']) (by rw [msgC_length hs]; omega) ?_
  have e : splice (msgC kd P pn pc s n A an ac b) 2 (b8s s') = msgC kd P pn pc s' n A an ac b := by
    have := splice_mid (A := [Value.int .u8 ((kd.toNat : Nat) : Int), Value.slice P pn pc]) (B := b8s s) (C := [Value.int .i64 n, Value.slice A an ac, Value.bool b]) (vs := b8s s') (off := 2) rfl (by rw [b8s_length, b8s_length, hs, hs'])
    exact this
  rw [e]
  exact h
theorem fillG3 (n' : Int) (hs : s.length = 32) (h : Instr.fill (fun i => fieldsG[i]?) (msgC kd P pn pc s n' A an ac b).toArray rest = R) : Instr.fill (fun i => fieldsG[i]?) (msgC kd P pn pc s n A an ac b).toArray ((3, .int .i64 n') :: rest) = R := by
  refine fill_part (off := 34) (size := 1) (vs := [.int .i64 n']) rfl rfl rfl (by rw [msgC_length hs]; omega) ?_
  have e : splice (msgC kd P pn pc s n A an ac b) 34 [.int .i64 n'] = msgC kd P pn pc s n' A an ac b := by
    have := splice_mid (A := [.int .u8 ((kd.toNat : Nat) : Int), .slice P pn pc] ++ b8s s) (B := [Value.int .i64 n]) (C := [.slice A an ac, .bool b]) (vs := [Value.int .i64 n']) (off := 34) (by simp [b8s_length, hs]) rfl
    simpa [msgC] using this
  rw [e]
  exact h
theorem fillG4 (A' : Option Addr) (an' ac' : Nat) (hs : s.length = 32) (h : Instr.fill (fun i => fieldsG[i]?) (msgC kd P pn pc s n A' an' ac' b).toArray rest = R) : Instr.fill (fun i => fieldsG[i]?) (msgC kd P pn pc s n A an ac b).toArray ((4, .slice A' an' ac') :: rest) = R := by
  refine fill_part (off := 35) (size := 1) (vs := [.slice A' an' ac']) rfl rfl rfl (by rw [msgC_length hs]; omega) ?_
  have e : splice (msgC kd P pn pc s n A an ac b) 35 [.slice A' an' ac'] = msgC kd P pn pc s n A' an' ac' b := by
    have := splice_mid (A := [.int .u8 ((kd.toNat : Nat) : Int), .slice P pn pc] ++ (b8s s ++ [Value.int .i64 n])) (B := [Value.slice A an ac]) (C := [.bool b]) (vs := [Value.slice A' an' ac']) (off := 35) (by simp [b8s_length, hs]) rfl
    simpa [msgC] using this
  rw [e]
  exact h
theorem fillG5 (b' : Bool) (hs : s.length = 32) (h : Instr.fill (fun i => fieldsG[i]?) (msgC kd P pn pc s n A an ac b').toArray rest = R) : Instr.fill (fun i => fieldsG[i]?) (msgC kd P pn pc s n A an ac b).toArray ((5, .bool b') :: rest) = R := by
  refine fill_part (off := 36) (size := 1) (vs := [.bool b']) rfl rfl rfl (by rw [msgC_length hs]; omega) ?_
  have e : splice (msgC kd P pn pc s n A an ac b) 36 [.bool b'] = msgC kd P pn pc s n A an ac b' := by
    have := splice_mid (A := [.int .u8 ((kd.toNat : Nat) : Int), .slice P pn pc] ++ (b8s s ++ [Value.int .i64 n, .slice A an ac])) (B := [Value.bool b]) (C := []) (vs := [Value.bool b']) (off := 36) (by simp [b8s_length, hs]) rfl
    simpa [msgC] using this
  rw [e]
  exact h
end
theorem own8_low {w : World} {base base' e n c : Nat} {A : Option Addr} {l : List UInt8} (h : Own8 w base e A n c l) (hb : base' ≤ base) : Own8 w base' e A n c l := own8 (own_le h.own hb)
def msgZ : List Value := msgC 0 none 0 0 z32 0 none 0 0 false
end Mur
namespace Go.Proofs.YtfhneademopciaaDoor
open Go.RowKit Wk
open Mur (b8s msgC z32)
theorem built_msg (l : List (Nat × Value)) {R : Option (Array Value)} (h : Instr.fill (fun i => Mur.fieldsG[i]?) Mur.msgZ.toArray l = R) (e : Program.built Tryd.prog 66 l = Instr.fill (fun i => Mur.fieldsG[i]?) Mur.msgZ.toArray l) : Program.built Tryd.prog 66 l = R := e.trans h
theorem built_summary {s : List UInt8} (hs : s.length = 32) (P : Option Addr) (pn pc : Nat) (n : Int) : Program.built Tryd.prog 66 [(0, .int .u8 1), (1, .slice P pn pc), (2, .agg (b8s s).toArray), (3, .int .i64 n)] = some (msgC 1 P pn pc s n none 0 0 false).toArray :=
  built_msg _ (Mur.fillG0 1 rfl (Mur.fillG1 P pn pc rfl (Mur.fillG2 rfl hs (Mur.fillG3 n hs rfl)))) (by kernel_rfl)
theorem built_empty (P : Option Addr) (pn pc : Nat) : Program.built Tryd.prog 66 [(0, .int .u8 2), (1, .slice P pn pc)] = some (msgC 2 P pn pc z32 0 none 0 0 false).toArray :=
  built_msg _ (Mur.fillG0 2 rfl (Mur.fillG1 P pn pc rfl rfl)) (by kernel_rfl)
theorem built_items (P : Option Addr) (pn pc : Nat) (A : Option Addr) (an ac : Nat) (b : Bool) : Program.built Tryd.prog 66 [(0, .int .u8 2), (1, .slice P pn pc), (4, .slice A an ac), (5, .bool b)] = some (msgC 2 P pn pc z32 0 A an ac b).toArray :=
  built_msg _ (Mur.fillG0 2 rfl (Mur.fillG1 P pn pc rfl (Mur.fillG4 A an ac rfl (Mur.fillG5 b rfl rfl)))) (by kernel_rfl)
end Go.Proofs.YtfhneademopciaaDoor
namespace Mur
open Go Go.RowKit Go.WideShapes Go.ChangeShapes
section
variable {H : Type} {enc : TypeId × Value → H} {P : Program} {W : World}
theorem leaf_slice {t e : TypeId} {v : Value} (ht : P.underlying t = some (.slice e)) (h : Leaf enc P W 0 (fun _ => true) true t v) : v.cells.toList = [v] ∧ ∃ d ps, DataW.Trod enc P W 0 (fun _ => true) true t v d ps := by
  obtain ⟨m, ⟨d, ps⟩, hf⟩ := h
  have hv : v.cells.toList = [v] := by
    rcases Deep.open_slice ht hf with ⟨h0, _⟩ | ⟨a, len, cap, m, n, D', Pl, h0, _⟩
    · obtain rfl : v = .slice none 0 0 := by simpa using h0
      rfl
    · obtain rfl : v = .slice (some a) len cap := by simpa using h0
      rfl
  exact ⟨hv, d, ps, m, by rw [hv]; exact hf⟩
end
end Mur
namespace Go.Proofs.YtfhneademopciaaDoor
open Go.RowKit Go.WideShapes Go.ChangeShapes
open Mur (All2 Leaf Att SlA rowA attC b8s msgC)
set_option maxRecDepth 100000
section
variable {H : Type} {enc : TypeId × Value → H} {W : World}
theorem leaf_atts {v : Value} (h : Leaf enc Tryd.prog W 0 (fun _ => true) true 22 v) :
    ∃ A n c L, v = .slice A n c ∧ (n ≤ c ∧ c ≤ 9223372036854775807) ∧ (A = none → c = 0) ∧ SlA W A n L := by
  obtain ⟨hv, d, ps, h⟩ := Mur.leaf_slice Tryd.underlying22 h
  obtain ⟨A, n, c, rows, rfl, hnc, hcm, hnil, hlen, hrows, hat⟩ := Mur.open_rows 3 lsA Tryd.underlying22 leafs_a cAtt (by decide) hv h
  obtain ⟨L, rfl⟩ := Mur.rows_decode Att.C rows fun r hr => leaf_att (hrows r hr)
  have hl : L.length = n := by simpa using hlen
  refine ⟨A, n, c, L, rfl, ⟨hnc, by unfold maxLen at hcm; omega⟩, hnil, hl, by rw [Mur.rowA_len, hl], fun hn => ?_⟩
  have hp : 0 < n := by
    rcases Nat.eq_zero_or_pos n with h0 | h0
    · rw [List.eq_nil_of_length_eq_zero (hl.trans h0)] at hn
      exact absurd rfl hn
    · exact h0
  obtain ⟨g, off, e, hr⟩ := hat hp
  refine ⟨g, off, e, fun j v hv => ?_⟩
  have hj := (List.getElem?_eq_some_iff.1 hv).1
  rw [Mur.rowA_len] at hj
  obtain ⟨x, hx⟩ : ∃ x, L[j / 97]? = some x := ⟨_, List.getElem?_eq_getElem (by omega)⟩
  have h1 := hr (j / 97) x.C (by simp [hx])
  have h2 : x.C[j % 97]? = some v := by
    have e1 : (rowA L)[j]? = ((rowA L).drop (j / 97 * 97))[j % 97]? := by
      rw [List.getElem?_drop]
      congr 1
      omega
    rw [e1, ← Mur.rowA_drop] at hv
    obtain ⟨h3, rfl⟩ := List.getElem?_eq_some_iff.1 hx
    rw [List.drop_eq_getElem_cons h3, Mur.rowA_cons, List.getElem?_append_left (by rw [Att.C_len]; omega)] at hv
    exact hv
  have h4 := h1 (j % 97) v h2
  have e4 : off + j / 97 * lsA.length + j % 97 = off + j := by
    have : lsA.length = 97 := rfl
    rw [this]
    omega
  rw [e4] at h4
  exact h4
def lsG : List TypeId := [5, 38] ++ (List.replicate 32 5 ++ [3, 22, 4])
theorem leafs_g : Mur.leafs Tryd.prog 3 66 = some lsG := by kernel_rfl
theorem cellsU8 : Tryd.prog.cellsOf 5 = 1 := by kernel_rfl
theorem open_msg {v : Value} {d : DataW H} {ps : List MemPlace} (hval : ∃ r b0, Value.okWide Tryd.prog W r b0 66 v) (h : DataW.Trod enc Tryd.prog W 0 (fun _ => true) true 66 v d ps) :
    ∃ kd p PA pn pc s m B bn bc b I, v = .agg (msgC kd PA pn pc s m B bn bc b).toArray ∧ s.length = 32 ∧ Mur.Byt W PA pn p ∧ (PA = none → pc = 0) ∧ SlA W B bn I := by
  obtain ⟨cs, rfl, ha⟩ := Mur.open_agg 3 (.inr ⟨_, Tryd.underlying66⟩) leafs_g hval h
  obtain ⟨c1, c2, e1, h1, ha⟩ := Mur.all2_split ha
  obtain ⟨c3, c4, e2, h2, h3⟩ := Mur.all2_split ha
  rcases h1 with _ | ⟨k1, h1⟩
  rcases h1 with _ | ⟨k2, h1⟩
  cases h1
  rcases h3 with _ | ⟨k4, h3⟩
  rcases h3 with _ | ⟨k5, h3⟩
  rcases h3 with _ | ⟨k6, h3⟩
  cases h3
  obtain ⟨z, rfl, hz⟩ := Mur.leaf_int Tryd.underlying5 k1
  have hzb := bounds_u8 hz
  obtain ⟨kd, rfl⟩ : ∃ u : UInt8, z = (u.toNat : Int) := ⟨UInt8.ofNat z.toNat, by simp; omega⟩
  obtain ⟨PA, pn, pc, p, rfl, _, _, hnil, hp⟩ := Mur.leaf_byt Tryd.underlying38 Tryd.underlying5 cellsU8 k2
  obtain ⟨s, hs, rfl⟩ := Mur.leaf_u8s Tryd.underlying5 32 _ h2
  obtain ⟨m, rfl, _⟩ := Mur.leaf_int Tryd.underlying3 k4
  obtain ⟨B, bn, bc, I, rfl, _, _, hI⟩ := leaf_atts k5
  obtain ⟨b, rfl⟩ := Mur.leaf_bool Tryd.underlying4 k6
  refine ⟨kd, p, PA, pn, pc, s, m, B, bn, bc, b, I, ?_, hs, hp, hnil, hI⟩
  subst e2
  unfold msgC
  congr 1
  exact congrArg List.toArray e1
end
end Go.Proofs.YtfhneademopciaaDoor
namespace Go.Proofs.YtfhneademopciaaDoor
open Go.RowKit
open Mur (b8s Byt Own8 Seg Segs flat cutA attC)
set_option maxRecDepth 100000
set_option maxHeartbeats 4000000
theorem may_any (k r t : List UInt8) (n : Int) (hk : k.length = 32) (hr : r.length = 32) (_ht : t.length = 32) (w : World) : Calls Tryd.prog 60 #[.agg (attC k r n t).toArray] w fun e w' => e = .returned (.bool (decide (Mur.may n))) ∧ Wk.Chg [] w w' := by
  refine calls_of_wp Tryd.func60 rfl ?_
  refine wp_seq ?_
  refine Wk.reg ?_
  refine Wk.rEx 0 (some 1) _ rfl rfl (by kernel_rfl) (Wk.new_ex (.pointer (some ⟨w.heap.size, 0, none⟩)) ((Mur.attC k r n t).toArray) 32 (by kernel_rfl)) ?_
  rintro _ W1 ⟨rfl, hb1, ch1, sz1⟩
  have zz1 := ch1.size
  refine Wk.rPure 1 (some 2) (.bool false) rfl rfl (by kernel_rfl) (by kernel_rfl) ?_
  refine Wk.rEnd 2 rfl ?_
  refine Wk.nxt ?_
  refine wp_seq ?_
  refine Wk.reg ?_
  refine Wk.rPure 0 (some 3) (.pointer (some ⟨w.heap.size, 64, none⟩)) rfl rfl (by kernel_rfl) (by kernel_rfl) ?_
  refine Wk.rPure 1 (some 4) (.int .i64 n) rfl rfl (by kernel_rfl) (Wk.load1 3 (.tmp 3) rfl (by kernel_rfl) ⟨w.heap.size, 64, none⟩ (by kernel_rfl) (.int .i64 n) (Mur.att_len hk hr hb1)) ?_
  by_cases hx1 : n ≥ (1 : Int)
  · refine Wk.rPure 2 (some 5) (.bool true) rfl rfl (by kernel_rfl) (Wk.boolT (b := decide (n ≥ (1 : Int))) (decide_eq_true (by first | exact hx1 | omega)) (by kernel_rfl)) ?_
    refine Wk.rPure 3 (some 6) (.bool true) rfl rfl (by kernel_rfl) (by kernel_rfl) ?_
    refine Wk.rPure 4 (some 7) (.pointer (some ⟨w.heap.size, 64, none⟩)) rfl rfl (by kernel_rfl) (by kernel_rfl) ?_
    refine Wk.rPure 5 (some 8) (.int .i64 n) rfl rfl (by kernel_rfl) (Wk.load1 3 (.tmp 7) rfl (by kernel_rfl) ⟨w.heap.size, 64, none⟩ (by kernel_rfl) (.int .i64 n) (Mur.att_len hk hr hb1)) ?_
    by_cases hx2 : n ≤ (5000 : Int)
    · refine Wk.rPure 6 (some 9) (.bool true) rfl rfl (by kernel_rfl) (Wk.boolT (b := decide (n ≤ (5000 : Int))) (decide_eq_true (by first | exact hx2 | omega)) (by kernel_rfl)) ?_
      refine Wk.rPure 7 (some 10) (.bool true) rfl rfl (by kernel_rfl) (by kernel_rfl) ?_
      refine Wk.rPure 8 (some 2) (.bool true) rfl rfl (by kernel_rfl) (by kernel_rfl) ?_
      refine Wk.rEnd 9 rfl ?_
      refine Wk.nxt ?_
      refine wp_ret ?_
      have kk1 : Wk.Chg [] w W1 := Wk.Chg.step ((Wk.Chg.refl _).more (by simp)) ch1 trivial
      refine Wk.ret (.bool true) rfl (by kernel_rfl) ?_
      exact ⟨by rw [decide_eq_true (show Mur.may n from by unfold Mur.may; omega)], kk1⟩
    · refine Wk.rPure 6 (some 9) (.bool false) rfl rfl (by kernel_rfl) (Wk.boolF (b := decide (n ≤ (5000 : Int))) (decide_eq_false (by first | exact hx2 | omega)) (by kernel_rfl)) ?_
      refine Wk.rPure 7 (some 10) (.bool false) rfl rfl (by kernel_rfl) (by kernel_rfl) ?_
      refine Wk.rPure 8 (some 2) (.bool false) rfl rfl (by kernel_rfl) (by kernel_rfl) ?_
      refine Wk.rEnd 9 rfl ?_
      refine Wk.nxt ?_
      refine wp_ret ?_
      have kk2 : Wk.Chg [] w W1 := Wk.Chg.step ((Wk.Chg.refl _).more (by simp)) ch1 trivial
      refine Wk.ret (.bool false) rfl (by kernel_rfl) ?_
      exact ⟨by rw [decide_eq_false (show ¬ Mur.may n from by unfold Mur.may; omega)], kk2⟩
  · refine Wk.rPure 2 (some 5) (.bool false) rfl rfl (by kernel_rfl) (Wk.boolF (b := decide (n ≥ (1 : Int))) (decide_eq_false (by first | exact hx1 | omega)) (by kernel_rfl)) ?_
    refine Wk.rPure 3 (some 6) (.bool false) rfl rfl (by kernel_rfl) (by kernel_rfl) ?_
    refine Wk.rPass 4 (some 7) rfl rfl (by kernel_rfl) ?_
    refine Wk.rPass 5 (some 8) rfl rfl (by kernel_rfl) ?_
    refine Wk.rPass 6 (some 9) rfl rfl (by kernel_rfl) ?_
    refine Wk.rPure 7 (some 10) (.bool false) rfl rfl (by kernel_rfl) (by kernel_rfl) ?_
    refine Wk.rPure 8 (some 2) (.bool false) rfl rfl (by kernel_rfl) (by kernel_rfl) ?_
    refine Wk.rEnd 9 rfl ?_
    refine Wk.nxt ?_
    refine wp_ret ?_
    have kk3 : Wk.Chg [] w W1 := Wk.Chg.step ((Wk.Chg.refl _).more (by simp)) ch1 trivial
    refine Wk.ret (.bool false) rfl (by kernel_rfl) ?_
    exact ⟨by rw [decide_eq_false (show ¬ Mur.may n from by unfold Mur.may; omega)], kk3⟩
theorem Rmay_any (k r t : List UInt8) (n : Int) (hk : k.length = 32) (hr : r.length = 32) (_ht : t.length = 32) (w : World) : Calls Tryd.prog 50 #[.agg (attC k r n t).toArray] w fun e w' => e = .returned (.bool (decide (Mur.may n))) ∧ Wk.Chg [] w w' := by
  refine calls_of_wp Tryd.func50 rfl ?_
  refine wp_seq ?_
  refine Wk.reg ?_
  refine Wk.rEx 0 (some 1) _ rfl rfl (by kernel_rfl) (Wk.new_ex (.pointer (some ⟨w.heap.size, 0, none⟩)) ((Mur.attC k r n t).toArray) 32 (by kernel_rfl)) ?_
  rintro _ W1 ⟨rfl, hb1, ch1, sz1⟩
  have zz1 := ch1.size
  refine Wk.rPure 1 (some 2) (.bool false) rfl rfl (by kernel_rfl) (by kernel_rfl) ?_
  refine Wk.rEnd 2 rfl ?_
  refine Wk.nxt ?_
  refine wp_seq ?_
  refine Wk.reg ?_
  refine Wk.rPure 0 (some 3) (.pointer (some ⟨w.heap.size, 64, none⟩)) rfl rfl (by kernel_rfl) (by kernel_rfl) ?_
  refine Wk.rPure 1 (some 4) (.int .i64 n) rfl rfl (by kernel_rfl) (Wk.load1 3 (.tmp 3) rfl (by kernel_rfl) ⟨w.heap.size, 64, none⟩ (by kernel_rfl) (.int .i64 n) (Mur.att_len hk hr hb1)) ?_
  by_cases hx1 : n ≥ (1 : Int)
  · refine Wk.rPure 2 (some 5) (.bool true) rfl rfl (by kernel_rfl) (Wk.boolT (b := decide (n ≥ (1 : Int))) (decide_eq_true (by first | exact hx1 | omega)) (by kernel_rfl)) ?_
    refine Wk.rPure 3 (some 6) (.bool true) rfl rfl (by kernel_rfl) (by kernel_rfl) ?_
    refine Wk.rPure 4 (some 7) (.pointer (some ⟨w.heap.size, 64, none⟩)) rfl rfl (by kernel_rfl) (by kernel_rfl) ?_
    refine Wk.rPure 5 (some 8) (.int .i64 n) rfl rfl (by kernel_rfl) (Wk.load1 3 (.tmp 7) rfl (by kernel_rfl) ⟨w.heap.size, 64, none⟩ (by kernel_rfl) (.int .i64 n) (Mur.att_len hk hr hb1)) ?_
    by_cases hx2 : n ≤ (5000 : Int)
    · refine Wk.rPure 6 (some 9) (.bool true) rfl rfl (by kernel_rfl) (Wk.boolT (b := decide (n ≤ (5000 : Int))) (decide_eq_true (by first | exact hx2 | omega)) (by kernel_rfl)) ?_
      refine Wk.rPure 7 (some 10) (.bool true) rfl rfl (by kernel_rfl) (by kernel_rfl) ?_
      refine Wk.rPure 8 (some 2) (.bool true) rfl rfl (by kernel_rfl) (by kernel_rfl) ?_
      refine Wk.rEnd 9 rfl ?_
      refine Wk.nxt ?_
      refine wp_ret ?_
      have kk1 : Wk.Chg [] w W1 := Wk.Chg.step ((Wk.Chg.refl _).more (by simp)) ch1 trivial
      refine Wk.ret (.bool true) rfl (by kernel_rfl) ?_
      exact ⟨by rw [decide_eq_true (show Mur.may n from by unfold Mur.may; omega)], kk1⟩
    · refine Wk.rPure 6 (some 9) (.bool false) rfl rfl (by kernel_rfl) (Wk.boolF (b := decide (n ≤ (5000 : Int))) (decide_eq_false (by first | exact hx2 | omega)) (by kernel_rfl)) ?_
      refine Wk.rPure 7 (some 10) (.bool false) rfl rfl (by kernel_rfl) (by kernel_rfl) ?_
      refine Wk.rPure 8 (some 2) (.bool false) rfl rfl (by kernel_rfl) (by kernel_rfl) ?_
      refine Wk.rEnd 9 rfl ?_
      refine Wk.nxt ?_
      refine wp_ret ?_
      have kk2 : Wk.Chg [] w W1 := Wk.Chg.step ((Wk.Chg.refl _).more (by simp)) ch1 trivial
      refine Wk.ret (.bool false) rfl (by kernel_rfl) ?_
      exact ⟨by rw [decide_eq_false (show ¬ Mur.may n from by unfold Mur.may; omega)], kk2⟩
  · refine Wk.rPure 2 (some 5) (.bool false) rfl rfl (by kernel_rfl) (Wk.boolF (b := decide (n ≥ (1 : Int))) (decide_eq_false (by first | exact hx1 | omega)) (by kernel_rfl)) ?_
    refine Wk.rPure 3 (some 6) (.bool false) rfl rfl (by kernel_rfl) (by kernel_rfl) ?_
    refine Wk.rPass 4 (some 7) rfl rfl (by kernel_rfl) ?_
    refine Wk.rPass 5 (some 8) rfl rfl (by kernel_rfl) ?_
    refine Wk.rPass 6 (some 9) rfl rfl (by kernel_rfl) ?_
    refine Wk.rPure 7 (some 10) (.bool false) rfl rfl (by kernel_rfl) (by kernel_rfl) ?_
    refine Wk.rPure 8 (some 2) (.bool false) rfl rfl (by kernel_rfl) (by kernel_rfl) ?_
    refine Wk.rEnd 9 rfl ?_
    refine Wk.nxt ?_
    refine wp_ret ?_
    have kk3 : Wk.Chg [] w W1 := Wk.Chg.step ((Wk.Chg.refl _).more (by simp)) ch1 trivial
    refine Wk.ret (.bool false) rfl (by kernel_rfl) ?_
    exact ⟨by rw [decide_eq_false (show ¬ Mur.may n from by unfold Mur.may; omega)], kk3⟩
theorem eight_any (n : Int) (w : World) : Calls Tryd.prog 80 #[.int .i64 n] w fun e w' => ∃ E, Hid (E = Mur.e8 (Mur.u64n n)) ∧ E.length = 8 ∧ e = .returned (.agg (b8s E).toArray) ∧ Wk.Chg [] w w' := by
  refine calls_of_wp Tryd.func80 rfl ?_
  refine wp_seq ?_
  refine Wk.reg ?_
  refine Wk.rEx 0 (some 2) _ rfl rfl (by kernel_rfl) (Wk.new_ex (.pointer (some ⟨w.heap.size, 0, none⟩)) #[.int .u8 0, .int .u8 0, .int .u8 0, .int .u8 0, .int .u8 0, .int .u8 0, .int .u8 0, .int .u8 0] 127 (by kernel_rfl)) ?_
  rintro _ W1 ⟨rfl, hb1, ch1, sz1⟩
  have zz1 := ch1.size
  refine Wk.rEnd 1 rfl ?_
  refine Wk.nxt ?_
  refine wp_seq ?_
  refine wp_seq ?_
  refine Wk.reg ?_
  refine Wk.rPure 0 (some 4) (.int .i64 0) rfl rfl (by kernel_rfl) (by kernel_rfl) ?_
  refine Wk.rEnd 1 rfl ?_
  refine Wk.nxt ?_
  refine wp_block ?_
  refine Wk.loopN 9 ?_
  refine Wk.rdS ?_
  refine wp_seq ?_
  refine Wk.reg ?_
  refine Wk.rPure 0 (some 5) (.bool true) rfl rfl (by kernel_rfl) (Wk.boolT (b := decide ((0 : Int) < (8 : Int))) (decide_eq_true (by decide)) (by kernel_rfl)) ?_
  refine Wk.rEnd 1 rfl ?_
  refine Wk.nxt ?_
  refine wp_seq ?_
  refine wp_cond_true (by kernel_rfl) ?_
  refine wp_skip ?_
  refine Wk.nxt ?_
  refine wp_seq ?_
  refine wp_block ?_
  refine wp_seq ?_
  refine Wk.reg ?_
  refine Wk.rPure 0 (some 6) (.int .i64 0) rfl rfl (by kernel_rfl) (by kernel_rfl) ?_
  refine Wk.rPure 1 (some 3) (.int .i64 0) rfl rfl (by kernel_rfl) (by kernel_rfl) ?_
  refine Wk.rEnd 2 rfl ?_
  refine Wk.nxt ?_
  refine Wk.reg ?_
  refine Wk.rPure 0 (some 7) (.int .i64 0) rfl rfl (by kernel_rfl) (by kernel_rfl) ?_
  refine Wk.rPure 1 (some 8) (.int .i64 n) rfl rfl (by kernel_rfl) (by kernel_rfl) ?_
  refine Wk.rPure 2 (some 9) (.int .u64 ((Mur.u64n n : Nat) : Int)) rfl rfl (by kernel_rfl) (Mur.conv_u64n 3 26 (.tmp 8) rfl (by kernel_rfl) Tryd.underlying26 .i64 n (by kernel_rfl)) ?_
  refine Wk.rPure 3 (some 10) (.int .i64 0) rfl rfl (by kernel_rfl) (by kernel_rfl) ?_
  refine Wk.rPure 4 (some 11) (.int .i64 0) rfl rfl (by kernel_rfl) (Wk.int64 (n := 8 * 0) (z := 0) (by omega) (by omega) (by omega) (by kernel_rfl)) ?_
  refine Wk.rPure 5 (some 12) (.int .i64 56) rfl rfl (by kernel_rfl) (Wk.int64 (n := 56 - 0) (z := 56) (by omega) (by omega) (by omega) (by kernel_rfl)) ?_
  refine Wk.rPure 6 (some 13) (.int .u64 (((Mur.u64n n) / 72057594037927936 : Nat) : Int)) rfl rfl (by kernel_rfl) (Mur.shr64 26 3 (.tmp 9) (.tmp 12) rfl (Mur.u64n n) 56 .i64 (by kernel_rfl) (by kernel_rfl) (by omega) 72057594037927936 rfl) ?_
  refine Wk.rPure 7 (some 14) (.int .u8 (((Mur.u64n n) / 72057594037927936 % 256 : Nat) : Int)) rfl rfl (by kernel_rfl) (Mur.conv_u8 26 5 (.tmp 13) rfl (by kernel_rfl) Tryd.underlying5 .u64 ((Mur.u64n n) / 72057594037927936) (by kernel_rfl)) ?_
  refine Wk.rPure 8 (some 15) (.pointer (some ⟨w.heap.size, 0, none⟩)) rfl rfl (by kernel_rfl) (Wk.index_arr 127 5 (.tmp 2) (.tmp 7) rfl 8 Tryd.underlying127 1 (by kernel_rfl) w.heap.size 0 0 .i64 (by kernel_rfl) (by kernel_rfl) (by decide)) ?_
  refine Wk.rExS 9 none _ rfl rfl (by kernel_rfl) (Wk.store1 5 (.tmp 15) (.tmp 14) rfl (by kernel_rfl) w.heap.size 0 (by kernel_rfl) (.int .u8 (((Mur.u64n n) / 72057594037927936 % 256 : Nat) : Int)) (by kernel_rfl) rfl 127 #[.int .u8 0, .int .u8 0, .int .u8 0, .int .u8 0, .int .u8 0, .int .u8 0, .int .u8 0, .int .u8 0] hb1 (by simp)) ?_
  rintro W2 ⟨hb2, ch2⟩
  replace hb2 : W2.heap[w.heap.size]? = some (.cells #[.int .u8 (((Mur.u64n n) / 72057594037927936 % 256 : Nat) : Int), .int .u8 0, .int .u8 0, .int .u8 0, .int .u8 0, .int .u8 0, .int .u8 0, .int .u8 0] 127 (0, 0)) := hb2
  have zz2 := ch2.size
  refine Wk.rEnd 10 rfl ?_
  refine Wk.inN ?_
  refine Wk.nxt ?_
  refine Wk.reg ?_
  refine Wk.rPure 0 (some 16) (.int .i64 1) rfl rfl (by kernel_rfl) (Wk.int64 (n := 0 + 1) (z := 1) (by omega) (by omega) (by omega) (by kernel_rfl)) ?_
  refine Wk.rPure 1 (some 4) (.int .i64 1) rfl rfl (by kernel_rfl) (by kernel_rfl) ?_
  refine Wk.rEnd 2 rfl ?_
  refine Wk.nxt ?_
  refine Wk.rdS ?_
  refine wp_seq ?_
  refine Wk.reg ?_
  refine Wk.rPure 0 (some 5) (.bool true) rfl rfl (by kernel_rfl) (Wk.boolT (b := decide ((1 : Int) < (8 : Int))) (decide_eq_true (by decide)) (by kernel_rfl)) ?_
  refine Wk.rEnd 1 rfl ?_
  refine Wk.nxt ?_
  refine wp_seq ?_
  refine wp_cond_true (by kernel_rfl) ?_
  refine wp_skip ?_
  refine Wk.nxt ?_
  refine wp_seq ?_
  refine wp_block ?_
  refine wp_seq ?_
  refine Wk.reg ?_
  refine Wk.rPure 0 (some 6) (.int .i64 1) rfl rfl (by kernel_rfl) (by kernel_rfl) ?_
  refine Wk.rPure 1 (some 3) (.int .i64 1) rfl rfl (by kernel_rfl) (by kernel_rfl) ?_
  refine Wk.rEnd 2 rfl ?_
  refine Wk.nxt ?_
  refine Wk.reg ?_
  refine Wk.rPure 0 (some 7) (.int .i64 1) rfl rfl (by kernel_rfl) (by kernel_rfl) ?_
  refine Wk.rPure 1 (some 8) (.int .i64 n) rfl rfl (by kernel_rfl) (by kernel_rfl) ?_
  refine Wk.rPure 2 (some 9) (.int .u64 ((Mur.u64n n : Nat) : Int)) rfl rfl (by kernel_rfl) (Mur.conv_u64n 3 26 (.tmp 8) rfl (by kernel_rfl) Tryd.underlying26 .i64 n (by kernel_rfl)) ?_
  refine Wk.rPure 3 (some 10) (.int .i64 1) rfl rfl (by kernel_rfl) (by kernel_rfl) ?_
  refine Wk.rPure 4 (some 11) (.int .i64 8) rfl rfl (by kernel_rfl) (Wk.int64 (n := 8 * 1) (z := 8) (by omega) (by omega) (by omega) (by kernel_rfl)) ?_
  refine Wk.rPure 5 (some 12) (.int .i64 48) rfl rfl (by kernel_rfl) (Wk.int64 (n := 56 - 8) (z := 48) (by omega) (by omega) (by omega) (by kernel_rfl)) ?_
  refine Wk.rPure 6 (some 13) (.int .u64 (((Mur.u64n n) / 281474976710656 : Nat) : Int)) rfl rfl (by kernel_rfl) (Mur.shr64 26 3 (.tmp 9) (.tmp 12) rfl (Mur.u64n n) 48 .i64 (by kernel_rfl) (by kernel_rfl) (by omega) 281474976710656 rfl) ?_
  refine Wk.rPure 7 (some 14) (.int .u8 (((Mur.u64n n) / 281474976710656 % 256 : Nat) : Int)) rfl rfl (by kernel_rfl) (Mur.conv_u8 26 5 (.tmp 13) rfl (by kernel_rfl) Tryd.underlying5 .u64 ((Mur.u64n n) / 281474976710656) (by kernel_rfl)) ?_
  refine Wk.rPure 8 (some 15) (.pointer (some ⟨w.heap.size, 1, none⟩)) rfl rfl (by kernel_rfl) (Wk.index_arr 127 5 (.tmp 2) (.tmp 7) rfl 8 Tryd.underlying127 1 (by kernel_rfl) w.heap.size 0 1 .i64 (by kernel_rfl) (by kernel_rfl) (by decide)) ?_
  refine Wk.rExS 9 none _ rfl rfl (by kernel_rfl) (Wk.store1 5 (.tmp 15) (.tmp 14) rfl (by kernel_rfl) w.heap.size 1 (by kernel_rfl) (.int .u8 (((Mur.u64n n) / 281474976710656 % 256 : Nat) : Int)) (by kernel_rfl) rfl 127 #[.int .u8 (((Mur.u64n n) / 72057594037927936 % 256 : Nat) : Int), .int .u8 0, .int .u8 0, .int .u8 0, .int .u8 0, .int .u8 0, .int .u8 0, .int .u8 0] hb2 (by simp)) ?_
  rintro W3 ⟨hb3, ch3⟩
  replace hb3 : W3.heap[w.heap.size]? = some (.cells #[.int .u8 (((Mur.u64n n) / 72057594037927936 % 256 : Nat) : Int), .int .u8 (((Mur.u64n n) / 281474976710656 % 256 : Nat) : Int), .int .u8 0, .int .u8 0, .int .u8 0, .int .u8 0, .int .u8 0, .int .u8 0] 127 (0, 0)) := hb3
  have zz3 := ch3.size
  refine Wk.rEnd 10 rfl ?_
  refine Wk.inN ?_
  refine Wk.nxt ?_
  refine Wk.reg ?_
  refine Wk.rPure 0 (some 16) (.int .i64 2) rfl rfl (by kernel_rfl) (Wk.int64 (n := 1 + 1) (z := 2) (by omega) (by omega) (by omega) (by kernel_rfl)) ?_
  refine Wk.rPure 1 (some 4) (.int .i64 2) rfl rfl (by kernel_rfl) (by kernel_rfl) ?_
  refine Wk.rEnd 2 rfl ?_
  refine Wk.nxt ?_
  refine Wk.rdS ?_
  refine wp_seq ?_
  refine Wk.reg ?_
  refine Wk.rPure 0 (some 5) (.bool true) rfl rfl (by kernel_rfl) (Wk.boolT (b := decide ((2 : Int) < (8 : Int))) (decide_eq_true (by decide)) (by kernel_rfl)) ?_
  refine Wk.rEnd 1 rfl ?_
  refine Wk.nxt ?_
  refine wp_seq ?_
  refine wp_cond_true (by kernel_rfl) ?_
  refine wp_skip ?_
  refine Wk.nxt ?_
  refine wp_seq ?_
  refine wp_block ?_
  refine wp_seq ?_
  refine Wk.reg ?_
  refine Wk.rPure 0 (some 6) (.int .i64 2) rfl rfl (by kernel_rfl) (by kernel_rfl) ?_
  refine Wk.rPure 1 (some 3) (.int .i64 2) rfl rfl (by kernel_rfl) (by kernel_rfl) ?_
  refine Wk.rEnd 2 rfl ?_
  refine Wk.nxt ?_
  refine Wk.reg ?_
  refine Wk.rPure 0 (some 7) (.int .i64 2) rfl rfl (by kernel_rfl) (by kernel_rfl) ?_
  refine Wk.rPure 1 (some 8) (.int .i64 n) rfl rfl (by kernel_rfl) (by kernel_rfl) ?_
  refine Wk.rPure 2 (some 9) (.int .u64 ((Mur.u64n n : Nat) : Int)) rfl rfl (by kernel_rfl) (Mur.conv_u64n 3 26 (.tmp 8) rfl (by kernel_rfl) Tryd.underlying26 .i64 n (by kernel_rfl)) ?_
  refine Wk.rPure 3 (some 10) (.int .i64 2) rfl rfl (by kernel_rfl) (by kernel_rfl) ?_
  refine Wk.rPure 4 (some 11) (.int .i64 16) rfl rfl (by kernel_rfl) (Wk.int64 (n := 8 * 2) (z := 16) (by omega) (by omega) (by omega) (by kernel_rfl)) ?_
  refine Wk.rPure 5 (some 12) (.int .i64 40) rfl rfl (by kernel_rfl) (Wk.int64 (n := 56 - 16) (z := 40) (by omega) (by omega) (by omega) (by kernel_rfl)) ?_
  refine Wk.rPure 6 (some 13) (.int .u64 (((Mur.u64n n) / 1099511627776 : Nat) : Int)) rfl rfl (by kernel_rfl) (Mur.shr64 26 3 (.tmp 9) (.tmp 12) rfl (Mur.u64n n) 40 .i64 (by kernel_rfl) (by kernel_rfl) (by omega) 1099511627776 rfl) ?_
  refine Wk.rPure 7 (some 14) (.int .u8 (((Mur.u64n n) / 1099511627776 % 256 : Nat) : Int)) rfl rfl (by kernel_rfl) (Mur.conv_u8 26 5 (.tmp 13) rfl (by kernel_rfl) Tryd.underlying5 .u64 ((Mur.u64n n) / 1099511627776) (by kernel_rfl)) ?_
  refine Wk.rPure 8 (some 15) (.pointer (some ⟨w.heap.size, 2, none⟩)) rfl rfl (by kernel_rfl) (Wk.index_arr 127 5 (.tmp 2) (.tmp 7) rfl 8 Tryd.underlying127 1 (by kernel_rfl) w.heap.size 0 2 .i64 (by kernel_rfl) (by kernel_rfl) (by decide)) ?_
  refine Wk.rExS 9 none _ rfl rfl (by kernel_rfl) (Wk.store1 5 (.tmp 15) (.tmp 14) rfl (by kernel_rfl) w.heap.size 2 (by kernel_rfl) (.int .u8 (((Mur.u64n n) / 1099511627776 % 256 : Nat) : Int)) (by kernel_rfl) rfl 127 #[.int .u8 (((Mur.u64n n) / 72057594037927936 % 256 : Nat) : Int), .int .u8 (((Mur.u64n n) / 281474976710656 % 256 : Nat) : Int), .int .u8 0, .int .u8 0, .int .u8 0, .int .u8 0, .int .u8 0, .int .u8 0] hb3 (by simp)) ?_
  rintro W4 ⟨hb4, ch4⟩
  replace hb4 : W4.heap[w.heap.size]? = some (.cells #[.int .u8 (((Mur.u64n n) / 72057594037927936 % 256 : Nat) : Int), .int .u8 (((Mur.u64n n) / 281474976710656 % 256 : Nat) : Int), .int .u8 (((Mur.u64n n) / 1099511627776 % 256 : Nat) : Int), .int .u8 0, .int .u8 0, .int .u8 0, .int .u8 0, .int .u8 0] 127 (0, 0)) := hb4
  have zz4 := ch4.size
  refine Wk.rEnd 10 rfl ?_
  refine Wk.inN ?_
  refine Wk.nxt ?_
  refine Wk.reg ?_
  refine Wk.rPure 0 (some 16) (.int .i64 3) rfl rfl (by kernel_rfl) (Wk.int64 (n := 2 + 1) (z := 3) (by omega) (by omega) (by omega) (by kernel_rfl)) ?_
  refine Wk.rPure 1 (some 4) (.int .i64 3) rfl rfl (by kernel_rfl) (by kernel_rfl) ?_
  refine Wk.rEnd 2 rfl ?_
  refine Wk.nxt ?_
  refine Wk.rdS ?_
  refine wp_seq ?_
  refine Wk.reg ?_
  refine Wk.rPure 0 (some 5) (.bool true) rfl rfl (by kernel_rfl) (Wk.boolT (b := decide ((3 : Int) < (8 : Int))) (decide_eq_true (by decide)) (by kernel_rfl)) ?_
  refine Wk.rEnd 1 rfl ?_
  refine Wk.nxt ?_
  refine wp_seq ?_
  refine wp_cond_true (by kernel_rfl) ?_
  refine wp_skip ?_
  refine Wk.nxt ?_
  refine wp_seq ?_
  refine wp_block ?_
  refine wp_seq ?_
  refine Wk.reg ?_
  refine Wk.rPure 0 (some 6) (.int .i64 3) rfl rfl (by kernel_rfl) (by kernel_rfl) ?_
  refine Wk.rPure 1 (some 3) (.int .i64 3) rfl rfl (by kernel_rfl) (by kernel_rfl) ?_
  refine Wk.rEnd 2 rfl ?_
  refine Wk.nxt ?_
  refine Wk.reg ?_
  refine Wk.rPure 0 (some 7) (.int .i64 3) rfl rfl (by kernel_rfl) (by kernel_rfl) ?_
  refine Wk.rPure 1 (some 8) (.int .i64 n) rfl rfl (by kernel_rfl) (by kernel_rfl) ?_
  refine Wk.rPure 2 (some 9) (.int .u64 ((Mur.u64n n : Nat) : Int)) rfl rfl (by kernel_rfl) (Mur.conv_u64n 3 26 (.tmp 8) rfl (by kernel_rfl) Tryd.underlying26 .i64 n (by kernel_rfl)) ?_
  refine Wk.rPure 3 (some 10) (.int .i64 3) rfl rfl (by kernel_rfl) (by kernel_rfl) ?_
  refine Wk.rPure 4 (some 11) (.int .i64 24) rfl rfl (by kernel_rfl) (Wk.int64 (n := 8 * 3) (z := 24) (by omega) (by omega) (by omega) (by kernel_rfl)) ?_
  refine Wk.rPure 5 (some 12) (.int .i64 32) rfl rfl (by kernel_rfl) (Wk.int64 (n := 56 - 24) (z := 32) (by omega) (by omega) (by omega) (by kernel_rfl)) ?_
  refine Wk.rPure 6 (some 13) (.int .u64 (((Mur.u64n n) / 4294967296 : Nat) : Int)) rfl rfl (by kernel_rfl) (Mur.shr64 26 3 (.tmp 9) (.tmp 12) rfl (Mur.u64n n) 32 .i64 (by kernel_rfl) (by kernel_rfl) (by omega) 4294967296 rfl) ?_
  refine Wk.rPure 7 (some 14) (.int .u8 (((Mur.u64n n) / 4294967296 % 256 : Nat) : Int)) rfl rfl (by kernel_rfl) (Mur.conv_u8 26 5 (.tmp 13) rfl (by kernel_rfl) Tryd.underlying5 .u64 ((Mur.u64n n) / 4294967296) (by kernel_rfl)) ?_
  refine Wk.rPure 8 (some 15) (.pointer (some ⟨w.heap.size, 3, none⟩)) rfl rfl (by kernel_rfl) (Wk.index_arr 127 5 (.tmp 2) (.tmp 7) rfl 8 Tryd.underlying127 1 (by kernel_rfl) w.heap.size 0 3 .i64 (by kernel_rfl) (by kernel_rfl) (by decide)) ?_
  refine Wk.rExS 9 none _ rfl rfl (by kernel_rfl) (Wk.store1 5 (.tmp 15) (.tmp 14) rfl (by kernel_rfl) w.heap.size 3 (by kernel_rfl) (.int .u8 (((Mur.u64n n) / 4294967296 % 256 : Nat) : Int)) (by kernel_rfl) rfl 127 #[.int .u8 (((Mur.u64n n) / 72057594037927936 % 256 : Nat) : Int), .int .u8 (((Mur.u64n n) / 281474976710656 % 256 : Nat) : Int), .int .u8 (((Mur.u64n n) / 1099511627776 % 256 : Nat) : Int), .int .u8 0, .int .u8 0, .int .u8 0, .int .u8 0, .int .u8 0] hb4 (by simp)) ?_
  rintro W5 ⟨hb5, ch5⟩
  replace hb5 : W5.heap[w.heap.size]? = some (.cells #[.int .u8 (((Mur.u64n n) / 72057594037927936 % 256 : Nat) : Int), .int .u8 (((Mur.u64n n) / 281474976710656 % 256 : Nat) : Int), .int .u8 (((Mur.u64n n) / 1099511627776 % 256 : Nat) : Int), .int .u8 (((Mur.u64n n) / 4294967296 % 256 : Nat) : Int), .int .u8 0, .int .u8 0, .int .u8 0, .int .u8 0] 127 (0, 0)) := hb5
  have zz5 := ch5.size
  refine Wk.rEnd 10 rfl ?_
  refine Wk.inN ?_
  refine Wk.nxt ?_
  refine Wk.reg ?_
  refine Wk.rPure 0 (some 16) (.int .i64 4) rfl rfl (by kernel_rfl) (Wk.int64 (n := 3 + 1) (z := 4) (by omega) (by omega) (by omega) (by kernel_rfl)) ?_
  refine Wk.rPure 1 (some 4) (.int .i64 4) rfl rfl (by kernel_rfl) (by kernel_rfl) ?_
  refine Wk.rEnd 2 rfl ?_
  refine Wk.nxt ?_
  refine Wk.rdS ?_
  refine wp_seq ?_
  refine Wk.reg ?_
  refine Wk.rPure 0 (some 5) (.bool true) rfl rfl (by kernel_rfl) (Wk.boolT (b := decide ((4 : Int) < (8 : Int))) (decide_eq_true (by decide)) (by kernel_rfl)) ?_
  refine Wk.rEnd 1 rfl ?_
  refine Wk.nxt ?_
  refine wp_seq ?_
  refine wp_cond_true (by kernel_rfl) ?_
  refine wp_skip ?_
  refine Wk.nxt ?_
  refine wp_seq ?_
  refine wp_block ?_
  refine wp_seq ?_
  refine Wk.reg ?_
  refine Wk.rPure 0 (some 6) (.int .i64 4) rfl rfl (by kernel_rfl) (by kernel_rfl) ?_
  refine Wk.rPure 1 (some 3) (.int .i64 4) rfl rfl (by kernel_rfl) (by kernel_rfl) ?_
  refine Wk.rEnd 2 rfl ?_
  refine Wk.nxt ?_
  refine Wk.reg ?_
  refine Wk.rPure 0 (some 7) (.int .i64 4) rfl rfl (by kernel_rfl) (by kernel_rfl) ?_
  refine Wk.rPure 1 (some 8) (.int .i64 n) rfl rfl (by kernel_rfl) (by kernel_rfl) ?_
  refine Wk.rPure 2 (some 9) (.int .u64 ((Mur.u64n n : Nat) : Int)) rfl rfl (by kernel_rfl) (Mur.conv_u64n 3 26 (.tmp 8) rfl (by kernel_rfl) Tryd.underlying26 .i64 n (by kernel_rfl)) ?_
  refine Wk.rPure 3 (some 10) (.int .i64 4) rfl rfl (by kernel_rfl) (by kernel_rfl) ?_
  refine Wk.rPure 4 (some 11) (.int .i64 32) rfl rfl (by kernel_rfl) (Wk.int64 (n := 8 * 4) (z := 32) (by omega) (by omega) (by omega) (by kernel_rfl)) ?_
  refine Wk.rPure 5 (some 12) (.int .i64 24) rfl rfl (by kernel_rfl) (Wk.int64 (n := 56 - 32) (z := 24) (by omega) (by omega) (by omega) (by kernel_rfl)) ?_
  refine Wk.rPure 6 (some 13) (.int .u64 (((Mur.u64n n) / 16777216 : Nat) : Int)) rfl rfl (by kernel_rfl) (Mur.shr64 26 3 (.tmp 9) (.tmp 12) rfl (Mur.u64n n) 24 .i64 (by kernel_rfl) (by kernel_rfl) (by omega) 16777216 rfl) ?_
  refine Wk.rPure 7 (some 14) (.int .u8 (((Mur.u64n n) / 16777216 % 256 : Nat) : Int)) rfl rfl (by kernel_rfl) (Mur.conv_u8 26 5 (.tmp 13) rfl (by kernel_rfl) Tryd.underlying5 .u64 ((Mur.u64n n) / 16777216) (by kernel_rfl)) ?_
  refine Wk.rPure 8 (some 15) (.pointer (some ⟨w.heap.size, 4, none⟩)) rfl rfl (by kernel_rfl) (Wk.index_arr 127 5 (.tmp 2) (.tmp 7) rfl 8 Tryd.underlying127 1 (by kernel_rfl) w.heap.size 0 4 .i64 (by kernel_rfl) (by kernel_rfl) (by decide)) ?_
  refine Wk.rExS 9 none _ rfl rfl (by kernel_rfl) (Wk.store1 5 (.tmp 15) (.tmp 14) rfl (by kernel_rfl) w.heap.size 4 (by kernel_rfl) (.int .u8 (((Mur.u64n n) / 16777216 % 256 : Nat) : Int)) (by kernel_rfl) rfl 127 #[.int .u8 (((Mur.u64n n) / 72057594037927936 % 256 : Nat) : Int), .int .u8 (((Mur.u64n n) / 281474976710656 % 256 : Nat) : Int), .int .u8 (((Mur.u64n n) / 1099511627776 % 256 : Nat) : Int), .int .u8 (((Mur.u64n n) / 4294967296 % 256 : Nat) : Int), .int .u8 0, .int .u8 0, .int .u8 0, .int .u8 0] hb5 (by simp)) ?_
  rintro W6 ⟨hb6, ch6⟩
  replace hb6 : W6.heap[w.heap.size]? = some (.cells #[.int .u8 (((Mur.u64n n) / 72057594037927936 % 256 : Nat) : Int), .int .u8 (((Mur.u64n n) / 281474976710656 % 256 : Nat) : Int), .int .u8 (((Mur.u64n n) / 1099511627776 % 256 : Nat) : Int), .int .u8 (((Mur.u64n n) / 4294967296 % 256 : Nat) : Int), .int .u8 (((Mur.u64n n) / 16777216 % 256 : Nat) : Int), .int .u8 0, .int .u8 0, .int .u8 0] 127 (0, 0)) := hb6
  have zz6 := ch6.size
  refine Wk.rEnd 10 rfl ?_
  refine Wk.inN ?_
  refine Wk.nxt ?_
  refine Wk.reg ?_
  refine Wk.rPure 0 (some 16) (.int .i64 5) rfl rfl (by kernel_rfl) (Wk.int64 (n := 4 + 1) (z := 5) (by omega) (by omega) (by omega) (by kernel_rfl)) ?_
  refine Wk.rPure 1 (some 4) (.int .i64 5) rfl rfl (by kernel_rfl) (by kernel_rfl) ?_
  refine Wk.rEnd 2 rfl ?_
  refine Wk.nxt ?_
  refine Wk.rdS ?_
  refine wp_seq ?_
  refine Wk.reg ?_
  refine Wk.rPure 0 (some 5) (.bool true) rfl rfl (by kernel_rfl) (Wk.boolT (b := decide ((5 : Int) < (8 : Int))) (decide_eq_true (by decide)) (by kernel_rfl)) ?_
  refine Wk.rEnd 1 rfl ?_
  refine Wk.nxt ?_
  refine wp_seq ?_
  refine wp_cond_true (by kernel_rfl) ?_
  refine wp_skip ?_
  refine Wk.nxt ?_
  refine wp_seq ?_
  refine wp_block ?_
  refine wp_seq ?_
  refine Wk.reg ?_
  refine Wk.rPure 0 (some 6) (.int .i64 5) rfl rfl (by kernel_rfl) (by kernel_rfl) ?_
  refine Wk.rPure 1 (some 3) (.int .i64 5) rfl rfl (by kernel_rfl) (by kernel_rfl) ?_
  refine Wk.rEnd 2 rfl ?_
  refine Wk.nxt ?_
  refine Wk.reg ?_
  refine Wk.rPure 0 (some 7) (.int .i64 5) rfl rfl (by kernel_rfl) (by kernel_rfl) ?_
  refine Wk.rPure 1 (some 8) (.int .i64 n) rfl rfl (by kernel_rfl) (by kernel_rfl) ?_
  refine Wk.rPure 2 (some 9) (.int .u64 ((Mur.u64n n : Nat) : Int)) rfl rfl (by kernel_rfl) (Mur.conv_u64n 3 26 (.tmp 8) rfl (by kernel_rfl) Tryd.underlying26 .i64 n (by kernel_rfl)) ?_
  refine Wk.rPure 3 (some 10) (.int .i64 5) rfl rfl (by kernel_rfl) (by kernel_rfl) ?_
  refine Wk.rPure 4 (some 11) (.int .i64 40) rfl rfl (by kernel_rfl) (Wk.int64 (n := 8 * 5) (z := 40) (by omega) (by omega) (by omega) (by kernel_rfl)) ?_
  refine Wk.rPure 5 (some 12) (.int .i64 16) rfl rfl (by kernel_rfl) (Wk.int64 (n := 56 - 40) (z := 16) (by omega) (by omega) (by omega) (by kernel_rfl)) ?_
  refine Wk.rPure 6 (some 13) (.int .u64 (((Mur.u64n n) / 65536 : Nat) : Int)) rfl rfl (by kernel_rfl) (Mur.shr64 26 3 (.tmp 9) (.tmp 12) rfl (Mur.u64n n) 16 .i64 (by kernel_rfl) (by kernel_rfl) (by omega) 65536 rfl) ?_
  refine Wk.rPure 7 (some 14) (.int .u8 (((Mur.u64n n) / 65536 % 256 : Nat) : Int)) rfl rfl (by kernel_rfl) (Mur.conv_u8 26 5 (.tmp 13) rfl (by kernel_rfl) Tryd.underlying5 .u64 ((Mur.u64n n) / 65536) (by kernel_rfl)) ?_
  refine Wk.rPure 8 (some 15) (.pointer (some ⟨w.heap.size, 5, none⟩)) rfl rfl (by kernel_rfl) (Wk.index_arr 127 5 (.tmp 2) (.tmp 7) rfl 8 Tryd.underlying127 1 (by kernel_rfl) w.heap.size 0 5 .i64 (by kernel_rfl) (by kernel_rfl) (by decide)) ?_
  refine Wk.rExS 9 none _ rfl rfl (by kernel_rfl) (Wk.store1 5 (.tmp 15) (.tmp 14) rfl (by kernel_rfl) w.heap.size 5 (by kernel_rfl) (.int .u8 (((Mur.u64n n) / 65536 % 256 : Nat) : Int)) (by kernel_rfl) rfl 127 #[.int .u8 (((Mur.u64n n) / 72057594037927936 % 256 : Nat) : Int), .int .u8 (((Mur.u64n n) / 281474976710656 % 256 : Nat) : Int), .int .u8 (((Mur.u64n n) / 1099511627776 % 256 : Nat) : Int), .int .u8 (((Mur.u64n n) / 4294967296 % 256 : Nat) : Int), .int .u8 (((Mur.u64n n) / 16777216 % 256 : Nat) : Int), .int .u8 0, .int .u8 0, .int .u8 0] hb6 (by simp)) ?_
  rintro W7 ⟨hb7, ch7⟩
  replace hb7 : W7.heap[w.heap.size]? = some (.cells #[.int .u8 (((Mur.u64n n) / 72057594037927936 % 256 : Nat) : Int), .int .u8 (((Mur.u64n n) / 281474976710656 % 256 : Nat) : Int), .int .u8 (((Mur.u64n n) / 1099511627776 % 256 : Nat) : Int), .int .u8 (((Mur.u64n n) / 4294967296 % 256 : Nat) : Int), .int .u8 (((Mur.u64n n) / 16777216 % 256 : Nat) : Int), .int .u8 (((Mur.u64n n) / 65536 % 256 : Nat) : Int), .int .u8 0, .int .u8 0] 127 (0, 0)) := hb7
  have zz7 := ch7.size
  refine Wk.rEnd 10 rfl ?_
  refine Wk.inN ?_
  refine Wk.nxt ?_
  refine Wk.reg ?_
  refine Wk.rPure 0 (some 16) (.int .i64 6) rfl rfl (by kernel_rfl) (Wk.int64 (n := 5 + 1) (z := 6) (by omega) (by omega) (by omega) (by kernel_rfl)) ?_
  refine Wk.rPure 1 (some 4) (.int .i64 6) rfl rfl (by kernel_rfl) (by kernel_rfl) ?_
  refine Wk.rEnd 2 rfl ?_
  refine Wk.nxt ?_
  refine Wk.rdS ?_
  refine wp_seq ?_
  refine Wk.reg ?_
  refine Wk.rPure 0 (some 5) (.bool true) rfl rfl (by kernel_rfl) (Wk.boolT (b := decide ((6 : Int) < (8 : Int))) (decide_eq_true (by decide)) (by kernel_rfl)) ?_
  refine Wk.rEnd 1 rfl ?_
  refine Wk.nxt ?_
  refine wp_seq ?_
  refine wp_cond_true (by kernel_rfl) ?_
  refine wp_skip ?_
  refine Wk.nxt ?_
  refine wp_seq ?_
  refine wp_block ?_
  refine wp_seq ?_
  refine Wk.reg ?_
  refine Wk.rPure 0 (some 6) (.int .i64 6) rfl rfl (by kernel_rfl) (by kernel_rfl) ?_
  refine Wk.rPure 1 (some 3) (.int .i64 6) rfl rfl (by kernel_rfl) (by kernel_rfl) ?_
  refine Wk.rEnd 2 rfl ?_
  refine Wk.nxt ?_
  refine Wk.reg ?_
  refine Wk.rPure 0 (some 7) (.int .i64 6) rfl rfl (by kernel_rfl) (by kernel_rfl) ?_
  refine Wk.rPure 1 (some 8) (.int .i64 n) rfl rfl (by kernel_rfl) (by kernel_rfl) ?_
  refine Wk.rPure 2 (some 9) (.int .u64 ((Mur.u64n n : Nat) : Int)) rfl rfl (by kernel_rfl) (Mur.conv_u64n 3 26 (.tmp 8) rfl (by kernel_rfl) Tryd.underlying26 .i64 n (by kernel_rfl)) ?_
  refine Wk.rPure 3 (some 10) (.int .i64 6) rfl rfl (by kernel_rfl) (by kernel_rfl) ?_
  refine Wk.rPure 4 (some 11) (.int .i64 48) rfl rfl (by kernel_rfl) (Wk.int64 (n := 8 * 6) (z := 48) (by omega) (by omega) (by omega) (by kernel_rfl)) ?_
  refine Wk.rPure 5 (some 12) (.int .i64 8) rfl rfl (by kernel_rfl) (Wk.int64 (n := 56 - 48) (z := 8) (by omega) (by omega) (by omega) (by kernel_rfl)) ?_
  refine Wk.rPure 6 (some 13) (.int .u64 (((Mur.u64n n) / 256 : Nat) : Int)) rfl rfl (by kernel_rfl) (Mur.shr64 26 3 (.tmp 9) (.tmp 12) rfl (Mur.u64n n) 8 .i64 (by kernel_rfl) (by kernel_rfl) (by omega) 256 rfl) ?_
  refine Wk.rPure 7 (some 14) (.int .u8 (((Mur.u64n n) / 256 % 256 : Nat) : Int)) rfl rfl (by kernel_rfl) (Mur.conv_u8 26 5 (.tmp 13) rfl (by kernel_rfl) Tryd.underlying5 .u64 ((Mur.u64n n) / 256) (by kernel_rfl)) ?_
  refine Wk.rPure 8 (some 15) (.pointer (some ⟨w.heap.size, 6, none⟩)) rfl rfl (by kernel_rfl) (Wk.index_arr 127 5 (.tmp 2) (.tmp 7) rfl 8 Tryd.underlying127 1 (by kernel_rfl) w.heap.size 0 6 .i64 (by kernel_rfl) (by kernel_rfl) (by decide)) ?_
  refine Wk.rExS 9 none _ rfl rfl (by kernel_rfl) (Wk.store1 5 (.tmp 15) (.tmp 14) rfl (by kernel_rfl) w.heap.size 6 (by kernel_rfl) (.int .u8 (((Mur.u64n n) / 256 % 256 : Nat) : Int)) (by kernel_rfl) rfl 127 #[.int .u8 (((Mur.u64n n) / 72057594037927936 % 256 : Nat) : Int), .int .u8 (((Mur.u64n n) / 281474976710656 % 256 : Nat) : Int), .int .u8 (((Mur.u64n n) / 1099511627776 % 256 : Nat) : Int), .int .u8 (((Mur.u64n n) / 4294967296 % 256 : Nat) : Int), .int .u8 (((Mur.u64n n) / 16777216 % 256 : Nat) : Int), .int .u8 (((Mur.u64n n) / 65536 % 256 : Nat) : Int), .int .u8 0, .int .u8 0] hb7 (by simp)) ?_
  rintro W8 ⟨hb8, ch8⟩
  replace hb8 : W8.heap[w.heap.size]? = some (.cells #[.int .u8 (((Mur.u64n n) / 72057594037927936 % 256 : Nat) : Int), .int .u8 (((Mur.u64n n) / 281474976710656 % 256 : Nat) : Int), .int .u8 (((Mur.u64n n) / 1099511627776 % 256 : Nat) : Int), .int .u8 (((Mur.u64n n) / 4294967296 % 256 : Nat) : Int), .int .u8 (((Mur.u64n n) / 16777216 % 256 : Nat) : Int), .int .u8 (((Mur.u64n n) / 65536 % 256 : Nat) : Int), .int .u8 (((Mur.u64n n) / 256 % 256 : Nat) : Int), .int .u8 0] 127 (0, 0)) := hb8
  have zz8 := ch8.size
  refine Wk.rEnd 10 rfl ?_
  refine Wk.inN ?_
  refine Wk.nxt ?_
  refine Wk.reg ?_
  refine Wk.rPure 0 (some 16) (.int .i64 7) rfl rfl (by kernel_rfl) (Wk.int64 (n := 6 + 1) (z := 7) (by omega) (by omega) (by omega) (by kernel_rfl)) ?_
  refine Wk.rPure 1 (some 4) (.int .i64 7) rfl rfl (by kernel_rfl) (by kernel_rfl) ?_
  refine Wk.rEnd 2 rfl ?_
  refine Wk.nxt ?_
  refine Wk.rdS ?_
  refine wp_seq ?_
  refine Wk.reg ?_
  refine Wk.rPure 0 (some 5) (.bool true) rfl rfl (by kernel_rfl) (Wk.boolT (b := decide ((7 : Int) < (8 : Int))) (decide_eq_true (by decide)) (by kernel_rfl)) ?_
  refine Wk.rEnd 1 rfl ?_
  refine Wk.nxt ?_
  refine wp_seq ?_
  refine wp_cond_true (by kernel_rfl) ?_
  refine wp_skip ?_
  refine Wk.nxt ?_
  refine wp_seq ?_
  refine wp_block ?_
  refine wp_seq ?_
  refine Wk.reg ?_
  refine Wk.rPure 0 (some 6) (.int .i64 7) rfl rfl (by kernel_rfl) (by kernel_rfl) ?_
  refine Wk.rPure 1 (some 3) (.int .i64 7) rfl rfl (by kernel_rfl) (by kernel_rfl) ?_
  refine Wk.rEnd 2 rfl ?_
  refine Wk.nxt ?_
  refine Wk.reg ?_
  refine Wk.rPure 0 (some 7) (.int .i64 7) rfl rfl (by kernel_rfl) (by kernel_rfl) ?_
  refine Wk.rPure 1 (some 8) (.int .i64 n) rfl rfl (by kernel_rfl) (by kernel_rfl) ?_
  refine Wk.rPure 2 (some 9) (.int .u64 ((Mur.u64n n : Nat) : Int)) rfl rfl (by kernel_rfl) (Mur.conv_u64n 3 26 (.tmp 8) rfl (by kernel_rfl) Tryd.underlying26 .i64 n (by kernel_rfl)) ?_
  refine Wk.rPure 3 (some 10) (.int .i64 7) rfl rfl (by kernel_rfl) (by kernel_rfl) ?_
  refine Wk.rPure 4 (some 11) (.int .i64 56) rfl rfl (by kernel_rfl) (Wk.int64 (n := 8 * 7) (z := 56) (by omega) (by omega) (by omega) (by kernel_rfl)) ?_
  refine Wk.rPure 5 (some 12) (.int .i64 0) rfl rfl (by kernel_rfl) (Wk.int64 (n := 56 - 56) (z := 0) (by omega) (by omega) (by omega) (by kernel_rfl)) ?_
  refine Wk.rPure 6 (some 13) (.int .u64 (((Mur.u64n n) / 1 : Nat) : Int)) rfl rfl (by kernel_rfl) (Mur.shr64 26 3 (.tmp 9) (.tmp 12) rfl (Mur.u64n n) 0 .i64 (by kernel_rfl) (by kernel_rfl) (by omega) 1 rfl) ?_
  refine Wk.rPure 7 (some 14) (.int .u8 (((Mur.u64n n) / 1 % 256 : Nat) : Int)) rfl rfl (by kernel_rfl) (Mur.conv_u8 26 5 (.tmp 13) rfl (by kernel_rfl) Tryd.underlying5 .u64 ((Mur.u64n n) / 1) (by kernel_rfl)) ?_
  refine Wk.rPure 8 (some 15) (.pointer (some ⟨w.heap.size, 7, none⟩)) rfl rfl (by kernel_rfl) (Wk.index_arr 127 5 (.tmp 2) (.tmp 7) rfl 8 Tryd.underlying127 1 (by kernel_rfl) w.heap.size 0 7 .i64 (by kernel_rfl) (by kernel_rfl) (by decide)) ?_
  refine Wk.rExS 9 none _ rfl rfl (by kernel_rfl) (Wk.store1 5 (.tmp 15) (.tmp 14) rfl (by kernel_rfl) w.heap.size 7 (by kernel_rfl) (.int .u8 (((Mur.u64n n) / 1 % 256 : Nat) : Int)) (by kernel_rfl) rfl 127 #[.int .u8 (((Mur.u64n n) / 72057594037927936 % 256 : Nat) : Int), .int .u8 (((Mur.u64n n) / 281474976710656 % 256 : Nat) : Int), .int .u8 (((Mur.u64n n) / 1099511627776 % 256 : Nat) : Int), .int .u8 (((Mur.u64n n) / 4294967296 % 256 : Nat) : Int), .int .u8 (((Mur.u64n n) / 16777216 % 256 : Nat) : Int), .int .u8 (((Mur.u64n n) / 65536 % 256 : Nat) : Int), .int .u8 (((Mur.u64n n) / 256 % 256 : Nat) : Int), .int .u8 0] hb8 (by simp)) ?_
  rintro W9 ⟨hb9, ch9⟩
  replace hb9 : W9.heap[w.heap.size]? = some (.cells #[.int .u8 (((Mur.u64n n) / 72057594037927936 % 256 : Nat) : Int), .int .u8 (((Mur.u64n n) / 281474976710656 % 256 : Nat) : Int), .int .u8 (((Mur.u64n n) / 1099511627776 % 256 : Nat) : Int), .int .u8 (((Mur.u64n n) / 4294967296 % 256 : Nat) : Int), .int .u8 (((Mur.u64n n) / 16777216 % 256 : Nat) : Int), .int .u8 (((Mur.u64n n) / 65536 % 256 : Nat) : Int), .int .u8 (((Mur.u64n n) / 256 % 256 : Nat) : Int), .int .u8 (((Mur.u64n n) / 1 % 256 : Nat) : Int)] 127 (0, 0)) := hb9
  have zz9 := ch9.size
  refine Wk.rEnd 10 rfl ?_
  refine Wk.inN ?_
  refine Wk.nxt ?_
  refine Wk.reg ?_
  refine Wk.rPure 0 (some 16) (.int .i64 8) rfl rfl (by kernel_rfl) (Wk.int64 (n := 7 + 1) (z := 8) (by omega) (by omega) (by omega) (by kernel_rfl)) ?_
  refine Wk.rPure 1 (some 4) (.int .i64 8) rfl rfl (by kernel_rfl) (by kernel_rfl) ?_
  refine Wk.rEnd 2 rfl ?_
  refine Wk.nxt ?_
  refine Wk.rdS ?_
  refine wp_seq ?_
  refine Wk.reg ?_
  refine Wk.rPure 0 (some 5) (.bool false) rfl rfl (by kernel_rfl) (Wk.boolF (b := decide ((8 : Int) < (8 : Int))) (decide_eq_false (by decide)) (by kernel_rfl)) ?_
  refine Wk.rEnd 1 rfl ?_
  refine Wk.nxt ?_
  refine wp_seq ?_
  refine wp_cond_false (by kernel_rfl) ?_
  refine wp_exit ?_
  refine Wk.thX ?_
  refine Wk.thX ?_
  refine Wk.inX ?_
  refine Wk.nxt ?_
  refine wp_seq ?_
  refine Wk.reg ?_
  refine Wk.rPure 0 (some 17) (.agg #[.int .u8 (((Mur.u64n n) / 72057594037927936 % 256 : Nat) : Int), .int .u8 (((Mur.u64n n) / 281474976710656 % 256 : Nat) : Int), .int .u8 (((Mur.u64n n) / 1099511627776 % 256 : Nat) : Int), .int .u8 (((Mur.u64n n) / 4294967296 % 256 : Nat) : Int), .int .u8 (((Mur.u64n n) / 16777216 % 256 : Nat) : Int), .int .u8 (((Mur.u64n n) / 65536 % 256 : Nat) : Int), .int .u8 (((Mur.u64n n) / 256 % 256 : Nat) : Int), .int .u8 (((Mur.u64n n) / 1 % 256 : Nat) : Int)]) rfl rfl (by kernel_rfl) (Wk.loadR 127 (.tmp 2) rfl _ Tryd.underlying127 rfl w.heap.size 0 (by kernel_rfl) ([.int .u8 (((Mur.u64n n) / 72057594037927936 % 256 : Nat) : Int), .int .u8 (((Mur.u64n n) / 281474976710656 % 256 : Nat) : Int), .int .u8 (((Mur.u64n n) / 1099511627776 % 256 : Nat) : Int), .int .u8 (((Mur.u64n n) / 4294967296 % 256 : Nat) : Int), .int .u8 (((Mur.u64n n) / 16777216 % 256 : Nat) : Int), .int .u8 (((Mur.u64n n) / 65536 % 256 : Nat) : Int), .int .u8 (((Mur.u64n n) / 256 % 256 : Nat) : Int), .int .u8 (((Mur.u64n n) / 1 % 256 : Nat) : Int)]) (by kernel_rfl) (Wk.range_row hb9)) ?_
  refine Wk.rExS 1 none _ rfl rfl (by kernel_rfl) (Wk.storeR 127 (.tmp 2) (.tmp 17) rfl w.heap.size 0 (by kernel_rfl) ([.int .u8 (((Mur.u64n n) / 72057594037927936 % 256 : Nat) : Int), .int .u8 (((Mur.u64n n) / 281474976710656 % 256 : Nat) : Int), .int .u8 (((Mur.u64n n) / 1099511627776 % 256 : Nat) : Int), .int .u8 (((Mur.u64n n) / 4294967296 % 256 : Nat) : Int), .int .u8 (((Mur.u64n n) / 16777216 % 256 : Nat) : Int), .int .u8 (((Mur.u64n n) / 65536 % 256 : Nat) : Int), .int .u8 (((Mur.u64n n) / 256 % 256 : Nat) : Int), .int .u8 (((Mur.u64n n) / 1 % 256 : Nat) : Int)]) (by kernel_rfl) (by kernel_rfl) (by intro v hv; simp at hv; rcases hv with h | h | h | h | h | h | h | h <;> (subst h; rfl)) 127 ([.int .u8 (((Mur.u64n n) / 72057594037927936 % 256 : Nat) : Int), .int .u8 (((Mur.u64n n) / 281474976710656 % 256 : Nat) : Int), .int .u8 (((Mur.u64n n) / 1099511627776 % 256 : Nat) : Int), .int .u8 (((Mur.u64n n) / 4294967296 % 256 : Nat) : Int), .int .u8 (((Mur.u64n n) / 16777216 % 256 : Nat) : Int), .int .u8 (((Mur.u64n n) / 65536 % 256 : Nat) : Int), .int .u8 (((Mur.u64n n) / 256 % 256 : Nat) : Int), .int .u8 (((Mur.u64n n) / 1 % 256 : Nat) : Int)]) hb9 (by simp)) ?_
  rintro W10 ⟨hb10, ch10⟩
  replace hb10 : W10.heap[w.heap.size]? = some (.cells #[.int .u8 (((Mur.u64n n) / 72057594037927936 % 256 : Nat) : Int), .int .u8 (((Mur.u64n n) / 281474976710656 % 256 : Nat) : Int), .int .u8 (((Mur.u64n n) / 1099511627776 % 256 : Nat) : Int), .int .u8 (((Mur.u64n n) / 4294967296 % 256 : Nat) : Int), .int .u8 (((Mur.u64n n) / 16777216 % 256 : Nat) : Int), .int .u8 (((Mur.u64n n) / 65536 % 256 : Nat) : Int), .int .u8 (((Mur.u64n n) / 256 % 256 : Nat) : Int), .int .u8 (((Mur.u64n n) / 1 % 256 : Nat) : Int)] 127 (0, 0)) := hb10
  have zz10 := ch10.size
  refine Wk.rEnd 2 rfl ?_
  refine Wk.nxt ?_
  refine wp_ret ?_
  have kk1 : Wk.Chg [] w W1 := Wk.Chg.step ((Wk.Chg.refl _).more (by simp)) ch1 trivial
  have kk2 := Wk.Chg.step kk1 ch2 ⟨.inr (by omega), trivial⟩
  have kk3 := Wk.Chg.step kk2 ch3 ⟨.inr (by omega), trivial⟩
  have kk4 := Wk.Chg.step kk3 ch4 ⟨.inr (by omega), trivial⟩
  have kk5 := Wk.Chg.step kk4 ch5 ⟨.inr (by omega), trivial⟩
  have kk6 := Wk.Chg.step kk5 ch6 ⟨.inr (by omega), trivial⟩
  have kk7 := Wk.Chg.step kk6 ch7 ⟨.inr (by omega), trivial⟩
  have kk8 := Wk.Chg.step kk7 ch8 ⟨.inr (by omega), trivial⟩
  have kk9 := Wk.Chg.step kk8 ch9 ⟨.inr (by omega), trivial⟩
  have kk10 := Wk.Chg.step kk9 ch10 ⟨.inr (by omega), trivial⟩
  refine Wk.ret (.agg #[.int .u8 (((Mur.u64n n) / 72057594037927936 % 256 : Nat) : Int), .int .u8 (((Mur.u64n n) / 281474976710656 % 256 : Nat) : Int), .int .u8 (((Mur.u64n n) / 1099511627776 % 256 : Nat) : Int), .int .u8 (((Mur.u64n n) / 4294967296 % 256 : Nat) : Int), .int .u8 (((Mur.u64n n) / 16777216 % 256 : Nat) : Int), .int .u8 (((Mur.u64n n) / 65536 % 256 : Nat) : Int), .int .u8 (((Mur.u64n n) / 256 % 256 : Nat) : Int), .int .u8 (((Mur.u64n n) / 1 % 256 : Nat) : Int)]) rfl (results_cell_row rfl _ _ w.heap.size 127 #[.int .u8 (((Mur.u64n n) / 72057594037927936 % 256 : Nat) : Int), .int .u8 (((Mur.u64n n) / 281474976710656 % 256 : Nat) : Int), .int .u8 (((Mur.u64n n) / 1099511627776 % 256 : Nat) : Int), .int .u8 (((Mur.u64n n) / 4294967296 % 256 : Nat) : Int), .int .u8 (((Mur.u64n n) / 16777216 % 256 : Nat) : Int), .int .u8 (((Mur.u64n n) / 65536 % 256 : Nat) : Int), .int .u8 (((Mur.u64n n) / 256 % 256 : Nat) : Int), .int .u8 (((Mur.u64n n) / 1 % 256 : Nat) : Int)] (0, 0) _ (by kernel_rfl) hb10 Tryd.underlying127 rfl (by kernel_rfl)) ?_
  exact ⟨_, Go.Lib.hid rfl, Mur.e8_length _, by rw [Mur.e8_cells], kk10⟩
end Go.Proofs.YtfhneademopciaaDoor
namespace Go.Proofs.YtfhneademopciaaDoor
open Go.RowKit
open Mur (b8s Byt Own8 Seg Segs flat cutA attC)
set_option maxRecDepth 100000
set_option maxHeartbeats 4000000
theorem Reight_any (n : Int) (w : World) : Calls Tryd.prog 71 #[.int .i64 n] w fun e w' => ∃ q E, Hid (E = Mur.e8 (Mur.u64n n)) ∧ e = .returned (.slice (some ⟨q, 0, none⟩) 8 8) ∧ Byt w' (some ⟨q, 0, none⟩) 8 E ∧ (w.heap.size ≤ q ∧ q < w'.heap.size) ∧ Wk.Chg [] w w' := by
  refine calls_of_wp Tryd.func71 rfl ?_
  refine wp_seq ?_
  refine Wk.reg ?_
  refine Wk.rPure 0 (some 2) (.slice none 0 0) rfl rfl (by kernel_rfl) (by kernel_rfl) ?_
  refine Wk.rEnd 1 rfl ?_
  refine Wk.nxt ?_
  refine wp_seq ?_
  refine Wk.reg ?_
  refine Wk.rPure 0 (some 6) (.int .i64 n) rfl rfl (by kernel_rfl) (by kernel_rfl) ?_
  refine Wk.rPure 1 (some 7) (.int .u64 ((Mur.u64n n : Nat) : Int)) rfl rfl (by kernel_rfl) (Mur.conv_u64n 3 26 (.tmp 6) rfl (by kernel_rfl) Tryd.underlying26 .i64 n (by kernel_rfl)) ?_
  refine Wk.rPure 2 (some 3) (.int .u64 ((Mur.u64n n : Nat) : Int)) rfl rfl (by kernel_rfl) (by kernel_rfl) ?_
  refine Wk.rEnd 3 rfl ?_
  refine Wk.nxt ?_
  refine wp_seq ?_
  refine Wk.reg ?_
  refine Wk.rEx 0 (some 8) _ rfl rfl (by kernel_rfl) (Wk.new_ex (.slice (some ⟨w.heap.size, 0, none⟩) 8 8) #[.int .u8 0, .int .u8 0, .int .u8 0, .int .u8 0, .int .u8 0, .int .u8 0, .int .u8 0, .int .u8 0] 5 (by kernel_rfl)) ?_
  rintro _ W1 ⟨rfl, hb1, ch1, sz1⟩
  have zz1 := ch1.size
  refine Wk.rPure 1 (some 4) (.slice (some ⟨w.heap.size, 0, none⟩) 8 8) rfl rfl (by kernel_rfl) (by kernel_rfl) ?_
  refine Wk.rEnd 2 rfl ?_
  refine Wk.nxt ?_
  refine wp_seq ?_
  refine wp_seq ?_
  refine Wk.reg ?_
  refine Wk.rPure 0 (some 5) (.int .i64 7) rfl rfl (by kernel_rfl) (by kernel_rfl) ?_
  refine Wk.rEnd 1 rfl ?_
  refine Wk.nxt ?_
  refine wp_block ?_
  refine Wk.loopN 9 ?_
  refine Wk.rdS ?_
  refine wp_seq ?_
  refine wp_seq ?_
  refine Wk.reg ?_
  refine Wk.rPure 0 (some 9) (.int .i64 7) rfl rfl (by kernel_rfl) (by kernel_rfl) ?_
  refine Wk.rPure 1 (some 10) (.bool true) rfl rfl (by kernel_rfl) (Wk.boolT (b := decide ((7 : Int) ≥ (0 : Int))) (decide_eq_true (by decide)) (by kernel_rfl)) ?_
  refine Wk.rEnd 2 rfl ?_
  refine Wk.nxt ?_
  refine wp_cond_true (by kernel_rfl) ?_
  refine wp_skip ?_
  refine Wk.nxt ?_
  refine wp_seq ?_
  refine wp_block ?_
  refine wp_seq ?_
  refine Wk.reg ?_
  refine Wk.rPure 0 (some 13) (.slice (some ⟨w.heap.size, 0, none⟩) 8 8) rfl rfl (by kernel_rfl) (by kernel_rfl) ?_
  refine Wk.rPure 1 (some 14) (.int .i64 7) rfl rfl (by kernel_rfl) (by kernel_rfl) ?_
  refine Wk.rPure 2 (some 15) (.int .u64 ((Mur.u64n n : Nat) : Int)) rfl rfl (by kernel_rfl) (by kernel_rfl) ?_
  refine Wk.rPure 3 (some 16) (.int .u64 ((Mur.u64n n % 256 : Nat) : Int)) rfl rfl (by kernel_rfl) (Mur.rem_u64 26 26 (.tmp 15) (.const (.int .u64 256)) rfl (Mur.u64n n) 256 (by kernel_rfl) (by kernel_rfl) (by omega)) ?_
  refine Wk.rPure 4 (some 17) (.int .u8 ((Mur.u64n n % 256 : Nat) : Int)) rfl rfl (by kernel_rfl) (Mur.conv_int 26 5 (.tmp 16) rfl (by kernel_rfl) .u8 Tryd.underlying5 .u64 ((Mur.u64n n % 256 : Nat) : Int) (by kernel_rfl) (by rw [Mur.u8_mod]; omega)) ?_
  refine Wk.rPure 5 (some 18) (.pointer (some ⟨w.heap.size, 7, none⟩)) rfl rfl (by kernel_rfl) (Wk.index_sl 38 5 (.tmp 13) (.tmp 14) rfl Tryd.underlying38 1 (by kernel_rfl) w.heap.size 0 8 8 7 .i64 (by kernel_rfl) (by kernel_rfl) (by omega)) ?_
  refine Wk.rExS 6 none _ rfl rfl (by kernel_rfl) (Wk.store1 5 (.tmp 18) (.tmp 17) rfl (by kernel_rfl) w.heap.size 7 (by kernel_rfl) (.int .u8 ((Mur.u64n n % 256 : Nat) : Int)) (by kernel_rfl) rfl 5 #[.int .u8 0, .int .u8 0, .int .u8 0, .int .u8 0, .int .u8 0, .int .u8 0, .int .u8 0, .int .u8 0] hb1 (by simp)) ?_
  rintro W2 ⟨hb2, ch2⟩
  replace hb2 : W2.heap[w.heap.size]? = some (.cells #[.int .u8 0, .int .u8 0, .int .u8 0, .int .u8 0, .int .u8 0, .int .u8 0, .int .u8 0, .int .u8 ((Mur.u64n n % 256 : Nat) : Int)] 5 (0, 0)) := hb2
  have zz2 := ch2.size
  refine Wk.rEnd 7 rfl ?_
  refine Wk.nxt ?_
  refine Wk.reg ?_
  refine Wk.rPure 0 (some 19) (.int .u64 ((Mur.u64n n : Nat) : Int)) rfl rfl (by kernel_rfl) (by kernel_rfl) ?_
  refine Wk.rPure 1 (some 20) (.int .u64 ((Mur.u64n n / 256 : Nat) : Int)) rfl rfl (by kernel_rfl) (Mur.quo_u64 26 26 (.tmp 19) (.const (.int .u64 256)) rfl (Mur.u64n n) 256 (by kernel_rfl) (by kernel_rfl) (by omega) (by have := Mur.u64n_lt n; omega)) ?_
  refine Wk.rPure 2 (some 3) (.int .u64 ((Mur.u64n n / 256 : Nat) : Int)) rfl rfl (by kernel_rfl) (by kernel_rfl) ?_
  refine Wk.rEnd 3 rfl ?_
  refine Wk.inN ?_
  refine Wk.nxt ?_
  refine Wk.reg ?_
  refine Wk.rPure 0 (some 11) (.int .i64 7) rfl rfl (by kernel_rfl) (by kernel_rfl) ?_
  refine Wk.rPure 1 (some 12) (.int .i64 6) rfl rfl (by kernel_rfl) (Wk.int64 (n := 7 - 1) (z := 6) (by omega) (by omega) (by omega) (by kernel_rfl)) ?_
  refine Wk.rPure 2 (some 5) (.int .i64 6) rfl rfl (by kernel_rfl) (by kernel_rfl) ?_
  refine Wk.rEnd 3 rfl ?_
  refine Wk.nxt ?_
  refine Wk.rdS ?_
  refine wp_seq ?_
  refine wp_seq ?_
  refine Wk.reg ?_
  refine Wk.rPure 0 (some 9) (.int .i64 6) rfl rfl (by kernel_rfl) (by kernel_rfl) ?_
  refine Wk.rPure 1 (some 10) (.bool true) rfl rfl (by kernel_rfl) (Wk.boolT (b := decide ((6 : Int) ≥ (0 : Int))) (decide_eq_true (by decide)) (by kernel_rfl)) ?_
  refine Wk.rEnd 2 rfl ?_
  refine Wk.nxt ?_
  refine wp_cond_true (by kernel_rfl) ?_
  refine wp_skip ?_
  refine Wk.nxt ?_
  refine wp_seq ?_
  refine wp_block ?_
  refine wp_seq ?_
  refine Wk.reg ?_
  refine Wk.rPure 0 (some 13) (.slice (some ⟨w.heap.size, 0, none⟩) 8 8) rfl rfl (by kernel_rfl) (by kernel_rfl) ?_
  refine Wk.rPure 1 (some 14) (.int .i64 6) rfl rfl (by kernel_rfl) (by kernel_rfl) ?_
  refine Wk.rPure 2 (some 15) (.int .u64 ((Mur.u64n n / 256 : Nat) : Int)) rfl rfl (by kernel_rfl) (by kernel_rfl) ?_
  refine Wk.rPure 3 (some 16) (.int .u64 ((Mur.u64n n / 256 % 256 : Nat) : Int)) rfl rfl (by kernel_rfl) (Mur.rem_u64 26 26 (.tmp 15) (.const (.int .u64 256)) rfl (Mur.u64n n / 256) 256 (by kernel_rfl) (by kernel_rfl) (by omega)) ?_
  refine Wk.rPure 4 (some 17) (.int .u8 ((Mur.u64n n / 256 % 256 : Nat) : Int)) rfl rfl (by kernel_rfl) (Mur.conv_int 26 5 (.tmp 16) rfl (by kernel_rfl) .u8 Tryd.underlying5 .u64 ((Mur.u64n n / 256 % 256 : Nat) : Int) (by kernel_rfl) (by rw [Mur.u8_mod]; omega)) ?_
  refine Wk.rPure 5 (some 18) (.pointer (some ⟨w.heap.size, 6, none⟩)) rfl rfl (by kernel_rfl) (Wk.index_sl 38 5 (.tmp 13) (.tmp 14) rfl Tryd.underlying38 1 (by kernel_rfl) w.heap.size 0 8 8 6 .i64 (by kernel_rfl) (by kernel_rfl) (by omega)) ?_
  refine Wk.rExS 6 none _ rfl rfl (by kernel_rfl) (Wk.store1 5 (.tmp 18) (.tmp 17) rfl (by kernel_rfl) w.heap.size 6 (by kernel_rfl) (.int .u8 ((Mur.u64n n / 256 % 256 : Nat) : Int)) (by kernel_rfl) rfl 5 #[.int .u8 0, .int .u8 0, .int .u8 0, .int .u8 0, .int .u8 0, .int .u8 0, .int .u8 0, .int .u8 ((Mur.u64n n % 256 : Nat) : Int)] hb2 (by simp)) ?_
  rintro W3 ⟨hb3, ch3⟩
  replace hb3 : W3.heap[w.heap.size]? = some (.cells #[.int .u8 0, .int .u8 0, .int .u8 0, .int .u8 0, .int .u8 0, .int .u8 0, .int .u8 ((Mur.u64n n / 256 % 256 : Nat) : Int), .int .u8 ((Mur.u64n n % 256 : Nat) : Int)] 5 (0, 0)) := hb3
  have zz3 := ch3.size
  refine Wk.rEnd 7 rfl ?_
  refine Wk.nxt ?_
  refine Wk.reg ?_
  refine Wk.rPure 0 (some 19) (.int .u64 ((Mur.u64n n / 256 : Nat) : Int)) rfl rfl (by kernel_rfl) (by kernel_rfl) ?_
  refine Wk.rPure 1 (some 20) (.int .u64 ((Mur.u64n n / 256 / 256 : Nat) : Int)) rfl rfl (by kernel_rfl) (Mur.quo_u64 26 26 (.tmp 19) (.const (.int .u64 256)) rfl (Mur.u64n n / 256) 256 (by kernel_rfl) (by kernel_rfl) (by omega) (by have := Mur.u64n_lt n; omega)) ?_
  refine Wk.rPure 2 (some 3) (.int .u64 ((Mur.u64n n / 256 / 256 : Nat) : Int)) rfl rfl (by kernel_rfl) (by kernel_rfl) ?_
  refine Wk.rEnd 3 rfl ?_
  refine Wk.inN ?_
  refine Wk.nxt ?_
  refine Wk.reg ?_
  refine Wk.rPure 0 (some 11) (.int .i64 6) rfl rfl (by kernel_rfl) (by kernel_rfl) ?_
  refine Wk.rPure 1 (some 12) (.int .i64 5) rfl rfl (by kernel_rfl) (Wk.int64 (n := 6 - 1) (z := 5) (by omega) (by omega) (by omega) (by kernel_rfl)) ?_
  refine Wk.rPure 2 (some 5) (.int .i64 5) rfl rfl (by kernel_rfl) (by kernel_rfl) ?_
  refine Wk.rEnd 3 rfl ?_
  refine Wk.nxt ?_
  refine Wk.rdS ?_
  refine wp_seq ?_
  refine wp_seq ?_
  refine Wk.reg ?_
  refine Wk.rPure 0 (some 9) (.int .i64 5) rfl rfl (by kernel_rfl) (by kernel_rfl) ?_
  refine Wk.rPure 1 (some 10) (.bool true) rfl rfl (by kernel_rfl) (Wk.boolT (b := decide ((5 : Int) ≥ (0 : Int))) (decide_eq_true (by decide)) (by kernel_rfl)) ?_
  refine Wk.rEnd 2 rfl ?_
  refine Wk.nxt ?_
  refine wp_cond_true (by kernel_rfl) ?_
  refine wp_skip ?_
  refine Wk.nxt ?_
  refine wp_seq ?_
  refine wp_block ?_
  refine wp_seq ?_
  refine Wk.reg ?_
  refine Wk.rPure 0 (some 13) (.slice (some ⟨w.heap.size, 0, none⟩) 8 8) rfl rfl (by kernel_rfl) (by kernel_rfl) ?_
  refine Wk.rPure 1 (some 14) (.int .i64 5) rfl rfl (by kernel_rfl) (by kernel_rfl) ?_
  refine Wk.rPure 2 (some 15) (.int .u64 ((Mur.u64n n / 256 / 256 : Nat) : Int)) rfl rfl (by kernel_rfl) (by kernel_rfl) ?_
  refine Wk.rPure 3 (some 16) (.int .u64 ((Mur.u64n n / 256 / 256 % 256 : Nat) : Int)) rfl rfl (by kernel_rfl) (Mur.rem_u64 26 26 (.tmp 15) (.const (.int .u64 256)) rfl (Mur.u64n n / 256 / 256) 256 (by kernel_rfl) (by kernel_rfl) (by omega)) ?_
  refine Wk.rPure 4 (some 17) (.int .u8 ((Mur.u64n n / 256 / 256 % 256 : Nat) : Int)) rfl rfl (by kernel_rfl) (Mur.conv_int 26 5 (.tmp 16) rfl (by kernel_rfl) .u8 Tryd.underlying5 .u64 ((Mur.u64n n / 256 / 256 % 256 : Nat) : Int) (by kernel_rfl) (by rw [Mur.u8_mod]; omega)) ?_
  refine Wk.rPure 5 (some 18) (.pointer (some ⟨w.heap.size, 5, none⟩)) rfl rfl (by kernel_rfl) (Wk.index_sl 38 5 (.tmp 13) (.tmp 14) rfl Tryd.underlying38 1 (by kernel_rfl) w.heap.size 0 8 8 5 .i64 (by kernel_rfl) (by kernel_rfl) (by omega)) ?_
  refine Wk.rExS 6 none _ rfl rfl (by kernel_rfl) (Wk.store1 5 (.tmp 18) (.tmp 17) rfl (by kernel_rfl) w.heap.size 5 (by kernel_rfl) (.int .u8 ((Mur.u64n n / 256 / 256 % 256 : Nat) : Int)) (by kernel_rfl) rfl 5 #[.int .u8 0, .int .u8 0, .int .u8 0, .int .u8 0, .int .u8 0, .int .u8 0, .int .u8 ((Mur.u64n n / 256 % 256 : Nat) : Int), .int .u8 ((Mur.u64n n % 256 : Nat) : Int)] hb3 (by simp)) ?_
  rintro W4 ⟨hb4, ch4⟩
  replace hb4 : W4.heap[w.heap.size]? = some (.cells #[.int .u8 0, .int .u8 0, .int .u8 0, .int .u8 0, .int .u8 0, .int .u8 ((Mur.u64n n / 256 / 256 % 256 : Nat) : Int), .int .u8 ((Mur.u64n n / 256 % 256 : Nat) : Int), .int .u8 ((Mur.u64n n % 256 : Nat) : Int)] 5 (0, 0)) := hb4
  have zz4 := ch4.size
  refine Wk.rEnd 7 rfl ?_
  refine Wk.nxt ?_
  refine Wk.reg ?_
  refine Wk.rPure 0 (some 19) (.int .u64 ((Mur.u64n n / 256 / 256 : Nat) : Int)) rfl rfl (by kernel_rfl) (by kernel_rfl) ?_
  refine Wk.rPure 1 (some 20) (.int .u64 ((Mur.u64n n / 256 / 256 / 256 : Nat) : Int)) rfl rfl (by kernel_rfl) (Mur.quo_u64 26 26 (.tmp 19) (.const (.int .u64 256)) rfl (Mur.u64n n / 256 / 256) 256 (by kernel_rfl) (by kernel_rfl) (by omega) (by have := Mur.u64n_lt n; omega)) ?_
  refine Wk.rPure 2 (some 3) (.int .u64 ((Mur.u64n n / 256 / 256 / 256 : Nat) : Int)) rfl rfl (by kernel_rfl) (by kernel_rfl) ?_
  refine Wk.rEnd 3 rfl ?_
  refine Wk.inN ?_
  refine Wk.nxt ?_
  refine Wk.reg ?_
  refine Wk.rPure 0 (some 11) (.int .i64 5) rfl rfl (by kernel_rfl) (by kernel_rfl) ?_
  refine Wk.rPure 1 (some 12) (.int .i64 4) rfl rfl (by kernel_rfl) (Wk.int64 (n := 5 - 1) (z := 4) (by omega) (by omega) (by omega) (by kernel_rfl)) ?_
  refine Wk.rPure 2 (some 5) (.int .i64 4) rfl rfl (by kernel_rfl) (by kernel_rfl) ?_
  refine Wk.rEnd 3 rfl ?_
  refine Wk.nxt ?_
  refine Wk.rdS ?_
  refine wp_seq ?_
  refine wp_seq ?_
  refine Wk.reg ?_
  refine Wk.rPure 0 (some 9) (.int .i64 4) rfl rfl (by kernel_rfl) (by kernel_rfl) ?_
  refine Wk.rPure 1 (some 10) (.bool true) rfl rfl (by kernel_rfl) (Wk.boolT (b := decide ((4 : Int) ≥ (0 : Int))) (decide_eq_true (by decide)) (by kernel_rfl)) ?_
  refine Wk.rEnd 2 rfl ?_
  refine Wk.nxt ?_
  refine wp_cond_true (by kernel_rfl) ?_
  refine wp_skip ?_
  refine Wk.nxt ?_
  refine wp_seq ?_
  refine wp_block ?_
  refine wp_seq ?_
  refine Wk.reg ?_
  refine Wk.rPure 0 (some 13) (.slice (some ⟨w.heap.size, 0, none⟩) 8 8) rfl rfl (by kernel_rfl) (by kernel_rfl) ?_
  refine Wk.rPure 1 (some 14) (.int .i64 4) rfl rfl (by kernel_rfl) (by kernel_rfl) ?_
  refine Wk.rPure 2 (some 15) (.int .u64 ((Mur.u64n n / 256 / 256 / 256 : Nat) : Int)) rfl rfl (by kernel_rfl) (by kernel_rfl) ?_
  refine Wk.rPure 3 (some 16) (.int .u64 ((Mur.u64n n / 256 / 256 / 256 % 256 : Nat) : Int)) rfl rfl (by kernel_rfl) (Mur.rem_u64 26 26 (.tmp 15) (.const (.int .u64 256)) rfl (Mur.u64n n / 256 / 256 / 256) 256 (by kernel_rfl) (by kernel_rfl) (by omega)) ?_
  refine Wk.rPure 4 (some 17) (.int .u8 ((Mur.u64n n / 256 / 256 / 256 % 256 : Nat) : Int)) rfl rfl (by kernel_rfl) (Mur.conv_int 26 5 (.tmp 16) rfl (by kernel_rfl) .u8 Tryd.underlying5 .u64 ((Mur.u64n n / 256 / 256 / 256 % 256 : Nat) : Int) (by kernel_rfl) (by rw [Mur.u8_mod]; omega)) ?_
  refine Wk.rPure 5 (some 18) (.pointer (some ⟨w.heap.size, 4, none⟩)) rfl rfl (by kernel_rfl) (Wk.index_sl 38 5 (.tmp 13) (.tmp 14) rfl Tryd.underlying38 1 (by kernel_rfl) w.heap.size 0 8 8 4 .i64 (by kernel_rfl) (by kernel_rfl) (by omega)) ?_
  refine Wk.rExS 6 none _ rfl rfl (by kernel_rfl) (Wk.store1 5 (.tmp 18) (.tmp 17) rfl (by kernel_rfl) w.heap.size 4 (by kernel_rfl) (.int .u8 ((Mur.u64n n / 256 / 256 / 256 % 256 : Nat) : Int)) (by kernel_rfl) rfl 5 #[.int .u8 0, .int .u8 0, .int .u8 0, .int .u8 0, .int .u8 0, .int .u8 ((Mur.u64n n / 256 / 256 % 256 : Nat) : Int), .int .u8 ((Mur.u64n n / 256 % 256 : Nat) : Int), .int .u8 ((Mur.u64n n % 256 : Nat) : Int)] hb4 (by simp)) ?_
  rintro W5 ⟨hb5, ch5⟩
  replace hb5 : W5.heap[w.heap.size]? = some (.cells #[.int .u8 0, .int .u8 0, .int .u8 0, .int .u8 0, .int .u8 ((Mur.u64n n / 256 / 256 / 256 % 256 : Nat) : Int), .int .u8 ((Mur.u64n n / 256 / 256 % 256 : Nat) : Int), .int .u8 ((Mur.u64n n / 256 % 256 : Nat) : Int), .int .u8 ((Mur.u64n n % 256 : Nat) : Int)] 5 (0, 0)) := hb5
  have zz5 := ch5.size
  refine Wk.rEnd 7 rfl ?_
  refine Wk.nxt ?_
  refine Wk.reg ?_
  refine Wk.rPure 0 (some 19) (.int .u64 ((Mur.u64n n / 256 / 256 / 256 : Nat) : Int)) rfl rfl (by kernel_rfl) (by kernel_rfl) ?_
  refine Wk.rPure 1 (some 20) (.int .u64 ((Mur.u64n n / 256 / 256 / 256 / 256 : Nat) : Int)) rfl rfl (by kernel_rfl) (Mur.quo_u64 26 26 (.tmp 19) (.const (.int .u64 256)) rfl (Mur.u64n n / 256 / 256 / 256) 256 (by kernel_rfl) (by kernel_rfl) (by omega) (by have := Mur.u64n_lt n; omega)) ?_
  refine Wk.rPure 2 (some 3) (.int .u64 ((Mur.u64n n / 256 / 256 / 256 / 256 : Nat) : Int)) rfl rfl (by kernel_rfl) (by kernel_rfl) ?_
  refine Wk.rEnd 3 rfl ?_
  refine Wk.inN ?_
  refine Wk.nxt ?_
  refine Wk.reg ?_
  refine Wk.rPure 0 (some 11) (.int .i64 4) rfl rfl (by kernel_rfl) (by kernel_rfl) ?_
  refine Wk.rPure 1 (some 12) (.int .i64 3) rfl rfl (by kernel_rfl) (Wk.int64 (n := 4 - 1) (z := 3) (by omega) (by omega) (by omega) (by kernel_rfl)) ?_
  refine Wk.rPure 2 (some 5) (.int .i64 3) rfl rfl (by kernel_rfl) (by kernel_rfl) ?_
  refine Wk.rEnd 3 rfl ?_
  refine Wk.nxt ?_
  refine Wk.rdS ?_
  refine wp_seq ?_
  refine wp_seq ?_
  refine Wk.reg ?_
  refine Wk.rPure 0 (some 9) (.int .i64 3) rfl rfl (by kernel_rfl) (by kernel_rfl) ?_
  refine Wk.rPure 1 (some 10) (.bool true) rfl rfl (by kernel_rfl) (Wk.boolT (b := decide ((3 : Int) ≥ (0 : Int))) (decide_eq_true (by decide)) (by kernel_rfl)) ?_
  refine Wk.rEnd 2 rfl ?_
  refine Wk.nxt ?_
  refine wp_cond_true (by kernel_rfl) ?_
  refine wp_skip ?_
  refine Wk.nxt ?_
  refine wp_seq ?_
  refine wp_block ?_
  refine wp_seq ?_
  refine Wk.reg ?_
  refine Wk.rPure 0 (some 13) (.slice (some ⟨w.heap.size, 0, none⟩) 8 8) rfl rfl (by kernel_rfl) (by kernel_rfl) ?_
  refine Wk.rPure 1 (some 14) (.int .i64 3) rfl rfl (by kernel_rfl) (by kernel_rfl) ?_
  refine Wk.rPure 2 (some 15) (.int .u64 ((Mur.u64n n / 256 / 256 / 256 / 256 : Nat) : Int)) rfl rfl (by kernel_rfl) (by kernel_rfl) ?_
  refine Wk.rPure 3 (some 16) (.int .u64 ((Mur.u64n n / 256 / 256 / 256 / 256 % 256 : Nat) : Int)) rfl rfl (by kernel_rfl) (Mur.rem_u64 26 26 (.tmp 15) (.const (.int .u64 256)) rfl (Mur.u64n n / 256 / 256 / 256 / 256) 256 (by kernel_rfl) (by kernel_rfl) (by omega)) ?_
  refine Wk.rPure 4 (some 17) (.int .u8 ((Mur.u64n n / 256 / 256 / 256 / 256 % 256 : Nat) : Int)) rfl rfl (by kernel_rfl) (Mur.conv_int 26 5 (.tmp 16) rfl (by kernel_rfl) .u8 Tryd.underlying5 .u64 ((Mur.u64n n / 256 / 256 / 256 / 256 % 256 : Nat) : Int) (by kernel_rfl) (by rw [Mur.u8_mod]; omega)) ?_
  refine Wk.rPure 5 (some 18) (.pointer (some ⟨w.heap.size, 3, none⟩)) rfl rfl (by kernel_rfl) (Wk.index_sl 38 5 (.tmp 13) (.tmp 14) rfl Tryd.underlying38 1 (by kernel_rfl) w.heap.size 0 8 8 3 .i64 (by kernel_rfl) (by kernel_rfl) (by omega)) ?_
  refine Wk.rExS 6 none _ rfl rfl (by kernel_rfl) (Wk.store1 5 (.tmp 18) (.tmp 17) rfl (by kernel_rfl) w.heap.size 3 (by kernel_rfl) (.int .u8 ((Mur.u64n n / 256 / 256 / 256 / 256 % 256 : Nat) : Int)) (by kernel_rfl) rfl 5 #[.int .u8 0, .int .u8 0, .int .u8 0, .int .u8 0, .int .u8 ((Mur.u64n n / 256 / 256 / 256 % 256 : Nat) : Int), .int .u8 ((Mur.u64n n / 256 / 256 % 256 : Nat) : Int), .int .u8 ((Mur.u64n n / 256 % 256 : Nat) : Int), .int .u8 ((Mur.u64n n % 256 : Nat) : Int)] hb5 (by simp)) ?_
  rintro W6 ⟨hb6, ch6⟩
  replace hb6 : W6.heap[w.heap.size]? = some (.cells #[.int .u8 0, .int .u8 0, .int .u8 0, .int .u8 ((Mur.u64n n / 256 / 256 / 256 / 256 % 256 : Nat) : Int), .int .u8 ((Mur.u64n n / 256 / 256 / 256 % 256 : Nat) : Int), .int .u8 ((Mur.u64n n / 256 / 256 % 256 : Nat) : Int), .int .u8 ((Mur.u64n n / 256 % 256 : Nat) : Int), .int .u8 ((Mur.u64n n % 256 : Nat) : Int)] 5 (0, 0)) := hb6
  have zz6 := ch6.size
  refine Wk.rEnd 7 rfl ?_
  refine Wk.nxt ?_
  refine Wk.reg ?_
  refine Wk.rPure 0 (some 19) (.int .u64 ((Mur.u64n n / 256 / 256 / 256 / 256 : Nat) : Int)) rfl rfl (by kernel_rfl) (by kernel_rfl) ?_
  refine Wk.rPure 1 (some 20) (.int .u64 ((Mur.u64n n / 256 / 256 / 256 / 256 / 256 : Nat) : Int)) rfl rfl (by kernel_rfl) (Mur.quo_u64 26 26 (.tmp 19) (.const (.int .u64 256)) rfl (Mur.u64n n / 256 / 256 / 256 / 256) 256 (by kernel_rfl) (by kernel_rfl) (by omega) (by have := Mur.u64n_lt n; omega)) ?_
  refine Wk.rPure 2 (some 3) (.int .u64 ((Mur.u64n n / 256 / 256 / 256 / 256 / 256 : Nat) : Int)) rfl rfl (by kernel_rfl) (by kernel_rfl) ?_
  refine Wk.rEnd 3 rfl ?_
  refine Wk.inN ?_
  refine Wk.nxt ?_
  refine Wk.reg ?_
  refine Wk.rPure 0 (some 11) (.int .i64 3) rfl rfl (by kernel_rfl) (by kernel_rfl) ?_
  refine Wk.rPure 1 (some 12) (.int .i64 2) rfl rfl (by kernel_rfl) (Wk.int64 (n := 3 - 1) (z := 2) (by omega) (by omega) (by omega) (by kernel_rfl)) ?_
  refine Wk.rPure 2 (some 5) (.int .i64 2) rfl rfl (by kernel_rfl) (by kernel_rfl) ?_
  refine Wk.rEnd 3 rfl ?_
  refine Wk.nxt ?_
  refine Wk.rdS ?_
  refine wp_seq ?_
  refine wp_seq ?_
  refine Wk.reg ?_
  refine Wk.rPure 0 (some 9) (.int .i64 2) rfl rfl (by kernel_rfl) (by kernel_rfl) ?_
  refine Wk.rPure 1 (some 10) (.bool true) rfl rfl (by kernel_rfl) (Wk.boolT (b := decide ((2 : Int) ≥ (0 : Int))) (decide_eq_true (by decide)) (by kernel_rfl)) ?_
  refine Wk.rEnd 2 rfl ?_
  refine Wk.nxt ?_
  refine wp_cond_true (by kernel_rfl) ?_
  refine wp_skip ?_
  refine Wk.nxt ?_
  refine wp_seq ?_
  refine wp_block ?_
  refine wp_seq ?_
  refine Wk.reg ?_
  refine Wk.rPure 0 (some 13) (.slice (some ⟨w.heap.size, 0, none⟩) 8 8) rfl rfl (by kernel_rfl) (by kernel_rfl) ?_
  refine Wk.rPure 1 (some 14) (.int .i64 2) rfl rfl (by kernel_rfl) (by kernel_rfl) ?_
  refine Wk.rPure 2 (some 15) (.int .u64 ((Mur.u64n n / 256 / 256 / 256 / 256 / 256 : Nat) : Int)) rfl rfl (by kernel_rfl) (by kernel_rfl) ?_
  refine Wk.rPure 3 (some 16) (.int .u64 ((Mur.u64n n / 256 / 256 / 256 / 256 / 256 % 256 : Nat) : Int)) rfl rfl (by kernel_rfl) (Mur.rem_u64 26 26 (.tmp 15) (.const (.int .u64 256)) rfl (Mur.u64n n / 256 / 256 / 256 / 256 / 256) 256 (by kernel_rfl) (by kernel_rfl) (by omega)) ?_
  refine Wk.rPure 4 (some 17) (.int .u8 ((Mur.u64n n / 256 / 256 / 256 / 256 / 256 % 256 : Nat) : Int)) rfl rfl (by kernel_rfl) (Mur.conv_int 26 5 (.tmp 16) rfl (by kernel_rfl) .u8 Tryd.underlying5 .u64 ((Mur.u64n n / 256 / 256 / 256 / 256 / 256 % 256 : Nat) : Int) (by kernel_rfl) (by rw [Mur.u8_mod]; omega)) ?_
  refine Wk.rPure 5 (some 18) (.pointer (some ⟨w.heap.size, 2, none⟩)) rfl rfl (by kernel_rfl) (Wk.index_sl 38 5 (.tmp 13) (.tmp 14) rfl Tryd.underlying38 1 (by kernel_rfl) w.heap.size 0 8 8 2 .i64 (by kernel_rfl) (by kernel_rfl) (by omega)) ?_
  refine Wk.rExS 6 none _ rfl rfl (by kernel_rfl) (Wk.store1 5 (.tmp 18) (.tmp 17) rfl (by kernel_rfl) w.heap.size 2 (by kernel_rfl) (.int .u8 ((Mur.u64n n / 256 / 256 / 256 / 256 / 256 % 256 : Nat) : Int)) (by kernel_rfl) rfl 5 #[.int .u8 0, .int .u8 0, .int .u8 0, .int .u8 ((Mur.u64n n / 256 / 256 / 256 / 256 % 256 : Nat) : Int), .int .u8 ((Mur.u64n n / 256 / 256 / 256 % 256 : Nat) : Int), .int .u8 ((Mur.u64n n / 256 / 256 % 256 : Nat) : Int), .int .u8 ((Mur.u64n n / 256 % 256 : Nat) : Int), .int .u8 ((Mur.u64n n % 256 : Nat) : Int)] hb6 (by simp)) ?_
  rintro W7 ⟨hb7, ch7⟩
  replace hb7 : W7.heap[w.heap.size]? = some (.cells #[.int .u8 0, .int .u8 0, .int .u8 ((Mur.u64n n / 256 / 256 / 256 / 256 / 256 % 256 : Nat) : Int), .int .u8 ((Mur.u64n n / 256 / 256 / 256 / 256 % 256 : Nat) : Int), .int .u8 ((Mur.u64n n / 256 / 256 / 256 % 256 : Nat) : Int), .int .u8 ((Mur.u64n n / 256 / 256 % 256 : Nat) : Int), .int .u8 ((Mur.u64n n / 256 % 256 : Nat) : Int), .int .u8 ((Mur.u64n n % 256 : Nat) : Int)] 5 (0, 0)) := hb7
  have zz7 := ch7.size
  refine Wk.rEnd 7 rfl ?_
  refine Wk.nxt ?_
  refine Wk.reg ?_
  refine Wk.rPure 0 (some 19) (.int .u64 ((Mur.u64n n / 256 / 256 / 256 / 256 / 256 : Nat) : Int)) rfl rfl (by kernel_rfl) (by kernel_rfl) ?_
  refine Wk.rPure 1 (some 20) (.int .u64 ((Mur.u64n n / 256 / 256 / 256 / 256 / 256 / 256 : Nat) : Int)) rfl rfl (by kernel_rfl) (Mur.quo_u64 26 26 (.tmp 19) (.const (.int .u64 256)) rfl (Mur.u64n n / 256 / 256 / 256 / 256 / 256) 256 (by kernel_rfl) (by kernel_rfl) (by omega) (by have := Mur.u64n_lt n; omega)) ?_
  refine Wk.rPure 2 (some 3) (.int .u64 ((Mur.u64n n / 256 / 256 / 256 / 256 / 256 / 256 : Nat) : Int)) rfl rfl (by kernel_rfl) (by kernel_rfl) ?_
  refine Wk.rEnd 3 rfl ?_
  refine Wk.inN ?_
  refine Wk.nxt ?_
  refine Wk.reg ?_
  refine Wk.rPure 0 (some 11) (.int .i64 2) rfl rfl (by kernel_rfl) (by kernel_rfl) ?_
  refine Wk.rPure 1 (some 12) (.int .i64 1) rfl rfl (by kernel_rfl) (Wk.int64 (n := 2 - 1) (z := 1) (by omega) (by omega) (by omega) (by kernel_rfl)) ?_
  refine Wk.rPure 2 (some 5) (.int .i64 1) rfl rfl (by kernel_rfl) (by kernel_rfl) ?_
  refine Wk.rEnd 3 rfl ?_
  refine Wk.nxt ?_
  refine Wk.rdS ?_
  refine wp_seq ?_
  refine wp_seq ?_
  refine Wk.reg ?_
  refine Wk.rPure 0 (some 9) (.int .i64 1) rfl rfl (by kernel_rfl) (by kernel_rfl) ?_
  refine Wk.rPure 1 (some 10) (.bool true) rfl rfl (by kernel_rfl) (Wk.boolT (b := decide ((1 : Int) ≥ (0 : Int))) (decide_eq_true (by decide)) (by kernel_rfl)) ?_
  refine Wk.rEnd 2 rfl ?_
  refine Wk.nxt ?_
  refine wp_cond_true (by kernel_rfl) ?_
  refine wp_skip ?_
  refine Wk.nxt ?_
  refine wp_seq ?_
  refine wp_block ?_
  refine wp_seq ?_
  refine Wk.reg ?_
  refine Wk.rPure 0 (some 13) (.slice (some ⟨w.heap.size, 0, none⟩) 8 8) rfl rfl (by kernel_rfl) (by kernel_rfl) ?_
  refine Wk.rPure 1 (some 14) (.int .i64 1) rfl rfl (by kernel_rfl) (by kernel_rfl) ?_
  refine Wk.rPure 2 (some 15) (.int .u64 ((Mur.u64n n / 256 / 256 / 256 / 256 / 256 / 256 : Nat) : Int)) rfl rfl (by kernel_rfl) (by kernel_rfl) ?_
  refine Wk.rPure 3 (some 16) (.int .u64 ((Mur.u64n n / 256 / 256 / 256 / 256 / 256 / 256 % 256 : Nat) : Int)) rfl rfl (by kernel_rfl) (Mur.rem_u64 26 26 (.tmp 15) (.const (.int .u64 256)) rfl (Mur.u64n n / 256 / 256 / 256 / 256 / 256 / 256) 256 (by kernel_rfl) (by kernel_rfl) (by omega)) ?_
  refine Wk.rPure 4 (some 17) (.int .u8 ((Mur.u64n n / 256 / 256 / 256 / 256 / 256 / 256 % 256 : Nat) : Int)) rfl rfl (by kernel_rfl) (Mur.conv_int 26 5 (.tmp 16) rfl (by kernel_rfl) .u8 Tryd.underlying5 .u64 ((Mur.u64n n / 256 / 256 / 256 / 256 / 256 / 256 % 256 : Nat) : Int) (by kernel_rfl) (by rw [Mur.u8_mod]; omega)) ?_
  refine Wk.rPure 5 (some 18) (.pointer (some ⟨w.heap.size, 1, none⟩)) rfl rfl (by kernel_rfl) (Wk.index_sl 38 5 (.tmp 13) (.tmp 14) rfl Tryd.underlying38 1 (by kernel_rfl) w.heap.size 0 8 8 1 .i64 (by kernel_rfl) (by kernel_rfl) (by omega)) ?_
  refine Wk.rExS 6 none _ rfl rfl (by kernel_rfl) (Wk.store1 5 (.tmp 18) (.tmp 17) rfl (by kernel_rfl) w.heap.size 1 (by kernel_rfl) (.int .u8 ((Mur.u64n n / 256 / 256 / 256 / 256 / 256 / 256 % 256 : Nat) : Int)) (by kernel_rfl) rfl 5 #[.int .u8 0, .int .u8 0, .int .u8 ((Mur.u64n n / 256 / 256 / 256 / 256 / 256 % 256 : Nat) : Int), .int .u8 ((Mur.u64n n / 256 / 256 / 256 / 256 % 256 : Nat) : Int), .int .u8 ((Mur.u64n n / 256 / 256 / 256 % 256 : Nat) : Int), .int .u8 ((Mur.u64n n / 256 / 256 % 256 : Nat) : Int), .int .u8 ((Mur.u64n n / 256 % 256 : Nat) : Int), .int .u8 ((Mur.u64n n % 256 : Nat) : Int)] hb7 (by simp)) ?_
  rintro W8 ⟨hb8, ch8⟩
  replace hb8 : W8.heap[w.heap.size]? = some (.cells #[.int .u8 0, .int .u8 ((Mur.u64n n / 256 / 256 / 256 / 256 / 256 / 256 % 256 : Nat) : Int), .int .u8 ((Mur.u64n n / 256 / 256 / 256 / 256 / 256 % 256 : Nat) : Int), .int .u8 ((Mur.u64n n / 256 / 256 / 256 / 256 % 256 : Nat) : Int), .int .u8 ((Mur.u64n n / 256 / 256 / 256 % 256 : Nat) : Int), .int .u8 ((Mur.u64n n / 256 / 256 % 256 : Nat) : Int), .int .u8 ((Mur.u64n n / 256 % 256 : Nat) : Int), .int .u8 ((Mur.u64n n % 256 : Nat) : Int)] 5 (0, 0)) := hb8
  have zz8 := ch8.size
  refine Wk.rEnd 7 rfl ?_
  refine Wk.nxt ?_
  refine Wk.reg ?_
  refine Wk.rPure 0 (some 19) (.int .u64 ((Mur.u64n n / 256 / 256 / 256 / 256 / 256 / 256 : Nat) : Int)) rfl rfl (by kernel_rfl) (by kernel_rfl) ?_
  refine Wk.rPure 1 (some 20) (.int .u64 ((Mur.u64n n / 256 / 256 / 256 / 256 / 256 / 256 / 256 : Nat) : Int)) rfl rfl (by kernel_rfl) (Mur.quo_u64 26 26 (.tmp 19) (.const (.int .u64 256)) rfl (Mur.u64n n / 256 / 256 / 256 / 256 / 256 / 256) 256 (by kernel_rfl) (by kernel_rfl) (by omega) (by have := Mur.u64n_lt n; omega)) ?_
  refine Wk.rPure 2 (some 3) (.int .u64 ((Mur.u64n n / 256 / 256 / 256 / 256 / 256 / 256 / 256 : Nat) : Int)) rfl rfl (by kernel_rfl) (by kernel_rfl) ?_
  refine Wk.rEnd 3 rfl ?_
  refine Wk.inN ?_
  refine Wk.nxt ?_
  refine Wk.reg ?_
  refine Wk.rPure 0 (some 11) (.int .i64 1) rfl rfl (by kernel_rfl) (by kernel_rfl) ?_
  refine Wk.rPure 1 (some 12) (.int .i64 0) rfl rfl (by kernel_rfl) (Wk.int64 (n := 1 - 1) (z := 0) (by omega) (by omega) (by omega) (by kernel_rfl)) ?_
  refine Wk.rPure 2 (some 5) (.int .i64 0) rfl rfl (by kernel_rfl) (by kernel_rfl) ?_
  refine Wk.rEnd 3 rfl ?_
  refine Wk.nxt ?_
  refine Wk.rdS ?_
  refine wp_seq ?_
  refine wp_seq ?_
  refine Wk.reg ?_
  refine Wk.rPure 0 (some 9) (.int .i64 0) rfl rfl (by kernel_rfl) (by kernel_rfl) ?_
  refine Wk.rPure 1 (some 10) (.bool true) rfl rfl (by kernel_rfl) (Wk.boolT (b := decide ((0 : Int) ≥ (0 : Int))) (decide_eq_true (by decide)) (by kernel_rfl)) ?_
  refine Wk.rEnd 2 rfl ?_
  refine Wk.nxt ?_
  refine wp_cond_true (by kernel_rfl) ?_
  refine wp_skip ?_
  refine Wk.nxt ?_
  refine wp_seq ?_
  refine wp_block ?_
  refine wp_seq ?_
  refine Wk.reg ?_
  refine Wk.rPure 0 (some 13) (.slice (some ⟨w.heap.size, 0, none⟩) 8 8) rfl rfl (by kernel_rfl) (by kernel_rfl) ?_
  refine Wk.rPure 1 (some 14) (.int .i64 0) rfl rfl (by kernel_rfl) (by kernel_rfl) ?_
  refine Wk.rPure 2 (some 15) (.int .u64 ((Mur.u64n n / 256 / 256 / 256 / 256 / 256 / 256 / 256 : Nat) : Int)) rfl rfl (by kernel_rfl) (by kernel_rfl) ?_
  refine Wk.rPure 3 (some 16) (.int .u64 ((Mur.u64n n / 256 / 256 / 256 / 256 / 256 / 256 / 256 % 256 : Nat) : Int)) rfl rfl (by kernel_rfl) (Mur.rem_u64 26 26 (.tmp 15) (.const (.int .u64 256)) rfl (Mur.u64n n / 256 / 256 / 256 / 256 / 256 / 256 / 256) 256 (by kernel_rfl) (by kernel_rfl) (by omega)) ?_
  refine Wk.rPure 4 (some 17) (.int .u8 ((Mur.u64n n / 256 / 256 / 256 / 256 / 256 / 256 / 256 % 256 : Nat) : Int)) rfl rfl (by kernel_rfl) (Mur.conv_int 26 5 (.tmp 16) rfl (by kernel_rfl) .u8 Tryd.underlying5 .u64 ((Mur.u64n n / 256 / 256 / 256 / 256 / 256 / 256 / 256 % 256 : Nat) : Int) (by kernel_rfl) (by rw [Mur.u8_mod]; omega)) ?_
  refine Wk.rPure 5 (some 18) (.pointer (some ⟨w.heap.size, 0, none⟩)) rfl rfl (by kernel_rfl) (Wk.index_sl 38 5 (.tmp 13) (.tmp 14) rfl Tryd.underlying38 1 (by kernel_rfl) w.heap.size 0 8 8 0 .i64 (by kernel_rfl) (by kernel_rfl) (by omega)) ?_
  refine Wk.rExS 6 none _ rfl rfl (by kernel_rfl) (Wk.store1 5 (.tmp 18) (.tmp 17) rfl (by kernel_rfl) w.heap.size 0 (by kernel_rfl) (.int .u8 ((Mur.u64n n / 256 / 256 / 256 / 256 / 256 / 256 / 256 % 256 : Nat) : Int)) (by kernel_rfl) rfl 5 #[.int .u8 0, .int .u8 ((Mur.u64n n / 256 / 256 / 256 / 256 / 256 / 256 % 256 : Nat) : Int), .int .u8 ((Mur.u64n n / 256 / 256 / 256 / 256 / 256 % 256 : Nat) : Int), .int .u8 ((Mur.u64n n / 256 / 256 / 256 / 256 % 256 : Nat) : Int), .int .u8 ((Mur.u64n n / 256 / 256 / 256 % 256 : Nat) : Int), .int .u8 ((Mur.u64n n / 256 / 256 % 256 : Nat) : Int), .int .u8 ((Mur.u64n n / 256 % 256 : Nat) : Int), .int .u8 ((Mur.u64n n % 256 : Nat) : Int)] hb8 (by simp)) ?_
  rintro W9 ⟨hb9, ch9⟩
  replace hb9 : W9.heap[w.heap.size]? = some (.cells #[.int .u8 ((Mur.u64n n / 256 / 256 / 256 / 256 / 256 / 256 / 256 % 256 : Nat) : Int), .int .u8 ((Mur.u64n n / 256 / 256 / 256 / 256 / 256 / 256 % 256 : Nat) : Int), .int .u8 ((Mur.u64n n / 256 / 256 / 256 / 256 / 256 % 256 : Nat) : Int), .int .u8 ((Mur.u64n n / 256 / 256 / 256 / 256 % 256 : Nat) : Int), .int .u8 ((Mur.u64n n / 256 / 256 / 256 % 256 : Nat) : Int), .int .u8 ((Mur.u64n n / 256 / 256 % 256 : Nat) : Int), .int .u8 ((Mur.u64n n / 256 % 256 : Nat) : Int), .int .u8 ((Mur.u64n n % 256 : Nat) : Int)] 5 (0, 0)) := hb9
  have zz9 := ch9.size
  refine Wk.rEnd 7 rfl ?_
  refine Wk.nxt ?_
  refine Wk.reg ?_
  refine Wk.rPure 0 (some 19) (.int .u64 ((Mur.u64n n / 256 / 256 / 256 / 256 / 256 / 256 / 256 : Nat) : Int)) rfl rfl (by kernel_rfl) (by kernel_rfl) ?_
  refine Wk.rPure 1 (some 20) (.int .u64 ((Mur.u64n n / 256 / 256 / 256 / 256 / 256 / 256 / 256 / 256 : Nat) : Int)) rfl rfl (by kernel_rfl) (Mur.quo_u64 26 26 (.tmp 19) (.const (.int .u64 256)) rfl (Mur.u64n n / 256 / 256 / 256 / 256 / 256 / 256 / 256) 256 (by kernel_rfl) (by kernel_rfl) (by omega) (by have := Mur.u64n_lt n; omega)) ?_
  refine Wk.rPure 2 (some 3) (.int .u64 ((Mur.u64n n / 256 / 256 / 256 / 256 / 256 / 256 / 256 / 256 : Nat) : Int)) rfl rfl (by kernel_rfl) (by kernel_rfl) ?_
  refine Wk.rEnd 3 rfl ?_
  refine Wk.inN ?_
  refine Wk.nxt ?_
  refine Wk.reg ?_
  refine Wk.rPure 0 (some 11) (.int .i64 0) rfl rfl (by kernel_rfl) (by kernel_rfl) ?_
  refine Wk.rPure 1 (some 12) (.int .i64 (-1)) rfl rfl (by kernel_rfl) (Wk.int64 (n := 0 - 1) (z := -1) (by omega) (by omega) (by omega) (by kernel_rfl)) ?_
  refine Wk.rPure 2 (some 5) (.int .i64 (-1)) rfl rfl (by kernel_rfl) (by kernel_rfl) ?_
  refine Wk.rEnd 3 rfl ?_
  refine Wk.nxt ?_
  refine Wk.rdS ?_
  refine wp_seq ?_
  refine wp_seq ?_
  refine Wk.reg ?_
  refine Wk.rPure 0 (some 9) (.int .i64 (-1)) rfl rfl (by kernel_rfl) (by kernel_rfl) ?_
  refine Wk.rPure 1 (some 10) (.bool false) rfl rfl (by kernel_rfl) (Wk.boolF (b := decide ((-1 : Int) ≥ (0 : Int))) (decide_eq_false (by decide)) (by kernel_rfl)) ?_
  refine Wk.rEnd 2 rfl ?_
  refine Wk.nxt ?_
  refine wp_cond_false (by kernel_rfl) ?_
  refine wp_exit ?_
  refine Wk.thX ?_
  refine Wk.thX ?_
  refine Wk.inX ?_
  refine Wk.nxt ?_
  refine wp_seq ?_
  refine Wk.reg ?_
  refine Wk.rPure 0 (some 21) (.slice (some ⟨w.heap.size, 0, none⟩) 8 8) rfl rfl (by kernel_rfl) (by kernel_rfl) ?_
  refine Wk.rPure 1 (some 2) (.slice (some ⟨w.heap.size, 0, none⟩) 8 8) rfl rfl (by kernel_rfl) (by kernel_rfl) ?_
  refine Wk.rEnd 2 rfl ?_
  refine Wk.nxt ?_
  refine wp_ret ?_
  have hfin := hb9
  rw [Mur.e8_quo] at hfin
  have kk1 : Wk.Chg [] w W1 := Wk.Chg.step ((Wk.Chg.refl _).more (by simp)) ch1 trivial
  have kk2 := Wk.Chg.step kk1 ch2 ⟨.inr (by omega), trivial⟩
  have kk3 := Wk.Chg.step kk2 ch3 ⟨.inr (by omega), trivial⟩
  have kk4 := Wk.Chg.step kk3 ch4 ⟨.inr (by omega), trivial⟩
  have kk5 := Wk.Chg.step kk4 ch5 ⟨.inr (by omega), trivial⟩
  have kk6 := Wk.Chg.step kk5 ch6 ⟨.inr (by omega), trivial⟩
  have kk7 := Wk.Chg.step kk6 ch7 ⟨.inr (by omega), trivial⟩
  have kk8 := Wk.Chg.step kk7 ch8 ⟨.inr (by omega), trivial⟩
  have kk9 := Wk.Chg.step kk8 ch9 ⟨.inr (by omega), trivial⟩
  refine Wk.ret (.slice (some ⟨w.heap.size, 0, none⟩) 8 8) rfl (by kernel_rfl) ?_
  exact ⟨w.heap.size, _, Go.Lib.hid rfl, rfl, Mur.byt_blk _ (Mur.e8_length _) hfin, ⟨by omega, by omega⟩, kk9⟩
end Go.Proofs.YtfhneademopciaaDoor
