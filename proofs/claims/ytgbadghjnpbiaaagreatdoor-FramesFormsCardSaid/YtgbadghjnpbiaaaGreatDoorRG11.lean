/- What the row rests on, part 11. -/
import Derived.Test.YtgbadghjnpbiaaaGreatDoorRG8
import Derived.Test.YtgbadghjnpbiaaaGreatDoorRG7
import Derived.Test.YtgbadghjnpbiaaaGreatDoorRG9
namespace Go.Proofs.YtgbadghjnpbiaaaGreatDoor
open Go.RowKit Wk
open Mur (b8s Byt Own8 Seg Segs flat cutA attC Att SlA OwnA rowA msgC conv_int u64_nat readB_short i64_nat conv_u8o)
set_option maxRecDepth 100000
set_option maxHeartbeats 4000000
theorem WBytes_any (b : List UInt8) (A : Option Addr) (n c at_ : Nat) (w : World) (hb : Byt w A n b) (hnc : n ≤ c ∧ c ≤ 9223372036854775807) (hat : at_ ≤ n) (hn : n ≤ 100000) : Calls Tryz.prog 94 #[.slice A n c, vI at_, vI n] w fun e w' => ∃ A1 n1 c1 x nx er, e = .returned (.tuple #[.slice A1 n1 c1, vI ((nx : Nat) : Int), vI ((er : Nat) : Int)]) ∧ ((er = 0 ∧ Own8 w' w.heap.size 5 A1 n1 c1 x ∧ (at_ < nx ∧ nx ≤ n) ∧ Mur.readB (b.drop at_) = some (x, b.drop nx)) ∨ (er ≠ 0 ∧ A1 = none ∧ n1 = 0 ∧ c1 = 0 ∧ nx = 0 ∧ Mur.readB (b.drop at_) = none)) ∧ Chg [] w w' := by
 have hbl_ := hb.1
 refine calls_of_wp Tryz.func94 rfl ?_
 refine sR<|rP 0 6 (.slice none 0 0)<|rP 1 7 (vI 0)<|rP 2 8 (vI 0)<|eN<|sR<|rP 0 11 (.slice A n c)<|rP 1 12 (vI at_)<|rK 2 13 (Uint_any b A n c at_ w hb ⟨by omega, by omega⟩ (by omega)) ?_
 rintro _ _ ⟨v1, nx1, er1, rfl, hc1, rfl⟩
 rcases hc1 with ⟨rfl, hv1, hnx1, hrd1⟩ | ⟨hv1, rfl, rfl, hrd1⟩
 ·refine rP 3 10 (.tuple #[vU v1, vI nx1, vI 0])<|rP 4 14 (vU v1)<|rP 5 15 (vI nx1)<|rP 6 16 (vI 0)<|rP 7 9 (vU v1)<|rP 8 1 (vI nx1)<|rP 9 8 (vI 0)<|eN<|wp_seq<|wp_block<|sR<|rP 0 18 (vI 0)<|nF 1 19 (0 : Int) (0 : Int)<|rP 2 17 vF<|eN<|cF<|sR<|rP 0 22 (vI n)<|bF 1 23 ((n : Int) < (0 : Int))<|rP 2 24 vF<|rP 3 25 (vU v1)<|rP 4 26 (vI n)<|rq 5 27 (vU n) rfl (conv_int 3 23 (.tmp 26) rfl (by kernel_rfl) .u64 Tryz.underlying23 .i64 (n : Int) (by kernel_rfl) (u64_nat (n := n) (by omega))) ?_
  by_cases hx1 : (v1 : Int) > (n : Int)
  ·exact bT 6 28 ((v1 : Int) > (n : Int))<|rP 7 29 vT<|rP 8 21 vT<|eN<|cT<|sR<|rP 0 6 (.slice none 0 0)<|rP 1 7 (vI 0)<|rP 2 8 (vI 3)<|eN<|tI<|rt (.tuple #[.slice none 0 0, vI 0, vI 3]) ⟨_, _, _, [], 0, 3, rfl, .inr ⟨by omega, rfl, rfl, rfl, rfl, readB_short hrd1 (by omega) (by omega)⟩, (Chg.refl _)⟩
  refine bF 6 28 ((v1 : Int) > (n : Int))<|rP 7 29 vF<|rP 8 21 vF<|eN<|cF<|sR<|rP 0 31 (vU v1)<|rP 1 32 (.slice A n c)<|rP 2 33 (vI n)<|rP 3 34 (vI nx1)<|rI 4 35 ((n : Int) - (nx1 : Int)) (((n - nx1 : Nat) : Int))<|rq 5 36 (vU (n - nx1 : Nat)) rfl (conv_int 3 23 (.tmp 35) rfl (by kernel_rfl) .u64 Tryz.underlying23 .i64 ((n - nx1 : Nat) : Int) (by kernel_rfl) (u64_nat (n := n - nx1) (by omega))) ?_
  by_cases hx2 : (v1 : Int) > ((n - nx1 : Nat) : Int)
  ·exact bT 6 37 ((v1 : Int) > ((n - nx1 : Nat) : Int))<|rP 7 30 vT<|eN<|cT<|sR<|rP 0 6 (.slice none 0 0)<|rP 1 7 (vI 0)<|rP 2 8 (vI 4)<|eN<|tI<|rt (.tuple #[.slice none 0 0, vI 0, vI 4]) ⟨_, _, _, [], 0, 4, rfl, .inr ⟨by omega, rfl, rfl, rfl, rfl, readB_short hrd1 (by omega) (by omega)⟩, (Chg.refl _)⟩
  refine bF 6 37 ((v1 : Int) > ((n - nx1 : Nat) : Int))<|rP 7 30 vF<|eN<|cF<|wp_skip<|inN<|nxt<|sR<|rP 0 38 (vI nx1)<|rP 1 39 (vU v1)<|rq 2 40 (vI v1) rfl (conv_int 23 3 (.tmp 39) rfl (by kernel_rfl) .i64 Tryz.underlying3 .u64 (v1 : Int) (by kernel_rfl) (i64_nat (n := v1) (by omega)))<|rI 3 41 ((nx1 : Int) + (v1 : Int)) (((nx1 + v1 : Nat) : Int))<|rP 4 7 (vI (nx1 + v1 : Nat))<|eN<|sR<|rP 0 42 (.slice A n c)<|rP 1 43 (vI nx1)<|rP 2 44 (vI (nx1 + v1 : Nat)) ?_
  obtain ⟨Ac1, hAc1⟩ : ∃ x_, x_ = Mur.cutA A c nx1 := ⟨_, rfl⟩
  have hbc1 : Byt w Ac1 (nx1 + v1 - nx1) ((b.take (nx1 + v1)).drop nx1) := by rw [hAc1]; exact Mur.Byt.cut hb nx1 (nx1 + v1) (by omega) (by omega) (by omega)
  refine rq 3 45 (.slice Ac1 (nx1 + v1 - nx1) (c - nx1)) rfl (by rw [hAc1]; exact Mur.run_op_cutF 22 (.tmp 42) (.tmp 43) (.tmp 44) rfl 5 Tryz.underlying22 (by kernel_rfl) A n c nx1 (nx1 + v1) (by kernel_rfl) (by kernel_rfl) (by kernel_rfl) (by omega) (by omega) (by omega))<|nS 4 46 1 #[.slice Ac1 (nx1 + v1 - nx1) (c - nx1)] 22 fun W1 hb1 ch1 sz1 => ?_
  have kk1 : Chg [] w W1 := zA ch1
  have hby1 := (Mur.byt_chg hbc1 kk1 (fun g off e hl => trivial))
  refine rK 5 47 (behind_any ([⟨Ac1, (nx1 + v1 - nx1), (c - nx1), ((b.take (nx1 + v1)).drop nx1)⟩]) (some ⟨w.heap.size, 0, none⟩) 1 1 W1 (Mur.segs_lit [⟨Ac1, (nx1 + v1 - nx1), (c - nx1), ((b.take (nx1 + v1)).drop nx1)⟩] 1 hb1 (Mur.ok_cons ⟨(show nx1 + v1 - nx1 ≤ c - nx1 by omega), (fun h_ => absurd (hAc1.symm.trans h_) (Mur.cutA_ne hb (by omega))), hby1, (show c - nx1 ≤ Go.maxLen by first | omega | (unfold Go.maxLen; omega))⟩ Mur.ok_nil) rfl) (by omega) (by show (((b.take (nx1 + v1)).drop nx1) ++ []).length ≤ _; simp only [List.length_append, List.length_nil]; have hl0 := hby1.1; omega)) ?_
  rintro _ W2 ⟨AA1, nn1, nn2, rfl, ow1, ch2⟩
  have zz2 := ch2.size
  rw [show Mur.flat ([⟨Ac1, (nx1 + v1 - nx1), (c - nx1), ((b.take (nx1 + v1)).drop nx1)⟩]) = ((b.take (nx1 + v1)).drop nx1) from by simp [Mur.flat]] at ow1
  have hq1 := ow1.nc
  have hq2 := ow1.cm
  exact rP 6 48 (vI (nx1 + v1 : Nat))<|rP 7 6 (.slice AA1 nn1 nn2)<|rP 8 7 (vI (nx1 + v1 : Nat))<|rP 9 8 (vI 0)<|eN<|wp_ret<|rt (.tuple #[.slice AA1 nn1 nn2, vI (nx1 + v1 : Nat), vI 0]) ⟨_, _, _, _, _, 0, rfl, .inl ⟨rfl, Mur.own8_low ow1 (by omega), ⟨by omega, by omega⟩, Mur.readB_ok hrd1 (by omega)⟩, (kA kk1 ch2)⟩
 exact rP 3 10 (.tuple #[vU 0, vI 0, vI er1])<|rP 4 14 (vU 0)<|rP 5 15 (vI 0)<|rP 6 16 (vI er1)<|rP 7 9 (vU 0)<|rP 8 1 (vI 0)<|rP 9 8 (vI er1)<|eN<|wp_seq<|wp_block<|sR<|rP 0 18 (vI er1)<|nT 1 19 (er1 : Int) (0 : Int)<|rP 2 17 vT<|eN<|cT<|sR<|rP 0 20 (vI er1)<|rP 1 6 (.slice none 0 0)<|rP 2 7 (vI 0)<|rP 3 8 (vI er1)<|eN<|tI<|rt (.tuple #[.slice none 0 0, vI 0, vI er1]) ⟨_, _, _, [], 0, er1, rfl, .inr ⟨by omega, rfl, rfl, rfl, rfl, Mur.readB_no hrd1⟩, (Chg.refl _)⟩
theorem Ruint_any (gr : Nat) (A : Option Addr) (n c : Nat) (b : List UInt8) (at_ : Nat) (bad : Bool) (w : World) (hr : w.heap[gr]? = some (.cells #[.slice A n c, vI at_, .bool bad] 71 (0, 0))) (hb : Byt w A n b) (hnc : n ≤ c ∧ c ≤ 9223372036854775807) (hneb : ∀ a, A = some a → 0 < n → a.block ≠ gr) (hat : at_ ≤ n) (hn : n ≤ 100000) : Calls Tryz.prog 68 #[pt gr 0] w fun e w' => ∃ (at2 : Nat) (bad2 : Bool) (v : Nat), e = .returned (vU v) ∧ (at_ ≤ at2 ∧ at2 ≤ n) ∧ w'.heap[gr]? = some (.cells #[.slice A n c, vI at2, .bool bad2] 71 (0, 0)) ∧ Mur.Step Mur.readN b at_ bad at2 bad2 v ∧ v < 18446744073709551616 ∧ Chg [gr] w w' := by
 have hne : ∀ g off, A = some ⟨g, off, none⟩ → 0 < n → g ≠ gr := fun g off e hn => hneb _ e hn
 have hbl_ := hb.1
 have hn_ := hn
 have hgl_ := (Array.getElem?_eq_some_iff.1 hr).1
 refine calls_of_wp Tryz.func68 rfl ?_
 refine sR<|rP 0 2 (vU 0)<|eN<|wp_seq<|?_
 refine dReg ([]) (by kernel_rfl) ?_
 intro W1 ch1 sz1
 have zz1 := ch1.size
 have sS1 : Chg ([]) W1 W1 := (Chg.refl _).more (by simp)
 refine dW 0 7 (pt gr 0) sS1<|dW 1 8 (pt gr 0) sS1<|dW 2 9 (pt gr 0) sS1<|dV 3 10 (.slice A n c) rfl rfl (fun w' hw' => ld 22 9 gr 0 (.slice A n c) ((cell_of_row _ _ 0 _ _ _ (qT hw' (qT ch1 hr))).trans rfl)) sS1<|dW 4 11 (pt gr 0) sS1<|dW 5 12 (pt gr 0) sS1<|dW 6 13 (pt gr 1) sS1<|dV 7 14 (vI at_) rfl rfl (fun w' hw' => ld 3 13 gr 1 (vI at_) ((cell_of_row _ _ 1 _ _ _ (qT hw' (qT ch1 hr))).trans rfl)) sS1<|dO 8 ?_
 have kk1 : Chg [gr] (w) W1 := zA ch1
 refine oK 15 (Uint_any b A n c at_ W1 (Mur.byt_chgp hb kk1 (fun g off e hn hl => ⟨by have := hne g off e hn; omega, trivial⟩)) ⟨by omega, by omega⟩ (by omega)) ?_
 rintro _ _ ⟨v1, nx1, er1, rfl, hc1, rfl⟩
 rcases hc1 with ⟨rfl, hv1, hnx1, hrd1⟩ | ⟨hv1, rfl, rfl, hrd1⟩
 ·refine aN sS1<|dW 9 6 (.tuple #[vU v1, vI nx1, vI 0]) sS1<|dW 10 16 (vU v1) sS1<|dW 11 17 (vI nx1) sS1<|dW 12 18 (vI 0) sS1<|dW 13 3 (vU v1) sS1<|dW 14 4 (vI nx1) sS1<|dW 15 5 (vI 0) sS1<|dN<|wp_seq<|sR<|rP 0 19 (vI 0)<|nF 1 20 (0 : Int) (0 : Int)<|eN<|cF<|wp_skip<|nxt<|sR<|rP 0 24 (pt gr 0)<|rP 1 25 (vI nx1)<|rP 2 26 (pt gr 0)<|rP 3 27 (pt gr 1)<|rU 4 rfl (sW 1 (vI nx1) (qT ch1 hr)) fun W2 hb1 ch2 _ => ?_
  replace hb1 : W2.heap[gr]? = some (.cells #[.slice A n c, vI nx1, .bool bad] 71 (0, 0)) := hb1
  have zz2 := ch2.size
  exact eN<|sR<|rP 0 28 (vU v1)<|rP 1 2 (vU v1)<|eN<|wp_ret<|rt (vU v1) ⟨nx1, bad, v1, rfl, ⟨by omega, by omega⟩, hb1, Mur.Step.of_ok hrd1, by omega, (kC kk1 ch2)⟩
 refine aN sS1<|dW 9 6 (.tuple #[vU 0, vI 0, vI er1]) sS1<|dW 10 16 (vU 0) sS1<|dW 11 17 (vI 0) sS1<|dW 12 18 (vI er1) sS1<|dW 13 3 (vU 0) sS1<|dW 14 4 (vI 0) sS1<|dW 15 5 (vI er1) sS1<|dN<|wp_seq<|sR<|rP 0 19 (vI er1)<|nT 1 20 (er1 : Int) (0 : Int)<|eN<|cT<|sR<|rP 0 21 (pt gr 0)<|rP 1 22 (pt gr 0)<|rP 2 23 (pt gr 2)<|rU 3 rfl (sW 2 vT (qT ch1 hr)) fun W3 hb2 ch3 _ => ?_
 replace hb2 : W3.heap[gr]? = some (.cells #[.slice A n c, vI at_, vT] 71 (0, 0)) := hb2
 have zz3 := ch3.size
 exact eN<|sR<|rP 0 2 (vU 0)<|eN<|tR<|rt (vU 0) ⟨at_, true, 0, rfl, ⟨by omega, by omega⟩, hb2, Mur.Step.of_no hrd1 0, by decide, (kC kk1 ch3)⟩
theorem Rint_any (gr : Nat) (A : Option Addr) (n c : Nat) (b : List UInt8) (at_ : Nat) (bad : Bool) (w : World) (hr : w.heap[gr]? = some (.cells #[.slice A n c, vI at_, .bool bad] 71 (0, 0))) (hb : Byt w A n b) (hnc : n ≤ c ∧ c ≤ 9223372036854775807) (hneb : ∀ a, A = some a → 0 < n → a.block ≠ gr) (hat : at_ ≤ n) (hn : n ≤ 100000) : Calls Tryz.prog 38 #[pt gr 0] w fun e w' => ∃ (at2 : Nat) (bad2 : Bool) (v : Nat), e = .returned (vI v) ∧ (at_ ≤ at2 ∧ at2 ≤ n) ∧ w'.heap[gr]? = some (.cells #[.slice A n c, vI at2, .bool bad2] 71 (0, 0)) ∧ Mur.Step Mur.readI b at_ bad at2 bad2 v ∧ v ≤ 1073741824 ∧ Chg [gr] w w' := by
 have hne : ∀ g off, A = some ⟨g, off, none⟩ → 0 < n → g ≠ gr := fun g off e hn => hneb _ e hn
 have hbl_ := hb.1
 have hn_ := hn
 have hgl_ := (Array.getElem?_eq_some_iff.1 hr).1
 refine calls_of_wp Tryz.func38 rfl ?_
 refine sR<|rP 0 2 (vI 0)<|eN<|sR<|rP 0 4 (pt gr 0)<|rK 1 5 (Ruint_any gr A n c b at_ bad w hr hb ⟨by omega, by omega⟩ hneb (by omega) (by omega)) ?_
 rintro _ W1 ⟨at1, bad1, v1, rfl, hat1, hr1, hst1, hlt1, ch1⟩
 have zz1 := ch1.size
 refine rP 2 3 (vU v1)<|eN<|wp_seq<|sR<|rP 0 6 (vU v1) ?_
 by_cases hx1 : (v1 : Int) > (1073741824 : Int)
 ·refine bT 1 7 ((v1 : Int) > (1073741824 : Int))<|eN<|cT<|sR<|rP 0 8 (pt gr 0)<|rP 1 9 (pt gr 0)<|rP 2 10 (pt gr 2)<|rU 3 rfl (sW 2 vT hr1) fun W2 hb1 ch2 _ => ?_
  replace hb1 : W2.heap[gr]? = some (.cells #[.slice A n c, vI at1, vT] 71 (0, 0)) := hb1
  have zz2 := ch2.size
  exact eN<|sR<|rP 0 2 (vI 0)<|eN<|tR<|rt (vI 0) ⟨at1, true, 0, rfl, ⟨by omega, by omega⟩, hb1, (show Mur.Step Mur.readI _ _ _ _ _ _ from Mur.Step.if_no (ok := fun n => decide (n ≤ 2 ^ 30)) hst1 (decide_eq_false (by omega)) 0), by decide, (kC (zC ch1 : Chg [gr] (w) W1) ch2)⟩
 exact bF 1 7 ((v1 : Int) > (1073741824 : Int))<|eN<|cF<|wp_skip<|nxt<|sR<|rP 0 11 (vU v1)<|rq 1 12 (vI v1) rfl (conv_int 23 3 (.tmp 11) rfl (by kernel_rfl) .i64 Tryz.underlying3 .u64 (v1 : Int) (by kernel_rfl) (i64_nat (n := v1) (by omega)))<|rP 2 2 (vI v1)<|eN<|wp_ret<|rt (vI v1) ⟨at1, bad1, v1, rfl, ⟨by omega, by omega⟩, hr1, (show Mur.Step Mur.readI _ _ _ _ _ _ from Mur.Step.if_ok (ok := fun n => decide (n ≤ 2 ^ 30)) hst1 (decide_eq_true (by omega))), by omega, (zC ch1 : Chg [gr] (w) W1)⟩
theorem Rkind_any (gr : Nat) (A : Option Addr) (n c : Nat) (b : List UInt8) (at_ : Nat) (bad : Bool) (w : World) (hr : w.heap[gr]? = some (.cells #[.slice A n c, vI at_, .bool bad] 71 (0, 0))) (hb : Byt w A n b) (hnc : n ≤ c ∧ c ≤ 9223372036854775807) (hneb : ∀ a, A = some a → 0 < n → a.block ≠ gr) (hat : at_ ≤ n) (hn : n ≤ 100000) : Calls Tryz.prog 37 #[pt gr 0] w fun e w' => ∃ (at2 : Nat) (bad2 : Bool) (v : Nat), e = .returned (vB ((UInt8.ofNat v).toNat : Nat)) ∧ (at_ ≤ at2 ∧ at2 ≤ n) ∧ w'.heap[gr]? = some (.cells #[.slice A n c, vI at2, .bool bad2] 71 (0, 0)) ∧ Mur.Step Mur.readK b at_ bad at2 bad2 v ∧ v ≤ 1073741824 ∧ Chg [gr] w w' := by
 have hne : ∀ g off, A = some ⟨g, off, none⟩ → 0 < n → g ≠ gr := fun g off e hn => hneb _ e hn
 have hbl_ := hb.1
 have hn_ := hn
 have hgl_ := (Array.getElem?_eq_some_iff.1 hr).1
 refine calls_of_wp Tryz.func37 rfl ?_
 refine sR<|rP 0 2 (vB 0)<|eN<|sR<|rP 0 4 (pt gr 0)<|rK 1 5 (Rint_any gr A n c b at_ bad w hr hb ⟨by omega, by omega⟩ hneb (by omega) (by omega)) ?_
 rintro _ W1 ⟨at1, bad1, v1, rfl, hat1, hr1, hst1, hlt1, ch1⟩
 have zz1 := ch1.size
 refine rP 2 3 (vI v1)<|eN<|wp_seq<|sR<|rP 0 6 (vI v1) ?_
 by_cases hx1 : (v1 : Int) > (255 : Int)
 ·refine bT 1 7 ((v1 : Int) > (255 : Int))<|eN<|cT<|reg<|rP 0 8 (pt gr 0)<|rP 1 9 (pt gr 0)<|rP 2 10 (pt gr 2)<|rU 3 rfl (sW 2 vT hr1) fun W2 hb1 ch2 _ => ?_
  replace hb1 : W2.heap[gr]? = some (.cells #[.slice A n c, vI at1, vT] 71 (0, 0)) := hb1
  have zz2 := ch2.size
  exact eN<|sR<|rP 0 11 (vI v1)<|rq 1 12 (vB ((UInt8.ofNat v1).toNat : Nat)) rfl (conv_u8o 3 5 (.tmp 11) rfl (by kernel_rfl) Tryz.underlying5 .i64 v1 (by kernel_rfl))<|rP 2 2 (vB ((UInt8.ofNat v1).toNat : Nat))<|eN<|wp_ret<|rt (vB ((UInt8.ofNat v1).toNat : Nat)) ⟨at1, true, v1, rfl, ⟨by omega, by omega⟩, hb1, (show Mur.Step Mur.readK _ _ _ _ _ _ from Mur.Step.if_no (ok := fun n => decide (n ≤ 255)) hst1 (decide_eq_false (by omega)) _), by omega, (kC (zC ch1 : Chg [gr] (w) W1) ch2)⟩
 exact bF 1 7 ((v1 : Int) > (255 : Int))<|eN<|cF<|wp_skip<|nxt<|sR<|rP 0 11 (vI v1)<|rq 1 12 (vB ((UInt8.ofNat v1).toNat : Nat)) rfl (conv_u8o 3 5 (.tmp 11) rfl (by kernel_rfl) Tryz.underlying5 .i64 v1 (by kernel_rfl))<|rP 2 2 (vB ((UInt8.ofNat v1).toNat : Nat))<|eN<|wp_ret<|rt (vB ((UInt8.ofNat v1).toNat : Nat)) ⟨at1, bad1, v1, rfl, ⟨by omega, by omega⟩, hr1, (show Mur.Step Mur.readK _ _ _ _ _ _ from Mur.Step.if_ok (ok := fun n => decide (n ≤ 255)) hst1 (decide_eq_true (by omega))), by omega, (zC ch1 : Chg [gr] (w) W1)⟩
theorem Rflag_any (gr : Nat) (A : Option Addr) (n c : Nat) (b : List UInt8) (at_ : Nat) (bad : Bool) (w : World) (hr : w.heap[gr]? = some (.cells #[.slice A n c, vI at_, .bool bad] 71 (0, 0))) (hb : Byt w A n b) (hnc : n ≤ c ∧ c ≤ 9223372036854775807) (hneb : ∀ a, A = some a → 0 < n → a.block ≠ gr) (hat : at_ ≤ n) (hn : n ≤ 100000) : Calls Tryz.prog 74 #[pt gr 0] w fun e w' => ∃ (at2 : Nat) (bad2 : Bool) (fl : Bool), e = .returned (.bool fl) ∧ (at_ ≤ at2 ∧ at2 ≤ n) ∧ w'.heap[gr]? = some (.cells #[.slice A n c, vI at2, .bool bad2] 71 (0, 0)) ∧ Mur.Step Mur.readFlag b at_ bad at2 bad2 fl ∧ Chg [gr] w w' := by
 have hne : ∀ g off, A = some ⟨g, off, none⟩ → 0 < n → g ≠ gr := fun g off e hn => hneb _ e hn
 have hbl_ := hb.1
 have hn_ := hn
 have hgl_ := (Array.getElem?_eq_some_iff.1 hr).1
 refine calls_of_wp Tryz.func74 rfl ?_
 refine sR<|rP 0 2 vF<|eN<|sR<|rP 0 4 (pt gr 0)<|rK 1 5 (Rint_any gr A n c b at_ bad w hr hb ⟨by omega, by omega⟩ hneb (by omega) (by omega)) ?_
 rintro _ W1 ⟨at1, bad1, v1, rfl, hat1, hr1, hst1, hlt1, ch1⟩
 have zz1 := ch1.size
 refine rP 2 3 (vI v1)<|eN<|wp_seq<|sR<|rP 0 6 (vI v1) ?_
 by_cases hx1 : (v1 : Int) > (1 : Int)
 ·refine bT 1 7 ((v1 : Int) > (1 : Int))<|eN<|cT<|reg<|rP 0 8 (pt gr 0)<|rP 1 9 (pt gr 0)<|rP 2 10 (pt gr 2)<|rU 3 rfl (sW 2 vT hr1) fun W2 hb1 ch2 _ => ?_
  replace hb1 : W2.heap[gr]? = some (.cells #[.slice A n c, vI at1, vT] 71 (0, 0)) := hb1
  have zz2 := ch2.size
  refine eN<|sR<|rP 0 11 (vI v1) ?_
  by_cases hx2 : (v1 : Int) = (1 : Int)
  ·exact eT 1 12 (v1 : Int) (1 : Int)<|rP 2 2 vT<|eN<|wp_ret<|rt vT ⟨at1, true, true, rfl, ⟨by omega, by omega⟩, hb1, (show Mur.Step Mur.readFlag _ _ _ _ _ _ from Mur.Step.map' (Mur.Step.if_no (ok := fun n => decide (n ≤ 1)) hst1 (decide_eq_false (by omega)) v1) (fun n : Nat => decide (n = 1)) (decide_eq_true (by omega))), (kC (zC ch1 : Chg [gr] (w) W1) ch2)⟩
  exact eF 1 12 (v1 : Int) (1 : Int)<|rP 2 2 vF<|eN<|wp_ret<|rt vF ⟨at1, true, false, rfl, ⟨by omega, by omega⟩, hb1, (show Mur.Step Mur.readFlag _ _ _ _ _ _ from Mur.Step.map' (Mur.Step.if_no (ok := fun n => decide (n ≤ 1)) hst1 (decide_eq_false (by omega)) v1) (fun n : Nat => decide (n = 1)) (decide_eq_false (by omega))), (kC (zC ch1 : Chg [gr] (w) W1) ch2)⟩
 refine bF 1 7 ((v1 : Int) > (1 : Int))<|eN<|cF<|wp_skip<|nxt<|sR<|rP 0 11 (vI v1) ?_
 by_cases hx3 : (v1 : Int) = (1 : Int)
 ·exact eT 1 12 (v1 : Int) (1 : Int)<|rP 2 2 vT<|eN<|wp_ret<|rt vT ⟨at1, bad1, true, rfl, ⟨by omega, by omega⟩, hr1, (show Mur.Step Mur.readFlag _ _ _ _ _ _ from Mur.Step.map' (Mur.Step.if_ok (ok := fun n => decide (n ≤ 1)) hst1 (decide_eq_true (by omega))) (fun n : Nat => decide (n = 1)) (decide_eq_true (by omega))), (zC ch1 : Chg [gr] (w) W1)⟩
 exact eF 1 12 (v1 : Int) (1 : Int)<|rP 2 2 vF<|eN<|wp_ret<|rt vF ⟨at1, bad1, false, rfl, ⟨by omega, by omega⟩, hr1, (show Mur.Step Mur.readFlag _ _ _ _ _ _ from Mur.Step.map' (Mur.Step.if_ok (ok := fun n => decide (n ≤ 1)) hst1 (decide_eq_true (by omega))) (fun n : Nat => decide (n = 1)) (decide_eq_false (by omega))), (zC ch1 : Chg [gr] (w) W1)⟩
end Go.Proofs.YtgbadghjnpbiaaaGreatDoor
namespace Go.Proofs.YtgbadghjnpbiaaaGreatDoor
open Go.RowKit Wk
open Mur (b8s Byt Own8 Seg Segs flat cutA attC Att SlA OwnA rowA msgC byt_chgp b8s_length z32 attC_size sub_len attC_all)
set_option maxRecDepth 100000
set_option maxHeartbeats 4000000
theorem Rbytes_of (gr : Nat) (A : Option Addr) (n c : Nat) (b : List UInt8) (at_ : Nat) (bad : Bool) (w : World) (hr : w.heap[gr]? = some (.cells #[.slice A n c, vI at_, .bool bad] 71 (0, 0))) (hb : Byt w A n b) (hnc : n ≤ c ∧ c ≤ 9223372036854775807) (hneb : ∀ a, A = some a → 0 < n → a.block ≠ gr) (hat : at_ ≤ n) (hn : n ≤ 100000) : Calls Tryz.prog 71 #[pt gr 0] w fun e w' => ∃ (at2 : Nat) (bad2 : Bool) (A1 : Option Addr) (n1 c1 : Nat) (x : List UInt8), e = .returned (.slice A1 n1 c1) ∧ (at_ ≤ at2 ∧ at2 ≤ n) ∧ w'.heap[gr]? = some (.cells #[.slice A n c, vI at2, .bool bad2] 71 (0, 0)) ∧ Mur.Step Mur.readB b at_ bad at2 bad2 x ∧ Own8 w' w.heap.size 5 A1 n1 c1 x ∧ Chg [gr] w w' := by
 have hne : ∀ g off, A = some ⟨g, off, none⟩ → 0 < n → g ≠ gr := fun g off e hn => hneb _ e hn
 have hbl_ := hb.1
 have hn_ := hn
 have hgl_ := (Array.getElem?_eq_some_iff.1 hr).1
 refine calls_of_wp Tryz.func71 rfl ?_
 refine sR<|rP 0 2 (.slice none 0 0)<|eN<|wp_seq<|?_
 refine dReg ([]) (by kernel_rfl) ?_
 intro W1 ch1 sz1
 have zz1 := ch1.size
 have sS1 : Chg ([]) W1 W1 := (Chg.refl _).more (by simp)
 refine dW 0 7 (pt gr 0) sS1<|dW 1 8 (pt gr 0) sS1<|dW 2 9 (pt gr 0) sS1<|dV 3 10 (.slice A n c) rfl rfl (fun w' hw' => ld 22 9 gr 0 (.slice A n c) ((cell_of_row _ _ 0 _ _ _ (qT hw' (qT ch1 hr))).trans rfl)) sS1<|dW 4 11 (pt gr 0) sS1<|dW 5 12 (pt gr 0) sS1<|dW 6 13 (pt gr 1) sS1<|dV 7 14 (vI at_) rfl rfl (fun w' hw' => ld 3 13 gr 1 (vI at_) ((cell_of_row _ _ 1 _ _ _ (qT hw' (qT ch1 hr))).trans rfl)) sS1<|dW 8 15 (pt gr 0) sS1<|dW 9 16 (pt gr 0) sS1<|dW 10 17 (pt gr 0) sS1<|dV 11 18 (.slice A n c) rfl rfl (fun w' hw' => ld 22 17 gr 0 (.slice A n c) ((cell_of_row _ _ 0 _ _ _ (qT hw' (qT ch1 hr))).trans rfl)) sS1<|dW 12 19 (vI n) sS1<|dO 13 ?_
 have kk1 : Chg [gr] (w) W1 := zA ch1
 refine oK 20 (WBytes_any b A n c at_ W1 (byt_chgp hb kk1 (fun g off e hn hl => ⟨by have := hne g off e hn; omega, trivial⟩)) ⟨by omega, by omega⟩ (by omega) (by omega)) ?_
 rintro _ W2 ⟨AA1, nn1, cc1, x1, nx1, er1, rfl, hc1, ch2⟩
 have zz2 := ch2.size
 rcases hc1 with ⟨rfl, ow1, hnx1, hrd1⟩ | ⟨hnx1, rfl, rfl, rfl, rfl, hrd1⟩
 ·have sS2 := kA sS1 ch2
  refine aN sS2<|dW 14 6 (.tuple #[.slice AA1 nn1 cc1, vI nx1, vI 0]) sS2<|dW 15 21 (.slice AA1 nn1 cc1) sS2<|dW 16 22 (vI nx1) sS2<|dW 17 23 (vI 0) sS2<|dW 18 3 (.slice AA1 nn1 cc1) sS2<|dW 19 4 (vI nx1) sS2<|dW 20 5 (vI 0) sS2<|dN<|wp_seq<|sR<|rP 0 24 (vI 0)<|nF 1 25 (0 : Int) (0 : Int)<|eN<|cF<|wp_skip<|nxt<|sR<|rP 0 29 (pt gr 0)<|rP 1 30 (vI nx1)<|rP 2 31 (pt gr 0)<|rP 3 32 (pt gr 1)<|rU 4 rfl (sW 1 (vI nx1) (qT ch2 (qT ch1 hr))) fun W3 hb1 ch3 _ => ?_
  replace hb1 : W3.heap[gr]? = some (.cells #[.slice A n c, vI nx1, .bool bad] 71 (0, 0)) := hb1
  have zz3 := ch3.size
  exact eN<|sR<|rP 0 33 (.slice AA1 nn1 cc1)<|rP 1 2 (.slice AA1 nn1 cc1)<|eN<|wp_ret<|rt (.slice AA1 nn1 cc1) ⟨nx1, bad, AA1, nn1, cc1, x1, rfl, ⟨by omega, by omega⟩, hb1, Mur.Step.of_ok hrd1, Mur.own8_low (oB ow1 ch3 ow1.lt) (by omega), (kC (kA kk1 ch2) ch3)⟩
 have sS3 := kA sS1 ch2
 refine aN sS3<|dW 14 6 (.tuple #[.slice none 0 0, vI 0, vI er1]) sS3<|dW 15 21 (.slice none 0 0) sS3<|dW 16 22 (vI 0) sS3<|dW 17 23 (vI er1) sS3<|dW 18 3 (.slice none 0 0) sS3<|dW 19 4 (vI 0) sS3<|dW 20 5 (vI er1) sS3<|dN<|wp_seq<|sR<|rP 0 24 (vI er1)<|nT 1 25 (er1 : Int) (0 : Int)<|eN<|cT<|sR<|rP 0 26 (pt gr 0)<|rP 1 27 (pt gr 0)<|rP 2 28 (pt gr 2)<|rU 3 rfl (sW 2 vT (qT ch2 (qT ch1 hr))) fun W4 hb2 ch4 _ => ?_
 replace hb2 : W4.heap[gr]? = some (.cells #[.slice A n c, vI at_, vT] 71 (0, 0)) := hb2
 have zz4 := ch4.size
 exact eN<|sR<|rP 0 2 (.slice none 0 0)<|eN<|tR<|rt (.slice none 0 0) ⟨at_, true, none, 0, 0, [], rfl, ⟨by omega, by omega⟩, hb2, Mur.Step.of_no hrd1 [], Mur.own8_nil _ _ _, (kC (kA kk1 ch2) ch4)⟩
theorem Rsome_any0 (gr : Nat) (A : Option Addr) (n c : Nat) (b : List UInt8) (at_ : Nat) (bad : Bool) (w : World) (hr : w.heap[gr]? = some (.cells #[.slice A n c, vI at_, .bool bad] 71 (0, 0))) (hb : Byt w A n b) (hnc : n ≤ c ∧ c ≤ 9223372036854775807) (hneb : ∀ a, A = some a → 0 < n → a.block ≠ gr) (hat : at_ ≤ n) (hn : n ≤ 100000) (k : Nat) (hk : k ≤ 1000) : Calls Tryz.prog 76 #[pt gr 0, vI k] w fun e w' => ∃ (at2 : Nat) (bad2 : Bool) (A1 : Option Addr) (n1 c1 : Nat) (x : List UInt8), e = .returned (.slice A1 n1 c1) ∧ (at_ ≤ at2 ∧ at2 ≤ n) ∧ w'.heap[gr]? = some (.cells #[.slice A n c, vI at2, .bool bad2] 71 (0, 0)) ∧ Mur.Step (Mur.readS k) b at_ bad at2 bad2 x ∧ (n1 = k ∧ Byt w' A1 n1 x ∧ n1 ≤ c1 ∧ c1 ≤ 9223372036854775807) ∧ Chg [gr] w w' := by
 have hne : ∀ g off, A = some ⟨g, off, none⟩ → 0 < n → g ≠ gr := fun g off e hn => hneb _ e hn
 have hbl_ := hb.1
 have hn_ := hn
 have hgl_ := (Array.getElem?_eq_some_iff.1 hr).1
 refine calls_of_wp Tryz.func76 rfl ?_
 refine sR<|rP 0 4 (.slice none 0 0)<|eN<|wp_seq<|wp_seq<|?_
 refine dReg ([]) (by kernel_rfl) ?_
 intro W1 ch1 sz1
 have zz1 := ch1.size
 have sS1 : Chg ([]) W1 W1 := (Chg.refl _).more (by simp)
 refine dW 0 5 (pt gr 0) sS1<|dW 1 6 (pt gr 0) sS1<|dW 2 7 (pt gr 0) sS1<|dV 3 8 (.slice A n c) rfl rfl (fun w' hw' => ld 22 7 gr 0 (.slice A n c) ((cell_of_row _ _ 0 _ _ _ (qT hw' (qT ch1 hr))).trans rfl)) sS1<|dW 4 9 (vI n) sS1<|dW 5 10 (pt gr 0) sS1<|dW 6 11 (pt gr 0) sS1<|dW 7 12 (pt gr 1) sS1<|dV 8 13 (vI at_) rfl rfl (fun w' hw' => ld 3 12 gr 1 (vI at_) ((cell_of_row _ _ 1 _ _ _ (qT hw' (qT ch1 hr))).trans rfl)) sS1<|dV 9 14 (vI (n - at_ : Nat)) rfl rfl (fun w' hw' => int64 (n := (n : Int) - (at_ : Int)) (z := ((n - at_ : Nat) : Int)) (by omega) (by omega) (by omega) (by kernel_rfl)) sS1<|dW 10 15 (vI k) sS1 ?_
 by_cases hx1 : ((n - at_ : Nat) : Int) < (k : Int)
 ·refine dV 11 16 vT rfl rfl (fun w' hw' => boolT (b := decide (((n - at_ : Nat) : Int) < (k : Int))) (decide_eq_true (by first | exact hx1 | omega)) (by kernel_rfl)) sS1<|dN<|cT<|sR<|rP 0 17 (pt gr 0)<|rP 1 18 (pt gr 0)<|rP 2 19 (pt gr 2)<|rU 3 rfl (sW 2 vT (qT ch1 hr)) fun W2 hb1 ch2 _ => ?_
  replace hb1 : W2.heap[gr]? = some (.cells #[.slice A n c, vI at_, vT] 71 (0, 0)) := hb1
  have zz2 := ch2.size
  refine eN<|sR<|rP 0 20 (vI k)<|rX 1 21 rfl rfl (Mur.makeZ 22 5 (.tmp 20) rfl Tryz.underlying22 (by kernel_rfl) k (by omega) (by kernel_rfl)) ?_
  rintro _ W3 ⟨rfl, hb2, ch3, sz2⟩
  have zz3 := ch3.size
  refine rP 2 4 (.slice (some ⟨W2.heap.size, 0, none⟩) k k)<|eN<|tR<|?_
  have hbz1 : Byt W3 (some ⟨W2.heap.size, 0, none⟩) k (List.replicate k 0) := (Mur.byt_blk (List.replicate k 0) (by simp) hb2)
  exact rt (.slice (some ⟨W2.heap.size, 0, none⟩) k k) ⟨at_, true, some ⟨W2.heap.size, 0, none⟩, _, k, _, rfl, ⟨by omega, by omega⟩, (qT ch3 hb1), Mur.Step.of_no (Mur.readS_no (by omega) (by omega)) _, ⟨rfl, hbz1, by omega, by omega⟩, (kA (kC (zA ch1 : Chg [gr] (w) W1) ch2) ch3)⟩
 refine dV 11 16 vF rfl rfl (fun w' hw' => boolF (b := decide (((n - at_ : Nat) : Int) < (k : Int))) (decide_eq_false (by first | exact hx1 | omega)) (by kernel_rfl)) sS1<|dN<|cF<|wp_skip<|nxt<|sR<|rP 0 22 (pt gr 0)<|rP 1 23 (pt gr 0)<|rP 2 24 (pt gr 1)<|rL 3 25 1 (vI at_) (qT ch1 hr)<|rP 4 26 (vI k)<|rI 5 27 ((at_ : Int) + (k : Int)) (((at_ + k : Nat) : Int))<|rP 6 28 (pt gr 0)<|rP 7 29 (pt gr 1)<|rU 8 rfl (sW 1 (vI (at_ + k : Nat)) (qT ch1 hr)) fun W4 hb3 ch4 _ => ?_
 replace hb3 : W4.heap[gr]? = some (.cells #[.slice A n c, vI (at_ + k : Nat), .bool bad] 71 (0, 0)) := hb3
 have zz4 := ch4.size
 refine eN<|wp_seq<|?_
 refine dReg ([]) (by kernel_rfl) ?_
 intro W5 ch5 sz3
 have zz5 := ch5.size
 have sS2 : Chg ([]) W5 W5 := (Chg.refl _).more (by simp)
 refine dW 0 30 (pt gr 0) sS2<|dW 1 31 (pt gr 0) sS2<|dW 2 32 (pt gr 0) sS2<|dV 3 33 (.slice A n c) rfl rfl (fun w' hw' => ld 22 32 gr 0 (.slice A n c) ((cell_of_row _ _ 0 _ _ _ (qT hw' (qT ch5 hb3))).trans rfl)) sS2<|dW 4 34 (pt gr 0) sS2<|dW 5 35 (pt gr 0) sS2<|dW 6 36 (pt gr 1) sS2<|dV 7 37 (vI (at_ + k : Nat)) rfl rfl (fun w' hw' => ld 3 36 gr 1 (vI (at_ + k : Nat)) ((cell_of_row _ _ 1 _ _ _ (qT hw' (qT ch5 hb3))).trans rfl)) sS2<|dW 8 38 (vI k) sS2<|dV 9 39 (vI at_) rfl rfl (fun w' hw' => int64 (n := ((at_ + k : Nat) : Int) - (k : Int)) (z := (at_ : Int)) (by omega) (by omega) (by omega) (by kernel_rfl)) sS2<|dW 10 40 (pt gr 0) sS2<|dW 11 41 (pt gr 0) sS2<|dW 12 42 (pt gr 1) sS2<|dV 13 43 (vI (at_ + k : Nat)) rfl rfl (fun w' hw' => ld 3 42 gr 1 (vI (at_ + k : Nat)) ((cell_of_row _ _ 1 _ _ _ (qT hw' (qT ch5 hb3))).trans rfl)) sS2 ?_
 have kk6 := kA (kC (zA ch1 : Chg [gr] (w) W1) ch4) ch5
 obtain ⟨Ac1, hAc1⟩ : ∃ x_, x_ = Mur.cutA A c at_ := ⟨_, rfl⟩
 have hbc1 : Byt (w) Ac1 (at_ + k - at_) ((b.take (at_ + k)).drop at_) := by rw [hAc1]; exact Mur.Byt.cut hb at_ (at_ + k) (by omega) (by omega) (by omega)
 have ltc1 : ∀ g off, Ac1 = some ⟨g, off, none⟩ → 0 < at_ + k - at_ → g ≠ gr := fun g off e hn => Mur.cutA_blk (Q := fun q => q ≠ gr) (fun a_ e2_ => hneb a_ e2_ (by omega)) _ (hAc1.symm.trans e)
 refine dV 14 44 (.slice Ac1 (at_ + k - at_) (c - at_)) rfl rfl (fun w' hw' => by rw [hAc1]; exact Mur.run_op_cutF 22 (.tmp 33) (.tmp 39) (.tmp 43) rfl 5 Tryz.underlying22 (by kernel_rfl) A n c at_ (at_ + k) (by kernel_rfl) (by kernel_rfl) (by kernel_rfl) (by omega) (by omega) (by omega)) sS2<|dW 15 4 (.slice Ac1 (at_ + k - at_) (c - at_)) sS2<|dN<|wp_ret<|?_
 have hbz2 : Byt W5 Ac1 (at_ + k - at_) ((b.take (at_ + k)).drop at_) := (byt_chgp hbc1 kk6 (fun g off e hn hl => ⟨by have := ltc1 g off e hn; omega, trivial⟩))
 exact rt (.slice Ac1 (at_ + k - at_) (c - at_)) ⟨at_ + k, bad, Ac1, _, c - at_, _, rfl, ⟨by omega, by omega⟩, (qT ch5 hb3), Mur.Step.of_ok (Mur.readS_ok (by omega)), ⟨by omega, hbz2, by omega, by omega⟩, kk6⟩
theorem Rsome_any (gr : Nat) (A : Option Addr) (n c : Nat) (b : List UInt8) (at_ : Nat) (bad : Bool) (w : World) (hr : w.heap[gr]? = some (.cells #[.slice A n c, vI at_, .bool bad] 71 (0, 0))) (hb : Byt w A n b) (hnc : n ≤ c ∧ c ≤ 9223372036854775807) (hneb : ∀ a, A = some a → 0 < n → a.block ≠ gr) (hat : at_ ≤ n) (hn : n ≤ 100000) (k : Nat) (hk : k ≤ 1000) : Calls Tryz.prog 76 #[pt gr 0, vI k] w fun e w' => ∃ (at2 : Nat) (bad2 : Bool) (A1 : Option Addr) (c1 : Nat) (x : List UInt8), e = .returned (.slice A1 k c1) ∧ (at_ ≤ at2 ∧ at2 ≤ n) ∧ w'.heap[gr]? = some (.cells #[.slice A n c, vI at2, .bool bad2] 71 (0, 0)) ∧ Mur.Step (Mur.readS k) b at_ bad at2 bad2 x ∧ Byt w' A1 k x ∧ (k ≤ c1 ∧ c1 ≤ 9223372036854775807) ∧ Chg [gr] w w' := by
 refine (Rsome_any0 gr A n c b at_ bad w hr hb hnc hneb hat hn k hk).mono ?_
 rintro _ W ⟨at2, bad2, A1, n1, c1, x, rfl, h1, h2, h3, ⟨rfl, h4, h5, h6⟩, h7⟩
 exact ⟨at2, bad2, A1, c1, x, rfl, h1, h2, h3, h4, ⟨h5, h6⟩, h7⟩
theorem Rdigest_any (gr : Nat) (A : Option Addr) (n c : Nat) (b : List UInt8) (at_ : Nat) (bad : Bool) (w : World) (hr : w.heap[gr]? = some (.cells #[.slice A n c, vI at_, .bool bad] 71 (0, 0))) (hb : Byt w A n b) (hnc : n ≤ c ∧ c ≤ 9223372036854775807) (hneb : ∀ a, A = some a → 0 < n → a.block ≠ gr) (hat : at_ ≤ n) (hn : n ≤ 100000) : Calls Tryz.prog 40 #[pt gr 0] w fun e w' => ∃ (at2 : Nat) (bad2 : Bool) (x : List UInt8), e = .returned (.agg (b8s x).toArray) ∧ (at_ ≤ at2 ∧ at2 ≤ n) ∧ w'.heap[gr]? = some (.cells #[.slice A n c, vI at2, .bool bad2] 71 (0, 0)) ∧ Mur.Step (Mur.readS 32) b at_ bad at2 bad2 x ∧ x.length = 32 ∧ Chg [gr] w w' := by
 have hne : ∀ g off, A = some ⟨g, off, none⟩ → 0 < n → g ≠ gr := fun g off e hn => hneb _ e hn
 have hbl_ := hb.1
 have hn_ := hn
 have hgl_ := (Array.getElem?_eq_some_iff.1 hr).1
 refine calls_of_wp Tryz.func40 rfl ?_
 refine sR<|nW 0 2 Z32 28 fun W1 hb1 ch1 sz1 => eN<|sR<|rP 0 3 (pt gr 0) ?_
 have kk1 : Chg [gr] (w) W1 := zA ch1
 refine rK 1 4 (Rsome_any gr A n c b at_ bad W1 (qT ch1 hr) (byt_chgp hb kk1 (fun g off e hn hl => ⟨by have := hne g off e hn; omega, trivial⟩)) ⟨by omega, by omega⟩ hneb (by omega) (by omega) 32 (by omega)) ?_
 rintro _ W2 ⟨at1, bad1, AA1, cc1, x1, rfl, hat1, hr1, hst1, hb2, hcc1, ch2⟩
 have zz2 := ch2.size
 -- AA1
 obtain ⟨qs1, os1, hq_, _⟩ := hb2.2 (by omega)
 subst hq_
 refine rq 2 5 (pt qs1 os1) rfl (Mur.s2a 28 5 (.tmp 4) 32 rfl Tryz.underlying28 (some ⟨qs1, os1, none⟩) 32 cc1 (by kernel_rfl) (by omega))<|rq 3 6 _ rfl (lR os1 (b8s x1) (Mur.rng_byt hb2) (by rw [b8s_length, hb2.1]; kernel_rfl))<|rU 4 rfl (sC x1 hb2.1 (qO ch2 hb1)) fun W3 hb3 ch3 zz3 => eN<|wp_ret<|?_
 exact retC rfl hb3 (by rw [List.size_toArray, b8s_length, hb2.1]; kernel_rfl) ⟨at1, bad1, x1, rfl, ⟨by omega, by omega⟩, (qO ch3 hr1), hst1, hb2.1, (kB (kC kk1 ch2) ch3)⟩
theorem Rattest_any (gr : Nat) (A : Option Addr) (n c : Nat) (b : List UInt8) (at_ : Nat) (bad : Bool) (w : World) (hr : w.heap[gr]? = some (.cells #[.slice A n c, vI at_, .bool bad] 71 (0, 0))) (hb : Byt w A n b) (hnc : n ≤ c ∧ c ≤ 9223372036854775807) (hneb : ∀ a, A = some a → 0 < n → a.block ≠ gr) (hat : at_ ≤ n) (hn : n ≤ 100000) : Calls Tryz.prog 73 #[pt gr 0] w fun e w' => ∃ (at2 : Nat) (bad2 : Bool) (y : Att), e = .returned (.agg (attC y.k y.r y.n y.t).toArray) ∧ (at_ ≤ at2 ∧ at2 ≤ n) ∧ w'.heap[gr]? = some (.cells #[.slice A n c, vI at2, .bool bad2] 71 (0, 0)) ∧ Mur.Step Mur.readA b at_ bad at2 bad2 y ∧ Chg [gr] w w' := by
 have hne : ∀ g off, A = some ⟨g, off, none⟩ → 0 < n → g ≠ gr := fun g off e hn => hneb _ e hn
 have hbl_ := hb.1
 have hn_ := hn
 have hgl_ := (Array.getElem?_eq_some_iff.1 hr).1
 refine calls_of_wp Tryz.func73 rfl ?_
 refine sR<|nW 0 2 (Mur.attC z32 z32 0 z32).toArray 35 fun W1 hb1 ch1 sz1 => eN<|sR<|rP 0 6 (pt gr 0) ?_
 have kk1 : Chg [gr] (w) W1 := zA ch1
 refine rK 1 7 (Rsome_any gr A n c b at_ bad W1 (qT ch1 hr) (byt_chgp hb kk1 (fun g off e hn hl => ⟨by have := hne g off e hn; omega, trivial⟩)) ⟨by omega, by omega⟩ hneb (by omega) (by omega) 104 (by omega)) ?_
 rintro _ W2 ⟨at1, bad1, AA1, cc1, x1, rfl, hat1, hr1, hst1, hb2, hcc1, ch2⟩
 have zz2 := ch2.size
 refine rC 2 8 95 [.tmp 7] #[22] [.slice AA1 104 cc1] ?_
 obtain ⟨qs1, os1, hq_, _⟩ := hb2.2 (by omega)
 subst hq_
 by_cases hV1 : 1 ≤ Mur.be8 ((x1.take 72).drop 64) ∧ Mur.be8 ((x1.take 72).drop 64) ≤ 5000
 ·refine (Read_ok qs1 os1 cc1 x1 _ _ _ _ _ W2 hb2 (by omega) rfl rfl rfl rfl rfl hV1).mono ?_
  rintro _ W3 ⟨rfl, ch3⟩
  have zz3 := ch3.size
  refine ⟨_, rfl, ?_⟩
  refine rP 3 5 (.tuple #[.agg ((Mur.attC ((x1.take 32).drop 0) ((x1.take 64).drop 32) ((Mur.be8 ((x1.take 72).drop 64) : Nat) : Int) ((x1.take 104).drop 72)).toArray), vI 0])<|rP 4 9 (.agg ((Mur.attC ((x1.take 32).drop 0) ((x1.take 64).drop 32) ((Mur.be8 ((x1.take 72).drop 64) : Nat) : Int) ((x1.take 104).drop 72)).toArray))<|rP 5 10 (vI 0)<|nW 6 3 (Mur.attC z32 z32 0 z32).toArray 35 fun W4 hb3 ch4 sz2 => rU 7 rfl (sB (Mur.attC ((x1.take 32).drop 0) ((x1.take 64).drop 32) ((Mur.be8 ((x1.take 72).drop 64) : Nat) : Int) ((x1.take 104).drop 72)).toArray (attC_size (sub_len hb2.1 (by omega) rfl) (sub_len hb2.1 (by omega) rfl) (sub_len hb2.1 (by omega) rfl)) attC_all hb3 (attC_size rfl rfl rfl)) fun W5 hb4 ch5 zz5 => rP 8 4 (vI 0)<|eN<|wp_seq<|sR<|rP 0 11 (vI 0)<|nF 1 12 (0 : Int) (0 : Int)<|eN<|cF<|wp_skip<|nxt<|sR<|rq 0 16 _ rfl (lA hb4 (attC_size (sub_len hb2.1 (by omega) rfl) (sub_len hb2.1 (by omega) rfl) (sub_len hb2.1 (by omega) rfl)))<|rU 1 rfl (sB (Mur.attC ((x1.take 32).drop 0) ((x1.take 64).drop 32) ((Mur.be8 ((x1.take 72).drop 64) : Nat) : Int) ((x1.take 104).drop 72)).toArray (attC_size (sub_len hb2.1 (by omega) rfl) (sub_len hb2.1 (by omega) rfl) (sub_len hb2.1 (by omega) rfl)) attC_all (qO ch5 (qT ch4 (qT ch3 (qO ch2 hb1)))) (attC_size rfl rfl rfl)) fun W6 hb5 ch6 zz6 => eN<|wp_ret<|?_
  exact retC rfl hb5 (by rw [(attC_size (sub_len hb2.1 (by omega) rfl) (sub_len hb2.1 (by omega) rfl) (sub_len hb2.1 (by omega) rfl))]; kernel_rfl) ⟨at1, bad1, Mur.attOf x1 hb2.1 hV1.2, rfl, ⟨by omega, by omega⟩, (qO ch6 (qO ch5 (qT ch4 (qT ch3 hr1)))), Mur.Step.att_ok hst1 hb2.1 hV1, (kB (kB (kA (kA (kC kk1 ch2) ch3) ch4) ch5) ch6)⟩
 refine (Read_no qs1 os1 cc1 x1 _ _ _ _ _ W2 hb2 (by omega) rfl rfl rfl rfl rfl hV1).mono ?_
 rintro _ W7 ⟨rfl, ch7⟩
 have zz7 := ch7.size
 refine ⟨_, rfl, ?_⟩
 refine rP 3 5 (.tuple #[.agg ((Mur.attC z32 z32 0 z32).toArray), vI 5])<|rP 4 9 (.agg ((Mur.attC z32 z32 0 z32).toArray))<|rP 5 10 (vI 5)<|nW 6 3 (Mur.attC z32 z32 0 z32).toArray 35 fun W8 hb6 ch8 sz3 => rU 7 rfl (sB (Mur.attC z32 z32 0 z32).toArray (attC_size rfl rfl rfl) attC_all hb6 (attC_size rfl rfl rfl)) fun W10 hb7 ch9 zz9 => rP 8 4 (vI 5)<|eN<|wp_seq<|sR<|rP 0 11 (vI 5)<|nT 1 12 (5 : Int) (0 : Int)<|eN<|cT<|reg<|rP 0 13 (pt gr 0)<|rP 1 14 (pt gr 0)<|rP 2 15 (pt gr 2)<|rU 3 rfl (sW 2 vT (qO ch9 (qT ch8 (qT ch7 hr1)))) fun W11 hb8 ch10 _ => ?_
 replace hb8 : W11.heap[gr]? = some (.cells #[.slice A n c, vI at1, vT] 71 (0, 0)) := hb8
 have zz10 := ch10.size
 refine eN<|sR<|rq 0 16 _ rfl (lA (qO ch10 hb7) (attC_size rfl rfl rfl))<|rU 1 rfl (sB (Mur.attC z32 z32 0 z32).toArray (attC_size rfl rfl rfl) attC_all (qO ch10 (qO ch9 (qT ch8 (qT ch7 (qO ch2 hb1))))) (attC_size rfl rfl rfl)) fun W12 hb9 ch11 zz11 => eN<|wp_ret<|?_
 exact retC rfl hb9 (by rw [(attC_size rfl rfl rfl)]; kernel_rfl) ⟨at1, true, Mur.attNone, rfl, ⟨by omega, by omega⟩, (qO ch11 hb8), Mur.Step.att_no hst1 hb2.1 hV1 _, (kB (kC (kB (kA (kA (kC kk1 ch2) ch7) ch8) ch9) ch10) ch11)⟩
theorem Rupdate_any (gr : Nat) (A : Option Addr) (n c : Nat) (b : List UInt8) (at_ : Nat) (bad : Bool) (w : World) (hr : w.heap[gr]? = some (.cells #[.slice A n c, vI at_, .bool bad] 71 (0, 0))) (hb : Byt w A n b) (hnc : n ≤ c ∧ c ≤ 9223372036854775807) (hneb : ∀ a, A = some a → 0 < n → a.block ≠ gr) (hat : at_ ≤ n) (hn : n ≤ 100000) : Calls Tryz.prog 70 #[pt gr 0] w fun e w' => ∃ (at2 : Nat) (bad2 : Bool) (u : Mur.Upd), e = .returned (.agg (Mur.updU u).toArray) ∧ (at_ ≤ at2 ∧ at2 ≤ n) ∧ w'.heap[gr]? = some (.cells #[.slice A n c, vI at2, .bool bad2] 71 (0, 0)) ∧ Mur.Step Mur.readU b at_ bad at2 bad2 u ∧ (u.node ≤ 1073741824 ∧ u.inc < 18446744073709551616) ∧ Chg [gr] w w' := by
 have hne : ∀ g off, A = some ⟨g, off, none⟩ → 0 < n → g ≠ gr := fun g off e hn => hneb _ e hn
 have hbl_ := hb.1
 have hn_ := hn
 have hgl_ := (Array.getElem?_eq_some_iff.1 hr).1
 refine calls_of_wp Tryz.func70 rfl ?_
 refine sR<|nW 0 2 #[vI 0, vB 0, vU 0] 61 fun W1 hb1 ch1 sz1 => eN<|sR<|rP 0 4 (pt gr 0) ?_
 have kk1 : Chg [gr] (w) W1 := zA ch1
 refine rK 1 5 (Rint_any gr A n c b at_ bad W1 (qT ch1 hr) (byt_chgp hb kk1 (fun g off e hn hl => ⟨by have := hne g off e hn; omega, trivial⟩)) ⟨by omega, by omega⟩ hneb (by omega) (by omega)) ?_
 rintro _ W2 ⟨at1, bad1, v1, rfl, hat1, hr1, hst1, hlt1, ch2⟩
 have zz2 := ch2.size
 refine rP 2 6 (.agg #[vI v1, vB 0, vU 0])<|nW 3 3 #[vI 0, vB 0, vU 0] 61 fun W3 hb2 ch3 sz2 => rU 4 rfl (Wk.storeR 61 (.tmp 3) (.tmp 6) rfl W2.heap.size 0 (by kernel_rfl) ([vI v1, vB 0, vU 0]) (by kernel_rfl) (by kernel_rfl) (by intro v hv; simp at hv; rcases hv with h | h | h <;> (subst h; rfl)) 61 ([vI 0, vB 0, vU 0]) hb2 (by simp)) fun W4 hb3 ch4 _ => ?_
 replace hb3 : W4.heap[W2.heap.size]? = some (.cells #[vI v1, vB 0, vU 0] 61 (0, 0)) := hb3
 have zz4 := ch4.size
 refine eN<|sR<|rP 0 7 (pt gr 0) ?_
 have kk4 := kB (kA (kC kk1 ch2) ch3) ch4
 refine rK 1 8 (Rkind_any gr A n c b at1 bad1 W4 (qO ch4 (qT ch3 hr1)) (byt_chgp hb kk4 (fun g off e hn hl => ⟨by have := hne g off e hn; omega, trivial⟩)) ⟨by omega, by omega⟩ hneb (by omega) (by omega)) ?_
 rintro _ W5 ⟨at2, bad2, v2, rfl, hat2, hr2, hst2, hlt2, ch5⟩
 have zz5 := ch5.size
 refine rP 2 9 (pw W2 1)<|rU 3 rfl (sW 1 (vB ((UInt8.ofNat v2).toNat : Nat)) (qO ch5 hb3)) fun W6 hb4 ch6 _ => ?_
 replace hb4 : W6.heap[W2.heap.size]? = some (.cells #[vI v1, vB ((UInt8.ofNat v2).toNat : Nat), vU 0] 61 (0, 0)) := hb4
 have zz6 := ch6.size
 refine eN<|sR<|rP 0 10 (pt gr 0) ?_
 have kk6 := kB (kC kk4 ch5) ch6
 refine rK 1 11 (Ruint_any gr A n c b at2 bad2 W6 (qO ch6 hr2) (byt_chgp hb kk6 (fun g off e hn hl => ⟨by have := hne g off e hn; omega, trivial⟩)) ⟨by omega, by omega⟩ hneb (by omega) (by omega)) ?_
 rintro _ W7 ⟨at3, bad3, v3, rfl, hat3, hr3, hst3, hlt3, ch7⟩
 have zz7 := ch7.size
 refine rP 2 12 (pw W2 2)<|rU 3 rfl (sW 2 (vU v3) (qO ch7 hb4)) fun W8 hb5 ch8 _ => ?_
 replace hb5 : W8.heap[W2.heap.size]? = some (.cells #[vI v1, vB ((UInt8.ofNat v2).toNat : Nat), vU v3] 61 (0, 0)) := hb5
 have zz8 := ch8.size
 refine eN<|sR<|rq 0 13 _ rfl (lR 0 ([vI v1, vB ((UInt8.ofNat v2).toNat : Nat), vU v3]) (range_row hb5))<|rU 1 rfl (Wk.storeR 61 (.tmp 2) (.tmp 13) rfl w.heap.size 0 (by kernel_rfl) ([vI v1, vB ((UInt8.ofNat v2).toNat : Nat), vU v3]) (by kernel_rfl) (by kernel_rfl) (by intro v hv; simp at hv; rcases hv with h | h | h <;> (subst h; rfl)) 61 ([vI 0, vB 0, vU 0]) (qO ch8 (qO ch7 (qO ch6 (qO ch5 (qO ch4 (qT ch3 (qO ch2 hb1))))))) (by simp)) fun W10 hb6 ch9 _ => ?_
 replace hb6 : W10.heap[w.heap.size]? = some (.cells #[vI v1, vB ((UInt8.ofNat v2).toNat : Nat), vU v3] 61 (0, 0)) := hb6
 have zz9 := ch9.size
 refine eN<|wp_ret<|?_
 exact retC rfl hb6 (by kernel_rfl) ⟨at3, bad3, ⟨v1, v2, v3⟩, rfl, ⟨by omega, by omega⟩, (qO ch9 (qO ch8 hr3)), (show Mur.Step Mur.readU _ _ _ _ _ _ from (hst1.seq (hst2.seq hst3)).map (fun y : Nat × Nat × Nat => (⟨y.1, y.2.1, y.2.2⟩ : Mur.Upd))), ⟨by omega, by omega⟩, (kB (kB (kC kk6 ch7) ch8) ch9)⟩
end Go.Proofs.YtgbadghjnpbiaaaGreatDoor
namespace Go.Proofs.YtgbadghjnpbiaaaGreatDoor
open Go.RowKit Wk
open Mur (b8s Byt Own8 Seg Segs flat cutA attC Att SlA OwnA rowA msgC updU readU_less ownR_nil Some_ byt_chgp updU_len slR_box attL readA_less z32 attL_len readD_less b8s_length)
set_option maxRecDepth 100000
set_option maxHeartbeats 4000000
def SevU_F2 (b : Array Value) (u0 u1 u4 u5 : Value) : Act := sg 35 [(0, u0), (1, u1), (4, u4), (5, u5)] b
def SevA_F2 (b : Array Value) (u0 u1 u4 u5 : Value) : Act := sg 35 [(0, u0), (1, u1), (4, u4), (5, u5)] b
def SevD_F2 (b : Array Value) (u0 u1 u4 u5 : Value) : Act := sg 35 [(0, u0), (1, u1), (4, u4), (5, u5)] b
theorem SeveralU_any (gr : Nat) (A : Option Addr) (n c : Nat) (b : List UInt8) (at_ : Nat) (bad : Bool) (w : World) (hr : w.heap[gr]? = some (.cells #[.slice A n c, vI at_, .bool bad] 71 (0, 0))) (hb : Byt w A n b) (hnc : n ≤ c ∧ c ≤ 9223372036854775807) (hneb : ∀ a, A = some a → 0 < n → a.block ≠ gr) (hat : at_ ≤ n) (hn : n ≤ 100000) : Calls Tryz.prog 69 #[pt gr 0, .func (.func 70) #[pt gr 0] #[]] w fun e w' => ∃ (at2 : Nat) (bad2 : Bool) (A1 : Option Addr) (n1 c1 : Nat) (l : List (Mur.Upd)), e = .returned (.slice A1 n1 c1) ∧ (at_ ≤ at2 ∧ at2 ≤ n) ∧ w'.heap[gr]? = some (.cells #[.slice A n c, vI at2, .bool bad2] 71 (0, 0)) ∧ Mur.Step (Mur.readL Mur.readU) b at_ bad at2 bad2 l ∧ (Mur.OwnR w' w.heap.size 61 3 A1 n1 c1 (l.map updU) ∧ ∀ x, x ∈ l → (x.node ≤ 1073741824 ∧ x.inc < 18446744073709551616)) ∧ Chg [gr] w w' := by
 have hne : ∀ g off, A = some ⟨g, off, none⟩ → 0 < n → g ≠ gr := fun g off e hn => hneb _ e hn
 have hbl_ := hb.1
 have hn_ := hn
 have hgl_ := (Array.getElem?_eq_some_iff.1 hr).1
 refine calls_of_wp Tryz.func69 rfl ?_
 refine sR<|rP 0 4 (.slice none 0 0)<|eN<|sR<|rP 0 6 (pt gr 0)<|rK 1 7 (Rint_any gr A n c b at_ bad w hr hb ⟨by omega, by omega⟩ hneb (by omega) (by omega)) ?_
 rintro _ W1 ⟨at1, bad1, v1, rfl, hat1, hr1, hst1, hlt1, ch1⟩
 have zz1 := ch1.size
 cases bad1
 ·refine rP 2 5 (vI v1)<|eN<|wp_seq<|sR<|rP 0 8 (vI v1)<|rP 1 9 (pt gr 0)<|rP 2 10 (pt gr 0)<|rP 3 11 (pt gr 0)<|rL 4 12 0 (.slice A n c) hr1<|rP 5 13 (vI n) ?_
  by_cases hx1 : (v1 : Int) > (n : Int)
  ·refine bT 6 14 ((v1 : Int) > (n : Int))<|eN<|cT<|reg<|rP 0 15 (pt gr 0)<|rP 1 16 (pt gr 0)<|rP 2 17 (pt gr 2)<|rU 3 rfl (sW 2 vT hr1) fun W2 hb1 ch2 _ => ?_
   replace hb1 : W2.heap[gr]? = some (.cells #[.slice A n c, vI at1, vT] 71 (0, 0)) := hb1
   have zz2 := ch2.size
   refine eN<|wp_seq<|wp_block<|?_
   refine Wk.loopN 2 ?_
   refine Wk.rdS<|wp_seq<|sR<|?_
   refine rP 0 18 (vI v1) ?_
   by_cases hx2 : (v1 : Int) > (0 : Int)
   ·exact bT 1 19 ((v1 : Int) > (0 : Int))<|rP 2 20 vT<|rP 3 21 (pt gr 0)<|rP 4 22 (pt gr 0)<|rP 5 23 (pt gr 2)<|rL 6 24 2 vT hb1<|rP 7 25 vF<|rP 8 26 vF<|eN<|cF<|xX<|nxt<|sR<|rP 0 34 (.slice none 0 0)<|rP 1 4 (.slice none 0 0)<|eN<|wp_ret<|rt (.slice none 0 0) ⟨at1, true, none, 0, 0, [], rfl, ⟨by omega, by omega⟩, hb1, Mur.Step.many_big readU_less hst1 (by omega) [], ⟨ownR_nil _ _ _ (by decide), (by simp)⟩, (kC (zC ch1 : Chg [gr] (w) W1) ch2)⟩
   exact bF 1 19 ((v1 : Int) > (0 : Int))<|rP 2 20 vF<|rZ 3 21<|rZ 4 22<|rZ 5 23<|rZ 6 24<|rZ 7 25<|rP 8 26 vF<|eN<|cF<|xX<|nxt<|sR<|rP 0 34 (.slice none 0 0)<|rP 1 4 (.slice none 0 0)<|eN<|wp_ret<|rt (.slice none 0 0) ⟨at1, true, none, 0, 0, [], rfl, ⟨by omega, by omega⟩, hb1, Mur.Step.many_big readU_less hst1 (by omega) [], ⟨ownR_nil _ _ _ (by decide), (by simp)⟩, (kC (zC ch1 : Chg [gr] (w) W1) ch2)⟩
  refine bF 6 14 ((v1 : Int) > (n : Int))<|eN<|cF<|wp_skip<|nxt<|wp_seq<|wp_block<|?_
  refine Wk.loop (fun m_ a wr => ∃ (l : List (Mur.Upd)) (m : Nat) (at2 : Nat) (bad2 : Bool) (A1 : Option Addr) (N1 : Nat) (c1 : Nat), m_ = m ∧ a = SevU_F2 a.tmps (pt gr 0) (.func (.func 70) #[pt gr 0] #[]) (.slice A1 N1 c1) (vI m) ∧ l.length + m = v1 ∧ Mur.OwnR wr w.heap.size 61 3 A1 N1 c1 (l.map updU) ∧ wr.heap[gr]? = some (.cells #[.slice A n c, vI at2, .bool bad2] 71 (0, 0)) ∧ (at1 ≤ at2 ∧ at2 ≤ n) ∧ Some_ Mur.readU b at1 at2 bad2 l ∧ (∀ x, x ∈ l → (x.node ≤ 1073741824 ∧ x.inc < 18446744073709551616)) ∧ Chg [gr] w wr) (v1) ?_ ?_
  ·have kk5 : Chg [gr] (w) W1 := zC ch1
   refine ⟨[], v1, at1, false, none, 0, 0, rfl, by kernel_rfl, (by simp), (ownR_nil _ _ _ (by decide)), hr1, ⟨by omega, by omega⟩, Some_.nil, (by simp), kk5⟩
  rintro mm1 aa1 W3 ⟨l, m, at2, bad2, A1, N1, c1, hmm1, hF1, hlm, hO, hrc, hat2, hso, hQ, HB⟩
  generalize aa1.tmps = bb1 at hF1
  subst hF1
  have hzB := HB.size
  have hOn := hO.nc
  have hOc := hO.cm
  have hOl := hO.len
  rw [List.length_map] at hOl
  refine wp_seq<|sR<|rP 0 18 (vI m) ?_
  by_cases hx3 : (m : Int) > (0 : Int)
  ·refine bT 1 19 ((m : Int) > (0 : Int))<|rP 2 20 vT<|rP 3 21 (pt gr 0)<|rP 4 22 (pt gr 0)<|rP 5 23 (pt gr 2)<|rL 6 24 2 (.bool bad2) hrc<|rP 7 25 (.bool (!bad2))<|rP 8 26 (.bool (!bad2))<|eN<|?_
   cases bad2
   ·refine cT<|wp_skip<|nxt<|wp_seq<|wp_block<|reg<|rP 0 29 (.slice A1 N1 c1)<|rP 1 30 (.func (.func 70) #[pt gr 0] #[]) ?_
    refine Wk.rCallM 2 (some 31) (.tmp 30) 70 #[pt gr 0] [] #[] [] rfl rfl (by kernel_rfl) rfl (by kernel_rfl) (by kernel_rfl) (by kernel_rfl) ?_
    refine (Rupdate_any gr A n c b at2 false W3 hrc (byt_chgp hb HB (fun g off e hn hl => ⟨by have := hne g off e hn; omega, trivial⟩)) ⟨by omega, by omega⟩ hneb (by omega) (by omega)).mono ?_
    rintro _ W4 ⟨at2, bad2, u1, rfl, hat2, hr2, hst2, hu1, ch3⟩
    have zz3 := ch3.size
    refine ⟨_, rfl, ?_⟩
    refine rX 3 32 rfl rfl (Mur.buildR1 24 61 (.tmp 31) rfl Tryz.underlying24 [vI 0, vB 0, vU 0] 3 24 (by kernel_rfl) (by kernel_rfl) (by decide) (by decide) (updU u1) (updU_len u1) (by kernel_rfl)) ?_
    rintro _ W5 ⟨rfl, hb2, ch4, sz1⟩
    have zz4 := ch4.size
    refine rX 4 33 rfl rfl (Mur.appendR (.tmp 29) (.tmp 32) 24 61 rfl Tryz.underlying24 (.agg [vI 0, vB 0, vU 0].toArray) 3 24 (by kernel_rfl) (by kernel_rfl) (by decide) (by decide) w.heap.size A1 N1 c1 (l.map updU) (some ⟨W4.heap.size, 0, none⟩) 1 1 [(updU u1)] (by kernel_rfl) (by kernel_rfl) (Mur.OwnR.chg (Mur.OwnR.chg hO (by decide) ch3 (fun q e _ _ => ⟨by have := hO.lt q e; omega, trivial⟩)) (by decide) ch4 (fun q e _ _ => trivial)) (slR_box (updU_len u1) (Mur.updC_one _) hb2) (fun h => by cases h) (by omega) (by omega) (N1 + 1) rfl) ?_
    rintro _ W6 ⟨AA1, nn1, rfl, ow3, ch5, ha1⟩
    have zz5 := ch5.size
    have ow4 : Mur.OwnR W6 w.heap.size 61 3 AA1 (N1 + 1) nn1 ((l ++ [u1]).map updU) := by rw [List.map_append]; exact ow3
    have hq1 := ow4.nc
    have hq2 := ow4.cm
    refine rP 5 4 (.slice AA1 (N1 + 1) nn1)<|rE<|inN<|nxt<|reg<|rP 0 27 (vI m)<|rI 1 28 ((m : Int) - 1) (((m - 1 : Nat) : Int))<|rP 2 5 (vI (m - 1 : Nat))<|eN<|?_
    refine ⟨_, ?_, l ++ [u1], m - 1, at2, bad2, AA1, N1 + 1, nn1, rfl, by kernel_rfl, (by rw [List.length_append, List.length_singleton]; omega), ow4, (Chg.hp ch5 (qT ch4 hr2) (off_blk (fun gz hgz => by have := hO.lt gz hgz; omega))), ⟨by omega, by omega⟩, (Some_.snoc hso hst2), (fun y_ hy_ => by rcases List.mem_append.1 hy_ with h1_ | h1_ <;> first | exact hQ y_ h1_ | (rw [List.mem_singleton.1 h1_]; exact hu1)), (Chg.step (kA (kC HB ch3) ch4) ch5 (newOr_blk (fun g hg => by have := hO.lt g hg; omega)))⟩
    omega
   exact cF<|xX<|nxt<|sR<|rP 0 34 (.slice A1 N1 c1)<|rP 1 4 (.slice A1 N1 c1)<|eN<|wp_ret<|rt (.slice A1 N1 c1) ⟨at2, true, A1, N1, c1, l, rfl, ⟨by omega, by omega⟩, hrc, Mur.Step.many hst1 hso (by omega) (fun e_ => by cases e_), ⟨hO, hQ⟩, HB⟩
  exact bF 1 19 ((m : Int) > (0 : Int))<|rP 2 20 vF<|rZ 3 21<|rZ 4 22<|rZ 5 23<|rZ 6 24<|rZ 7 25<|rP 8 26 vF<|eN<|cF<|xX<|nxt<|sR<|rP 0 34 (.slice A1 N1 c1)<|rP 1 4 (.slice A1 N1 c1)<|eN<|wp_ret<|rt (.slice A1 N1 c1) ⟨at2, bad2, A1, N1, c1, l, rfl, ⟨by omega, by omega⟩, hrc, Mur.Step.many hst1 hso (by omega) (fun e_ => by omega), ⟨hO, hQ⟩, HB⟩
 refine rP 2 5 (vI v1)<|eN<|wp_seq<|sR<|rP 0 8 (vI v1)<|rP 1 9 (pt gr 0)<|rP 2 10 (pt gr 0)<|rP 3 11 (pt gr 0)<|rL 4 12 0 (.slice A n c) hr1<|rP 5 13 (vI n) ?_
 by_cases hx4 : (v1 : Int) > (n : Int)
 ·refine bT 6 14 ((v1 : Int) > (n : Int))<|eN<|cT<|reg<|rP 0 15 (pt gr 0)<|rP 1 16 (pt gr 0)<|rP 2 17 (pt gr 2)<|rU 3 rfl (sW 2 vT hr1) fun W7 hb3 ch6 _ => ?_
  replace hb3 : W7.heap[gr]? = some (.cells #[.slice A n c, vI at1, vT] 71 (0, 0)) := hb3
  have zz6 := ch6.size
  refine eN<|wp_seq<|wp_block<|?_
  refine Wk.loopN 2 ?_
  refine Wk.rdS<|wp_seq<|sR<|?_
  refine rP 0 18 (vI v1) ?_
  by_cases hx5 : (v1 : Int) > (0 : Int)
  ·exact bT 1 19 ((v1 : Int) > (0 : Int))<|rP 2 20 vT<|rP 3 21 (pt gr 0)<|rP 4 22 (pt gr 0)<|rP 5 23 (pt gr 2)<|rL 6 24 2 vT hb3<|rP 7 25 vF<|rP 8 26 vF<|eN<|cF<|xX<|nxt<|sR<|rP 0 34 (.slice none 0 0)<|rP 1 4 (.slice none 0 0)<|eN<|wp_ret<|rt (.slice none 0 0) ⟨at1, true, none, 0, 0, [], rfl, ⟨by omega, by omega⟩, hb3, Mur.Step.many_bad hst1 [], ⟨ownR_nil _ _ _ (by decide), (by simp)⟩, (kC (zC ch1 : Chg [gr] (w) W1) ch6)⟩
  exact bF 1 19 ((v1 : Int) > (0 : Int))<|rP 2 20 vF<|rZ 3 21<|rZ 4 22<|rZ 5 23<|rZ 6 24<|rZ 7 25<|rP 8 26 vF<|eN<|cF<|xX<|nxt<|sR<|rP 0 34 (.slice none 0 0)<|rP 1 4 (.slice none 0 0)<|eN<|wp_ret<|rt (.slice none 0 0) ⟨at1, true, none, 0, 0, [], rfl, ⟨by omega, by omega⟩, hb3, Mur.Step.many_bad hst1 [], ⟨ownR_nil _ _ _ (by decide), (by simp)⟩, (kC (zC ch1 : Chg [gr] (w) W1) ch6)⟩
 refine bF 6 14 ((v1 : Int) > (n : Int))<|eN<|cF<|wp_skip<|nxt<|wp_seq<|wp_block<|?_
 refine Wk.loopN 2 ?_
 refine Wk.rdS<|wp_seq<|sR<|?_
 refine rP 0 18 (vI v1) ?_
 by_cases hx6 : (v1 : Int) > (0 : Int)
 ·exact bT 1 19 ((v1 : Int) > (0 : Int))<|rP 2 20 vT<|rP 3 21 (pt gr 0)<|rP 4 22 (pt gr 0)<|rP 5 23 (pt gr 2)<|rL 6 24 2 vT hr1<|rP 7 25 vF<|rP 8 26 vF<|eN<|cF<|xX<|nxt<|sR<|rP 0 34 (.slice none 0 0)<|rP 1 4 (.slice none 0 0)<|eN<|wp_ret<|rt (.slice none 0 0) ⟨at1, true, none, 0, 0, [], rfl, ⟨by omega, by omega⟩, hr1, Mur.Step.many_bad hst1 [], ⟨ownR_nil _ _ _ (by decide), (by simp)⟩, (zC ch1 : Chg [gr] (w) W1)⟩
 exact bF 1 19 ((v1 : Int) > (0 : Int))<|rP 2 20 vF<|rZ 3 21<|rZ 4 22<|rZ 5 23<|rZ 6 24<|rZ 7 25<|rP 8 26 vF<|eN<|cF<|xX<|nxt<|sR<|rP 0 34 (.slice none 0 0)<|rP 1 4 (.slice none 0 0)<|eN<|wp_ret<|rt (.slice none 0 0) ⟨at1, true, none, 0, 0, [], rfl, ⟨by omega, by omega⟩, hr1, Mur.Step.many_bad hst1 [], ⟨ownR_nil _ _ _ (by decide), (by simp)⟩, (zC ch1 : Chg [gr] (w) W1)⟩
theorem SeveralA_any (gr : Nat) (A : Option Addr) (n c : Nat) (b : List UInt8) (at_ : Nat) (bad : Bool) (w : World) (hr : w.heap[gr]? = some (.cells #[.slice A n c, vI at_, .bool bad] 71 (0, 0))) (hb : Byt w A n b) (hnc : n ≤ c ∧ c ≤ 9223372036854775807) (hneb : ∀ a, A = some a → 0 < n → a.block ≠ gr) (hat : at_ ≤ n) (hn : n ≤ 100000) : Calls Tryz.prog 72 #[pt gr 0, .func (.func 73) #[pt gr 0] #[]] w fun e w' => ∃ (at2 : Nat) (bad2 : Bool) (A1 : Option Addr) (n1 c1 : Nat) (l : List (Att)), e = .returned (.slice A1 n1 c1) ∧ (at_ ≤ at2 ∧ at2 ≤ n) ∧ w'.heap[gr]? = some (.cells #[.slice A n c, vI at2, .bool bad2] 71 (0, 0)) ∧ Mur.Step (Mur.readL Mur.readA) b at_ bad at2 bad2 l ∧ (Mur.OwnR w' w.heap.size 35 97 A1 n1 c1 (l.map attL) ∧ ∀ x, x ∈ l → True) ∧ Chg [gr] w w' := by
 have hne : ∀ g off, A = some ⟨g, off, none⟩ → 0 < n → g ≠ gr := fun g off e hn => hneb _ e hn
 have hbl_ := hb.1
 have hn_ := hn
 have hgl_ := (Array.getElem?_eq_some_iff.1 hr).1
 refine calls_of_wp Tryz.func72 rfl ?_
 refine sR<|rP 0 4 (.slice none 0 0)<|eN<|sR<|rP 0 6 (pt gr 0)<|rK 1 7 (Rint_any gr A n c b at_ bad w hr hb ⟨by omega, by omega⟩ hneb (by omega) (by omega)) ?_
 rintro _ W1 ⟨at1, bad1, v1, rfl, hat1, hr1, hst1, hlt1, ch1⟩
 have zz1 := ch1.size
 cases bad1
 ·refine rP 2 5 (vI v1)<|eN<|wp_seq<|sR<|rP 0 8 (vI v1)<|rP 1 9 (pt gr 0)<|rP 2 10 (pt gr 0)<|rP 3 11 (pt gr 0)<|rL 4 12 0 (.slice A n c) hr1<|rP 5 13 (vI n) ?_
  by_cases hx1 : (v1 : Int) > (n : Int)
  ·refine bT 6 14 ((v1 : Int) > (n : Int))<|eN<|cT<|reg<|rP 0 15 (pt gr 0)<|rP 1 16 (pt gr 0)<|rP 2 17 (pt gr 2)<|rU 3 rfl (sW 2 vT hr1) fun W2 hb1 ch2 _ => ?_
   replace hb1 : W2.heap[gr]? = some (.cells #[.slice A n c, vI at1, vT] 71 (0, 0)) := hb1
   have zz2 := ch2.size
   refine eN<|wp_seq<|wp_block<|?_
   refine Wk.loopN 2 ?_
   refine Wk.rdS<|wp_seq<|sR<|?_
   refine rP 0 18 (vI v1) ?_
   by_cases hx2 : (v1 : Int) > (0 : Int)
   ·exact bT 1 19 ((v1 : Int) > (0 : Int))<|rP 2 20 vT<|rP 3 21 (pt gr 0)<|rP 4 22 (pt gr 0)<|rP 5 23 (pt gr 2)<|rL 6 24 2 vT hb1<|rP 7 25 vF<|rP 8 26 vF<|eN<|cF<|xX<|nxt<|sR<|rP 0 34 (.slice none 0 0)<|rP 1 4 (.slice none 0 0)<|eN<|wp_ret<|rt (.slice none 0 0) ⟨at1, true, none, 0, 0, [], rfl, ⟨by omega, by omega⟩, hb1, Mur.Step.many_big readA_less hst1 (by omega) [], ⟨ownR_nil _ _ _ (by decide), (by simp)⟩, (kC (zC ch1 : Chg [gr] (w) W1) ch2)⟩
   exact bF 1 19 ((v1 : Int) > (0 : Int))<|rP 2 20 vF<|rZ 3 21<|rZ 4 22<|rZ 5 23<|rZ 6 24<|rZ 7 25<|rP 8 26 vF<|eN<|cF<|xX<|nxt<|sR<|rP 0 34 (.slice none 0 0)<|rP 1 4 (.slice none 0 0)<|eN<|wp_ret<|rt (.slice none 0 0) ⟨at1, true, none, 0, 0, [], rfl, ⟨by omega, by omega⟩, hb1, Mur.Step.many_big readA_less hst1 (by omega) [], ⟨ownR_nil _ _ _ (by decide), (by simp)⟩, (kC (zC ch1 : Chg [gr] (w) W1) ch2)⟩
  refine bF 6 14 ((v1 : Int) > (n : Int))<|eN<|cF<|wp_skip<|nxt<|wp_seq<|wp_block<|?_
  refine Wk.loop (fun m_ a wr => ∃ (l : List (Att)) (m : Nat) (at2 : Nat) (bad2 : Bool) (A1 : Option Addr) (N1 : Nat) (c1 : Nat), m_ = m ∧ a = SevA_F2 a.tmps (pt gr 0) (.func (.func 73) #[pt gr 0] #[]) (.slice A1 N1 c1) (vI m) ∧ l.length + m = v1 ∧ Mur.OwnR wr w.heap.size 35 97 A1 N1 c1 (l.map attL) ∧ wr.heap[gr]? = some (.cells #[.slice A n c, vI at2, .bool bad2] 71 (0, 0)) ∧ (at1 ≤ at2 ∧ at2 ≤ n) ∧ Some_ Mur.readA b at1 at2 bad2 l ∧ (∀ x, x ∈ l → True) ∧ Chg [gr] w wr) (v1) ?_ ?_
  ·have kk5 : Chg [gr] (w) W1 := zC ch1
   refine ⟨[], v1, at1, false, none, 0, 0, rfl, by kernel_rfl, (by simp), (ownR_nil _ _ _ (by decide)), hr1, ⟨by omega, by omega⟩, Some_.nil, (by simp), kk5⟩
  rintro mm1 aa1 W3 ⟨l, m, at2, bad2, A1, N1, c1, hmm1, hF1, hlm, hO, hrc, hat2, hso, hQ, HB⟩
  generalize aa1.tmps = bb1 at hF1
  subst hF1
  have hzB := HB.size
  have hOn := hO.nc
  have hOc := hO.cm
  have hOl := hO.len
  rw [List.length_map] at hOl
  refine wp_seq<|sR<|rP 0 18 (vI m) ?_
  by_cases hx3 : (m : Int) > (0 : Int)
  ·refine bT 1 19 ((m : Int) > (0 : Int))<|rP 2 20 vT<|rP 3 21 (pt gr 0)<|rP 4 22 (pt gr 0)<|rP 5 23 (pt gr 2)<|rL 6 24 2 (.bool bad2) hrc<|rP 7 25 (.bool (!bad2))<|rP 8 26 (.bool (!bad2))<|eN<|?_
   cases bad2
   ·refine cT<|wp_skip<|nxt<|wp_seq<|wp_block<|reg<|rP 0 29 (.slice A1 N1 c1)<|rP 1 30 (.func (.func 73) #[pt gr 0] #[]) ?_
    refine Wk.rCallM 2 (some 31) (.tmp 30) 73 #[pt gr 0] [] #[] [] rfl rfl (by kernel_rfl) rfl (by kernel_rfl) (by kernel_rfl) (by kernel_rfl) ?_
    refine (Rattest_any gr A n c b at2 false W3 hrc (byt_chgp hb HB (fun g off e hn hl => ⟨by have := hne g off e hn; omega, trivial⟩)) ⟨by omega, by omega⟩ hneb (by omega) (by omega)).mono ?_
    rintro _ W4 ⟨at2, bad2, y1, rfl, hat2, hr2, hst2, ch3⟩
    have zz3 := ch3.size
    refine ⟨_, rfl, ?_⟩
    refine rX 3 32 rfl rfl (Mur.buildR1 29 35 (.tmp 31) rfl Tryz.underlying29 (Mur.attC z32 z32 0 z32) 97 104 (by kernel_rfl) (by kernel_rfl) (by decide) (by decide) (attL y1) (attL_len y1) (by kernel_rfl)) ?_
    rintro _ W5 ⟨rfl, hb2, ch4, sz1⟩
    have zz4 := ch4.size
    refine rX 4 33 rfl rfl (Mur.appendR (.tmp 29) (.tmp 32) 29 35 rfl Tryz.underlying29 (.agg (Mur.attC z32 z32 0 z32).toArray) 97 104 (by kernel_rfl) (by kernel_rfl) (by decide) (by decide) w.heap.size A1 N1 c1 (l.map attL) (some ⟨W4.heap.size, 0, none⟩) 1 1 [(attL y1)] (by kernel_rfl) (by kernel_rfl) (Mur.OwnR.chg (Mur.OwnR.chg hO (by decide) ch3 (fun q e _ _ => ⟨by have := hO.lt q e; omega, trivial⟩)) (by decide) ch4 (fun q e _ _ => trivial)) (slR_box (attL_len y1) Mur.attC_one hb2) (fun h => by cases h) (by omega) (by omega) (N1 + 1) rfl) ?_
    rintro _ W6 ⟨AA1, nn1, rfl, ow3, ch5, ha1⟩
    have zz5 := ch5.size
    have ow4 : Mur.OwnR W6 w.heap.size 35 97 AA1 (N1 + 1) nn1 ((l ++ [y1]).map attL) := by rw [List.map_append]; exact ow3
    have hq1 := ow4.nc
    have hq2 := ow4.cm
    refine rP 5 4 (.slice AA1 (N1 + 1) nn1)<|rE<|inN<|nxt<|reg<|rP 0 27 (vI m)<|rI 1 28 ((m : Int) - 1) (((m - 1 : Nat) : Int))<|rP 2 5 (vI (m - 1 : Nat))<|eN<|?_
    refine ⟨_, ?_, l ++ [y1], m - 1, at2, bad2, AA1, N1 + 1, nn1, rfl, by kernel_rfl, (by rw [List.length_append, List.length_singleton]; omega), ow4, (Chg.hp ch5 (qT ch4 hr2) (off_blk (fun gz hgz => by have := hO.lt gz hgz; omega))), ⟨by omega, by omega⟩, (Some_.snoc hso hst2), (fun _ _ => trivial), (Chg.step (kA (kC HB ch3) ch4) ch5 (newOr_blk (fun g hg => by have := hO.lt g hg; omega)))⟩
    omega
   exact cF<|xX<|nxt<|sR<|rP 0 34 (.slice A1 N1 c1)<|rP 1 4 (.slice A1 N1 c1)<|eN<|wp_ret<|rt (.slice A1 N1 c1) ⟨at2, true, A1, N1, c1, l, rfl, ⟨by omega, by omega⟩, hrc, Mur.Step.many hst1 hso (by omega) (fun e_ => by cases e_), ⟨hO, hQ⟩, HB⟩
  exact bF 1 19 ((m : Int) > (0 : Int))<|rP 2 20 vF<|rZ 3 21<|rZ 4 22<|rZ 5 23<|rZ 6 24<|rZ 7 25<|rP 8 26 vF<|eN<|cF<|xX<|nxt<|sR<|rP 0 34 (.slice A1 N1 c1)<|rP 1 4 (.slice A1 N1 c1)<|eN<|wp_ret<|rt (.slice A1 N1 c1) ⟨at2, bad2, A1, N1, c1, l, rfl, ⟨by omega, by omega⟩, hrc, Mur.Step.many hst1 hso (by omega) (fun e_ => by omega), ⟨hO, hQ⟩, HB⟩
 refine rP 2 5 (vI v1)<|eN<|wp_seq<|sR<|rP 0 8 (vI v1)<|rP 1 9 (pt gr 0)<|rP 2 10 (pt gr 0)<|rP 3 11 (pt gr 0)<|rL 4 12 0 (.slice A n c) hr1<|rP 5 13 (vI n) ?_
 by_cases hx4 : (v1 : Int) > (n : Int)
 ·refine bT 6 14 ((v1 : Int) > (n : Int))<|eN<|cT<|reg<|rP 0 15 (pt gr 0)<|rP 1 16 (pt gr 0)<|rP 2 17 (pt gr 2)<|rU 3 rfl (sW 2 vT hr1) fun W7 hb3 ch6 _ => ?_
  replace hb3 : W7.heap[gr]? = some (.cells #[.slice A n c, vI at1, vT] 71 (0, 0)) := hb3
  have zz6 := ch6.size
  refine eN<|wp_seq<|wp_block<|?_
  refine Wk.loopN 2 ?_
  refine Wk.rdS<|wp_seq<|sR<|?_
  refine rP 0 18 (vI v1) ?_
  by_cases hx5 : (v1 : Int) > (0 : Int)
  ·exact bT 1 19 ((v1 : Int) > (0 : Int))<|rP 2 20 vT<|rP 3 21 (pt gr 0)<|rP 4 22 (pt gr 0)<|rP 5 23 (pt gr 2)<|rL 6 24 2 vT hb3<|rP 7 25 vF<|rP 8 26 vF<|eN<|cF<|xX<|nxt<|sR<|rP 0 34 (.slice none 0 0)<|rP 1 4 (.slice none 0 0)<|eN<|wp_ret<|rt (.slice none 0 0) ⟨at1, true, none, 0, 0, [], rfl, ⟨by omega, by omega⟩, hb3, Mur.Step.many_bad hst1 [], ⟨ownR_nil _ _ _ (by decide), (by simp)⟩, (kC (zC ch1 : Chg [gr] (w) W1) ch6)⟩
  exact bF 1 19 ((v1 : Int) > (0 : Int))<|rP 2 20 vF<|rZ 3 21<|rZ 4 22<|rZ 5 23<|rZ 6 24<|rZ 7 25<|rP 8 26 vF<|eN<|cF<|xX<|nxt<|sR<|rP 0 34 (.slice none 0 0)<|rP 1 4 (.slice none 0 0)<|eN<|wp_ret<|rt (.slice none 0 0) ⟨at1, true, none, 0, 0, [], rfl, ⟨by omega, by omega⟩, hb3, Mur.Step.many_bad hst1 [], ⟨ownR_nil _ _ _ (by decide), (by simp)⟩, (kC (zC ch1 : Chg [gr] (w) W1) ch6)⟩
 refine bF 6 14 ((v1 : Int) > (n : Int))<|eN<|cF<|wp_skip<|nxt<|wp_seq<|wp_block<|?_
 refine Wk.loopN 2 ?_
 refine Wk.rdS<|wp_seq<|sR<|?_
 refine rP 0 18 (vI v1) ?_
 by_cases hx6 : (v1 : Int) > (0 : Int)
 ·exact bT 1 19 ((v1 : Int) > (0 : Int))<|rP 2 20 vT<|rP 3 21 (pt gr 0)<|rP 4 22 (pt gr 0)<|rP 5 23 (pt gr 2)<|rL 6 24 2 vT hr1<|rP 7 25 vF<|rP 8 26 vF<|eN<|cF<|xX<|nxt<|sR<|rP 0 34 (.slice none 0 0)<|rP 1 4 (.slice none 0 0)<|eN<|wp_ret<|rt (.slice none 0 0) ⟨at1, true, none, 0, 0, [], rfl, ⟨by omega, by omega⟩, hr1, Mur.Step.many_bad hst1 [], ⟨ownR_nil _ _ _ (by decide), (by simp)⟩, (zC ch1 : Chg [gr] (w) W1)⟩
 exact bF 1 19 ((v1 : Int) > (0 : Int))<|rP 2 20 vF<|rZ 3 21<|rZ 4 22<|rZ 5 23<|rZ 6 24<|rZ 7 25<|rP 8 26 vF<|eN<|cF<|xX<|nxt<|sR<|rP 0 34 (.slice none 0 0)<|rP 1 4 (.slice none 0 0)<|eN<|wp_ret<|rt (.slice none 0 0) ⟨at1, true, none, 0, 0, [], rfl, ⟨by omega, by omega⟩, hr1, Mur.Step.many_bad hst1 [], ⟨ownR_nil _ _ _ (by decide), (by simp)⟩, (zC ch1 : Chg [gr] (w) W1)⟩
theorem SeveralD_any (gr : Nat) (A : Option Addr) (n c : Nat) (b : List UInt8) (at_ : Nat) (bad : Bool) (w : World) (hr : w.heap[gr]? = some (.cells #[.slice A n c, vI at_, .bool bad] 71 (0, 0))) (hb : Byt w A n b) (hnc : n ≤ c ∧ c ≤ 9223372036854775807) (hneb : ∀ a, A = some a → 0 < n → a.block ≠ gr) (hat : at_ ≤ n) (hn : n ≤ 100000) : Calls Tryz.prog 75 #[pt gr 0, .func (.func 40) #[pt gr 0] #[]] w fun e w' => ∃ (at2 : Nat) (bad2 : Bool) (A1 : Option Addr) (n1 c1 : Nat) (l : List (List UInt8)), e = .returned (.slice A1 n1 c1) ∧ (at_ ≤ at2 ∧ at2 ≤ n) ∧ w'.heap[gr]? = some (.cells #[.slice A n c, vI at2, .bool bad2] 71 (0, 0)) ∧ Mur.Step (Mur.readL (Mur.readS 32)) b at_ bad at2 bad2 l ∧ (Mur.OwnR w' w.heap.size 28 32 A1 n1 c1 (l.map b8s) ∧ ∀ x, x ∈ l → x.length = 32) ∧ Chg [gr] w w' := by
 have hne : ∀ g off, A = some ⟨g, off, none⟩ → 0 < n → g ≠ gr := fun g off e hn => hneb _ e hn
 have hbl_ := hb.1
 have hn_ := hn
 have hgl_ := (Array.getElem?_eq_some_iff.1 hr).1
 refine calls_of_wp Tryz.func75 rfl ?_
 refine sR<|rP 0 4 (.slice none 0 0)<|eN<|sR<|rP 0 6 (pt gr 0)<|rK 1 7 (Rint_any gr A n c b at_ bad w hr hb ⟨by omega, by omega⟩ hneb (by omega) (by omega)) ?_
 rintro _ W1 ⟨at1, bad1, v1, rfl, hat1, hr1, hst1, hlt1, ch1⟩
 have zz1 := ch1.size
 cases bad1
 ·refine rP 2 5 (vI v1)<|eN<|wp_seq<|sR<|rP 0 8 (vI v1)<|rP 1 9 (pt gr 0)<|rP 2 10 (pt gr 0)<|rP 3 11 (pt gr 0)<|rL 4 12 0 (.slice A n c) hr1<|rP 5 13 (vI n) ?_
  by_cases hx1 : (v1 : Int) > (n : Int)
  ·refine bT 6 14 ((v1 : Int) > (n : Int))<|eN<|cT<|reg<|rP 0 15 (pt gr 0)<|rP 1 16 (pt gr 0)<|rP 2 17 (pt gr 2)<|rU 3 rfl (sW 2 vT hr1) fun W2 hb1 ch2 _ => ?_
   replace hb1 : W2.heap[gr]? = some (.cells #[.slice A n c, vI at1, vT] 71 (0, 0)) := hb1
   have zz2 := ch2.size
   refine eN<|wp_seq<|wp_block<|?_
   refine Wk.loopN 2 ?_
   refine Wk.rdS<|wp_seq<|sR<|?_
   refine rP 0 18 (vI v1) ?_
   by_cases hx2 : (v1 : Int) > (0 : Int)
   ·exact bT 1 19 ((v1 : Int) > (0 : Int))<|rP 2 20 vT<|rP 3 21 (pt gr 0)<|rP 4 22 (pt gr 0)<|rP 5 23 (pt gr 2)<|rL 6 24 2 vT hb1<|rP 7 25 vF<|rP 8 26 vF<|eN<|cF<|xX<|nxt<|sR<|rP 0 34 (.slice none 0 0)<|rP 1 4 (.slice none 0 0)<|eN<|wp_ret<|rt (.slice none 0 0) ⟨at1, true, none, 0, 0, [], rfl, ⟨by omega, by omega⟩, hb1, Mur.Step.many_big readD_less hst1 (by omega) [], ⟨ownR_nil _ _ _ (by decide), (by simp)⟩, (kC (zC ch1 : Chg [gr] (w) W1) ch2)⟩
   exact bF 1 19 ((v1 : Int) > (0 : Int))<|rP 2 20 vF<|rZ 3 21<|rZ 4 22<|rZ 5 23<|rZ 6 24<|rZ 7 25<|rP 8 26 vF<|eN<|cF<|xX<|nxt<|sR<|rP 0 34 (.slice none 0 0)<|rP 1 4 (.slice none 0 0)<|eN<|wp_ret<|rt (.slice none 0 0) ⟨at1, true, none, 0, 0, [], rfl, ⟨by omega, by omega⟩, hb1, Mur.Step.many_big readD_less hst1 (by omega) [], ⟨ownR_nil _ _ _ (by decide), (by simp)⟩, (kC (zC ch1 : Chg [gr] (w) W1) ch2)⟩
  refine bF 6 14 ((v1 : Int) > (n : Int))<|eN<|cF<|wp_skip<|nxt<|wp_seq<|wp_block<|?_
  refine Wk.loop (fun m_ a wr => ∃ (l : List (List UInt8)) (m : Nat) (at2 : Nat) (bad2 : Bool) (A1 : Option Addr) (N1 : Nat) (c1 : Nat), m_ = m ∧ a = SevD_F2 a.tmps (pt gr 0) (.func (.func 40) #[pt gr 0] #[]) (.slice A1 N1 c1) (vI m) ∧ l.length + m = v1 ∧ Mur.OwnR wr w.heap.size 28 32 A1 N1 c1 (l.map b8s) ∧ wr.heap[gr]? = some (.cells #[.slice A n c, vI at2, .bool bad2] 71 (0, 0)) ∧ (at1 ≤ at2 ∧ at2 ≤ n) ∧ Some_ (Mur.readS 32) b at1 at2 bad2 l ∧ (∀ x, x ∈ l → x.length = 32) ∧ Chg [gr] w wr) (v1) ?_ ?_
  ·have kk5 : Chg [gr] (w) W1 := zC ch1
   refine ⟨[], v1, at1, false, none, 0, 0, rfl, by kernel_rfl, (by simp), (ownR_nil _ _ _ (by decide)), hr1, ⟨by omega, by omega⟩, Some_.nil, (by simp), kk5⟩
  rintro mm1 aa1 W3 ⟨l, m, at2, bad2, A1, N1, c1, hmm1, hF1, hlm, hO, hrc, hat2, hso, hQ, HB⟩
  generalize aa1.tmps = bb1 at hF1
  subst hF1
  have hzB := HB.size
  have hOn := hO.nc
  have hOc := hO.cm
  have hOl := hO.len
  rw [List.length_map] at hOl
  refine wp_seq<|sR<|rP 0 18 (vI m) ?_
  by_cases hx3 : (m : Int) > (0 : Int)
  ·refine bT 1 19 ((m : Int) > (0 : Int))<|rP 2 20 vT<|rP 3 21 (pt gr 0)<|rP 4 22 (pt gr 0)<|rP 5 23 (pt gr 2)<|rL 6 24 2 (.bool bad2) hrc<|rP 7 25 (.bool (!bad2))<|rP 8 26 (.bool (!bad2))<|eN<|?_
   cases bad2
   ·refine cT<|wp_skip<|nxt<|wp_seq<|wp_block<|reg<|rP 0 29 (.slice A1 N1 c1)<|rP 1 30 (.func (.func 40) #[pt gr 0] #[]) ?_
    refine Wk.rCallM 2 (some 31) (.tmp 30) 40 #[pt gr 0] [] #[] [] rfl rfl (by kernel_rfl) rfl (by kernel_rfl) (by kernel_rfl) (by kernel_rfl) ?_
    refine (Rdigest_any gr A n c b at2 false W3 hrc (byt_chgp hb HB (fun g off e hn hl => ⟨by have := hne g off e hn; omega, trivial⟩)) ⟨by omega, by omega⟩ hneb (by omega) (by omega)).mono ?_
    rintro _ W4 ⟨at2, bad2, x1, rfl, hat2, hr2, hst2, hl1, ch3⟩
    have zz3 := ch3.size
    refine ⟨_, rfl, ?_⟩
    refine rX 3 32 rfl rfl (Mur.buildR1 36 28 (.tmp 31) rfl Tryz.underlying36 (b8s z32) 32 32 (by kernel_rfl) (by kernel_rfl) (by decide) (by decide) (b8s x1) (by rw [b8s_length, hl1]) (by kernel_rfl)) ?_
    rintro _ W5 ⟨rfl, hb2, ch4, sz1⟩
    have zz4 := ch4.size
    refine rX 4 33 rfl rfl (Mur.appendR (.tmp 29) (.tmp 32) 36 28 rfl Tryz.underlying36 (.agg (b8s z32).toArray) 32 32 (by kernel_rfl) (by kernel_rfl) (by decide) (by decide) w.heap.size A1 N1 c1 (l.map b8s) (some ⟨W4.heap.size, 0, none⟩) 1 1 [(b8s x1)] (by kernel_rfl) (by kernel_rfl) (Mur.OwnR.chg (Mur.OwnR.chg hO (by decide) ch3 (fun q e _ _ => ⟨by have := hO.lt q e; omega, trivial⟩)) (by decide) ch4 (fun q e _ _ => trivial)) (slR_box (by rw [b8s_length, hl1]) (Mur.b8s_one x1) hb2) (fun h => by cases h) (by omega) (by omega) (N1 + 1) rfl) ?_
    rintro _ W6 ⟨AA1, nn1, rfl, ow3, ch5, ha1⟩
    have zz5 := ch5.size
    have ow4 : Mur.OwnR W6 w.heap.size 28 32 AA1 (N1 + 1) nn1 ((l ++ [x1]).map b8s) := by rw [List.map_append]; exact ow3
    have hq1 := ow4.nc
    have hq2 := ow4.cm
    refine rP 5 4 (.slice AA1 (N1 + 1) nn1)<|rE<|inN<|nxt<|reg<|rP 0 27 (vI m)<|rI 1 28 ((m : Int) - 1) (((m - 1 : Nat) : Int))<|rP 2 5 (vI (m - 1 : Nat))<|eN<|?_
    refine ⟨_, ?_, l ++ [x1], m - 1, at2, bad2, AA1, N1 + 1, nn1, rfl, by kernel_rfl, (by rw [List.length_append, List.length_singleton]; omega), ow4, (Chg.hp ch5 (qT ch4 hr2) (off_blk (fun gz hgz => by have := hO.lt gz hgz; omega))), ⟨by omega, by omega⟩, (Some_.snoc hso hst2), (fun y_ hy_ => by rcases List.mem_append.1 hy_ with h1_ | h1_ <;> first | exact hQ y_ h1_ | (rw [List.mem_singleton.1 h1_]; exact hl1)), (Chg.step (kA (kC HB ch3) ch4) ch5 (newOr_blk (fun g hg => by have := hO.lt g hg; omega)))⟩
    omega
   exact cF<|xX<|nxt<|sR<|rP 0 34 (.slice A1 N1 c1)<|rP 1 4 (.slice A1 N1 c1)<|eN<|wp_ret<|rt (.slice A1 N1 c1) ⟨at2, true, A1, N1, c1, l, rfl, ⟨by omega, by omega⟩, hrc, Mur.Step.many hst1 hso (by omega) (fun e_ => by cases e_), ⟨hO, hQ⟩, HB⟩
  exact bF 1 19 ((m : Int) > (0 : Int))<|rP 2 20 vF<|rZ 3 21<|rZ 4 22<|rZ 5 23<|rZ 6 24<|rZ 7 25<|rP 8 26 vF<|eN<|cF<|xX<|nxt<|sR<|rP 0 34 (.slice A1 N1 c1)<|rP 1 4 (.slice A1 N1 c1)<|eN<|wp_ret<|rt (.slice A1 N1 c1) ⟨at2, bad2, A1, N1, c1, l, rfl, ⟨by omega, by omega⟩, hrc, Mur.Step.many hst1 hso (by omega) (fun e_ => by omega), ⟨hO, hQ⟩, HB⟩
 refine rP 2 5 (vI v1)<|eN<|wp_seq<|sR<|rP 0 8 (vI v1)<|rP 1 9 (pt gr 0)<|rP 2 10 (pt gr 0)<|rP 3 11 (pt gr 0)<|rL 4 12 0 (.slice A n c) hr1<|rP 5 13 (vI n) ?_
 by_cases hx4 : (v1 : Int) > (n : Int)
 ·refine bT 6 14 ((v1 : Int) > (n : Int))<|eN<|cT<|reg<|rP 0 15 (pt gr 0)<|rP 1 16 (pt gr 0)<|rP 2 17 (pt gr 2)<|rU 3 rfl (sW 2 vT hr1) fun W7 hb3 ch6 _ => ?_
  replace hb3 : W7.heap[gr]? = some (.cells #[.slice A n c, vI at1, vT] 71 (0, 0)) := hb3
  have zz6 := ch6.size
  refine eN<|wp_seq<|wp_block<|?_
  refine Wk.loopN 2 ?_
  refine Wk.rdS<|wp_seq<|sR<|?_
  refine rP 0 18 (vI v1) ?_
  by_cases hx5 : (v1 : Int) > (0 : Int)
  ·exact bT 1 19 ((v1 : Int) > (0 : Int))<|rP 2 20 vT<|rP 3 21 (pt gr 0)<|rP 4 22 (pt gr 0)<|rP 5 23 (pt gr 2)<|rL 6 24 2 vT hb3<|rP 7 25 vF<|rP 8 26 vF<|eN<|cF<|xX<|nxt<|sR<|rP 0 34 (.slice none 0 0)<|rP 1 4 (.slice none 0 0)<|eN<|wp_ret<|rt (.slice none 0 0) ⟨at1, true, none, 0, 0, [], rfl, ⟨by omega, by omega⟩, hb3, Mur.Step.many_bad hst1 [], ⟨ownR_nil _ _ _ (by decide), (by simp)⟩, (kC (zC ch1 : Chg [gr] (w) W1) ch6)⟩
  exact bF 1 19 ((v1 : Int) > (0 : Int))<|rP 2 20 vF<|rZ 3 21<|rZ 4 22<|rZ 5 23<|rZ 6 24<|rZ 7 25<|rP 8 26 vF<|eN<|cF<|xX<|nxt<|sR<|rP 0 34 (.slice none 0 0)<|rP 1 4 (.slice none 0 0)<|eN<|wp_ret<|rt (.slice none 0 0) ⟨at1, true, none, 0, 0, [], rfl, ⟨by omega, by omega⟩, hb3, Mur.Step.many_bad hst1 [], ⟨ownR_nil _ _ _ (by decide), (by simp)⟩, (kC (zC ch1 : Chg [gr] (w) W1) ch6)⟩
 refine bF 6 14 ((v1 : Int) > (n : Int))<|eN<|cF<|wp_skip<|nxt<|wp_seq<|wp_block<|?_
 refine Wk.loopN 2 ?_
 refine Wk.rdS<|wp_seq<|sR<|?_
 refine rP 0 18 (vI v1) ?_
 by_cases hx6 : (v1 : Int) > (0 : Int)
 ·exact bT 1 19 ((v1 : Int) > (0 : Int))<|rP 2 20 vT<|rP 3 21 (pt gr 0)<|rP 4 22 (pt gr 0)<|rP 5 23 (pt gr 2)<|rL 6 24 2 vT hr1<|rP 7 25 vF<|rP 8 26 vF<|eN<|cF<|xX<|nxt<|sR<|rP 0 34 (.slice none 0 0)<|rP 1 4 (.slice none 0 0)<|eN<|wp_ret<|rt (.slice none 0 0) ⟨at1, true, none, 0, 0, [], rfl, ⟨by omega, by omega⟩, hr1, Mur.Step.many_bad hst1 [], ⟨ownR_nil _ _ _ (by decide), (by simp)⟩, (zC ch1 : Chg [gr] (w) W1)⟩
 exact bF 1 19 ((v1 : Int) > (0 : Int))<|rP 2 20 vF<|rZ 3 21<|rZ 4 22<|rZ 5 23<|rZ 6 24<|rZ 7 25<|rP 8 26 vF<|eN<|cF<|xX<|nxt<|sR<|rP 0 34 (.slice none 0 0)<|rP 1 4 (.slice none 0 0)<|eN<|wp_ret<|rt (.slice none 0 0) ⟨at1, true, none, 0, 0, [], rfl, ⟨by omega, by omega⟩, hr1, Mur.Step.many_bad hst1 [], ⟨ownR_nil _ _ _ (by decide), (by simp)⟩, (zC ch1 : Chg [gr] (w) W1)⟩
end Go.Proofs.YtgbadghjnpbiaaaGreatDoor
namespace Go.Proofs.YtgbadghjnpbiaaaGreatDoor
open Go.RowKit Wk
open Mur (b8s Byt Own8 Seg Segs flat cutA attC Att SlA OwnA rowA msgC ofCon headM segs_cell frmL_sz byt_chgp store_segs frmL sl0 z32 store_seg1 lies_probe sl0_in b8s_length b8s_one byt_chg run_built claimC_length claimC_one zs0 lies_none attC_length)
set_option maxRecDepth 100000
set_option maxHeartbeats 4000000
theorem Rfields_any (gr : Nat) (A : Option Addr) (n c : Nat) (b : List UInt8) (at_ : Nat) (bad : Bool) (gf : Nat) (kd : UInt8) (a d : Nat) (w : World) (hr : w.heap[gr]? = some (.cells #[.slice A n c, vI at_, .bool bad] 71 (0, 0))) (hb : Byt w A n b) (hnc : n ≤ c ∧ c ≤ 9223372036854775807) (hneb : ∀ a, A = some a → 0 < n → a.block ≠ gr) (hat : at_ ≤ n) (hn : n ≤ 100000) (hf : w.heap[gf]? = some (.cells (frmh kd (a : Int) (d : Int)).flatten.toArray 38 (0, 0))) (hgf : gf ≠ gr) (hnef : ∀ a, A = some a → 0 < n → a.block ≠ gf) : Calls Tryz.prog 39 #[pt gr 0, pt gf 0] w fun e w' => ∃ (at2 : Nat) (bad2 : Bool) (F : Mur.Frm) (Z : Mur.Zs), e = .returned (.tuple #[]) ∧ (at_ ≤ at2 ∧ at2 ≤ n) ∧ w'.heap[gr]? = some (.cells #[.slice A n c, vI at2, .bool bad2] 71 (0, 0)) ∧ w'.heap[gf]? = some (.cells (Mur.frmP F Z).flatten.toArray 38 (0, 0)) ∧ Mur.LiesF w' Z F ∧ Z.In (fun g => w.heap.size ≤ g) ∧ F.kind = kd ∧ ((∃ c, Mur.Step (Mur.readC kd.toNat) b at_ bad at2 bad2 c ∧ F = ofCon a d c ∧ Mur.inC c) ∨ ((kd.toNat < 1 ∨ 6 < kd.toNat) ∧ F = headM kd (a : Int) (d : Int) ∧ at2 = at_ ∧ bad2 = bad)) ∧ Chg [gr, gf] w w' := by
 have hgfl_ := (Array.getElem?_eq_some_iff.1 hf).1
 have hne : ∀ g off, A = some ⟨g, off, none⟩ → 0 < n → g ≠ gr := fun g off e hn => hneb _ e hn
 have hbl_ := hb.1
 have hn_ := hn
 have hgl_ := (Array.getElem?_eq_some_iff.1 hr).1
 have hne2 : ∀ g off, A = some ⟨g, off, none⟩ → 0 < n → g ≠ gr ∧ g ≠ gf := fun g off e hn => ⟨hneb _ e hn, hnef _ e hn⟩
 refine calls_of_wp Tryz.func39 rfl ?_
 refine sR<|rP 0 5 (pt gf 0)<|rP 1 6 (pt gf 0)<|rP 2 7 (pt gf 0)<|rF 3 8 0 (vB kd.toNat) (frmL_sz rfl rfl rfl rfl rfl rfl) hf 0<|eN<|wp_block<|sR<|?_
 by_cases hx1 : (kd.toNat : Int) = (1 : Int)
 ·refine eT 0 10 (kd.toNat : Int) (1 : Int)<|rP 1 9 vT<|eN<|cT<|wp_seq<|?_
  refine dReg ([gr, gf]) (by kernel_rfl) ?_
  intro W1 ch1 sz1
  have zz1 := ch1.size
  have sS1 : Chg ([gr, gf]) W1 W1 := (Chg.refl _).more (by simp)
  refine dW 0 11 (pt gf 0) sS1<|dW 1 12 (pt gf 0) sS1<|dW 2 13 (pt gf 0) sS1<|dW 3 14 (pt gf 2) sS1<|dW 5 16 (pt gr 0) sS1 ?_
  refine dOp2 4 6 (by kernel_rfl) ?_ ?_
  ·refine Wk.oVal (some 15) (vI d) rfl rfl (by kernel_rfl) (fl 3 14 gf 2 (vI d) (frmL_sz rfl rfl rfl rfl rfl rfl) (qT ch1 hf) 2) ?_
   refine aN sS1<|dO 6 ?_
   have kk1 : Chg [gr, gf] (w) W1 := zA ch1
   refine oK 17 (Rkind_any gr A n c b at_ bad W1 (qT ch1 hr) (byt_chgp hb kk1 (fun g off e hn hl => ⟨by have := hne2 g off e hn; omega, ⟨by have := hne2 g off e hn; omega, trivial⟩⟩)) ⟨by omega, by omega⟩ hneb (by omega) (by omega)) ?_
   rintro _ W2 ⟨at1, bad1, v1, rfl, hat1, hr1, hst1, hlt1, ch2⟩
   have zz2 := ch2.size
   have sS2 := kC sS1 ch2
   refine aN sS2<|dW 7 18 (.agg #[vI d, vB ((UInt8.ofNat v1).toNat : Nat), vU 0, vI 0, .slice none 0 0]) sS2<|dW 8 19 (pt gf 0) sS2<|dW 9 20 (pt gf 3) sS2<|dO 10<|oU rfl (store_segs 26 (.tmp 20) (.tmp 18) rfl 3 (by kernel_rfl) [vI d, vB ((UInt8.ofNat v1).toNat : Nat), vU 0, vI 0, .slice none 0 0] (by kernel_rfl) (by kernel_rfl) (by intro v hv; simp only [List.mem_cons, List.not_mem_nil, or_false] at hv; rcases hv with h | h | h | h | h <;> (subst h; rfl)) 38 (frmL_sz rfl rfl rfl rfl rfl rfl) (qO ch2 (qT ch1 hf)) 3 [[vI d], [vB ((UInt8.ofNat v1).toNat : Nat)], [vU 0], [vI 0], [.slice none 0 0]] rfl rfl rfl (frmL kd (a : Int) (d : Int) (d : Int) (UInt8.ofNat v1) 0 0 sl0 0 sl0 z32 0 sl0 false z32 0 0 0 false z32 z32 0 z32 z32 0 sl0 sl0) rfl) fun W3 hb1 ch3 zz3 => ?_
   have sS3 := kC sS2 ch3
   refine aN sS3<|dN<|sR<|rP 0 21 (pt gf 0)<|rP 1 22 (pt gr 0) ?_
   have kk3 := kC (kC kk1 ch2) ch3
   refine rK 2 23 (Ruint_any gr A n c b at1 bad1 W3 (qO ch3 hr1) (byt_chgp hb kk3 (fun g off e hn hl => ⟨by have := hne2 g off e hn; omega, ⟨by have := hne2 g off e hn; omega, trivial⟩⟩)) ⟨by omega, by omega⟩ hneb (by omega) (by omega)) ?_
   rintro _ W4 ⟨at2, bad2, v2, rfl, hat2, hr2, hst2, hlt2, ch4⟩
   have zz4 := ch4.size
   refine rP 3 24 (pt gf 0)<|rP 4 25 (pt gf 3)<|rP 5 26 (pt gf 5)<|rU 6 rfl (sG 5 (vU v2) (frmL_sz rfl rfl rfl rfl rfl rfl) (qO ch4 hb1) 5 (frmL kd (a : Int) (d : Int) (d : Int) (UInt8.ofNat v1) v2 0 sl0 0 sl0 z32 0 sl0 false z32 0 0 0 false z32 z32 0 z32 z32 0 sl0 sl0)) fun W5 hb2 ch5 zz5 => eN<|sR<|rP 0 27 (pt gf 0)<|rP 1 28 (pt gr 0) ?_
   have kk5 := kC (kC kk3 ch4) ch5
   refine rK 2 29 (Rint_any gr A n c b at2 bad2 W5 (qO ch5 hr2) (byt_chgp hb kk5 (fun g off e hn hl => ⟨by have := hne2 g off e hn; omega, ⟨by have := hne2 g off e hn; omega, trivial⟩⟩)) ⟨by omega, by omega⟩ hneb (by omega) (by omega)) ?_
   rintro _ W6 ⟨at3, bad3, v3, rfl, hat3, hr3, hst3, hlt3, ch6⟩
   have zz6 := ch6.size
   refine rP 3 30 (pt gf 0)<|rP 4 31 (pt gf 3)<|rP 5 32 (pt gf 6)<|rU 6 rfl (sG 6 (vI v3) (frmL_sz rfl rfl rfl rfl rfl rfl) (qO ch6 hb2) 6 (frmL kd (a : Int) (d : Int) (d : Int) (UInt8.ofNat v1) v2 (v3 : Int) sl0 0 sl0 z32 0 sl0 false z32 0 0 0 false z32 z32 0 z32 z32 0 sl0 sl0)) fun W7 hb3 ch7 zz7 => eN<|reg<|rP 0 33 (pt gf 0)<|rP 1 34 (pt gr 0)<|rP 2 35 (pt gr 0)<|rP 3 36 (.func (.func 70) #[pt gr 0] #[]) ?_
   have kk7 := kC (kC kk5 ch6) ch7
   refine rK 4 37 (SeveralU_any gr A n c b at3 bad3 W7 (qO ch7 hr3) (byt_chgp hb kk7 (fun g off e hn hl => ⟨by have := hne2 g off e hn; omega, ⟨by have := hne2 g off e hn; omega, trivial⟩⟩)) ⟨by omega, by omega⟩ hneb (by omega) (by omega)) ?_
   rintro _ W8 ⟨at4, bad4, AA1, nn1, cc1, l1, rfl, hat4, hr4, hst4, ⟨ow1, hQ1⟩, ch8⟩
   have zz8 := ch8.size
   have ltR1 := ow1.at_
   have hq1 := ow1.nc
   have hq2 := ow1.cm
   have hq3 := ow1.len
   refine rP 5 38 (pt gf 0)<|rP 6 39 (pt gf 3)<|rP 7 40 (pt gf 7)<|rU 8 rfl (sG 7 (.slice AA1 nn1 cc1) (frmL_sz rfl rfl rfl rfl rfl rfl) (qO ch8 hb3) 7 (frmL kd (a : Int) (d : Int) (d : Int) (UInt8.ofNat v1) v2 (v3 : Int) ⟨AA1, nn1, cc1⟩ 0 sl0 z32 0 sl0 false z32 0 0 0 false z32 z32 0 z32 z32 0 sl0 sl0)) fun W10 hb4 ch9 zz9 => rE<|inN<|?_
   have hgf1 := hb4
   obtain rfl : kd = 1 := kI 1
   exact Wk.retN (.tuple #[]) rfl (by kernel_rfl) ⟨at4, bad4, ofCon a d (.probe v1 v2 v3 l1), ⟨⟨AA1, nn1, cc1⟩, sl0, sl0, sl0, sl0⟩, rfl, ⟨by omega, by omega⟩, (qO ch9 hr4), hgf1, lies_probe (u := ⟨AA1, nn1, cc1⟩) (Mur.SlR.keepQ ow1.slR ch9 (fun g off e hl => ⟨by have := ltR1 g off e; omega, trivial⟩)) ⟨ow1.nil, ow1.nc, ow1.cm⟩, ⟨(fun g off e => by have := ow1.at_ g off e; omega), sl0_in, sl0_in, sl0_in, sl0_in⟩, rfl, .inl ⟨.probe v1 v2 v3 l1, (show Mur.Step (Mur.readC 1) _ _ _ _ _ _ from (show Mur.Step Mur.readPr _ _ _ _ _ _ from Mur.Step.map (hst1.seq (hst2.seq (hst3.seq hst4))) (fun y : Nat × Nat × Nat × List Mur.Upd => Mur.Cont.probe y.1 y.2.1 y.2.2.1 y.2.2.2))), rfl, ⟨by omega, by omega, hQ1⟩⟩, (kC (kC kk7 ch8) ch9)⟩
  have kk10 : Chg [gr, gf] (w) W1 := zA ch1
  refine oK 17 (Rkind_any gr A n c b at_ bad W1 (qT ch1 hr) (byt_chgp hb kk10 (fun g off e hn hl => ⟨by have := hne2 g off e hn; omega, ⟨by have := hne2 g off e hn; omega, trivial⟩⟩)) ⟨by omega, by omega⟩ hneb (by omega) (by omega)) ?_
  rintro _ W11 ⟨at5, bad5, v4, rfl, hat5, hr5, hst5, hlt4, ch10⟩
  have zz10 := ch10.size
  have sS4 := kC sS1 ch10
  refine aN sS4<|dO 4 ?_
  refine Wk.oVal (some 15) (vI d) rfl rfl (by kernel_rfl) (fl 3 14 gf 2 (vI d) (frmL_sz rfl rfl rfl rfl rfl rfl) (qO ch10 (qT ch1 hf)) 2) ?_
  refine aN sS4<|dW 7 18 (.agg #[vI d, vB ((UInt8.ofNat v4).toNat : Nat), vU 0, vI 0, .slice none 0 0]) sS4<|dW 8 19 (pt gf 0) sS4<|dW 9 20 (pt gf 3) sS4<|dO 10<|oU rfl (store_segs 26 (.tmp 20) (.tmp 18) rfl 3 (by kernel_rfl) [vI d, vB ((UInt8.ofNat v4).toNat : Nat), vU 0, vI 0, .slice none 0 0] (by kernel_rfl) (by kernel_rfl) (by intro v hv; simp only [List.mem_cons, List.not_mem_nil, or_false] at hv; rcases hv with h | h | h | h | h <;> (subst h; rfl)) 38 (frmL_sz rfl rfl rfl rfl rfl rfl) (qO ch10 (qT ch1 hf)) 3 [[vI d], [vB ((UInt8.ofNat v4).toNat : Nat)], [vU 0], [vI 0], [.slice none 0 0]] rfl rfl rfl (frmL kd (a : Int) (d : Int) (d : Int) (UInt8.ofNat v4) 0 0 sl0 0 sl0 z32 0 sl0 false z32 0 0 0 false z32 z32 0 z32 z32 0 sl0 sl0) rfl) fun W12 hb5 ch11 zz11 => ?_
  have sS5 := kC sS4 ch11
  refine aN sS5<|dN<|sR<|rP 0 21 (pt gf 0)<|rP 1 22 (pt gr 0) ?_
  have kk12 := kC (kC kk10 ch10) ch11
  refine rK 2 23 (Ruint_any gr A n c b at5 bad5 W12 (qO ch11 hr5) (byt_chgp hb kk12 (fun g off e hn hl => ⟨by have := hne2 g off e hn; omega, ⟨by have := hne2 g off e hn; omega, trivial⟩⟩)) ⟨by omega, by omega⟩ hneb (by omega) (by omega)) ?_
  rintro _ W13 ⟨at6, bad6, v5, rfl, hat6, hr6, hst6, hlt5, ch12⟩
  have zz12 := ch12.size
  refine rP 3 24 (pt gf 0)<|rP 4 25 (pt gf 3)<|rP 5 26 (pt gf 5)<|rU 6 rfl (sG 5 (vU v5) (frmL_sz rfl rfl rfl rfl rfl rfl) (qO ch12 hb5) 5 (frmL kd (a : Int) (d : Int) (d : Int) (UInt8.ofNat v4) v5 0 sl0 0 sl0 z32 0 sl0 false z32 0 0 0 false z32 z32 0 z32 z32 0 sl0 sl0)) fun W14 hb6 ch13 zz13 => eN<|sR<|rP 0 27 (pt gf 0)<|rP 1 28 (pt gr 0) ?_
  have kk14 := kC (kC kk12 ch12) ch13
  refine rK 2 29 (Rint_any gr A n c b at6 bad6 W14 (qO ch13 hr6) (byt_chgp hb kk14 (fun g off e hn hl => ⟨by have := hne2 g off e hn; omega, ⟨by have := hne2 g off e hn; omega, trivial⟩⟩)) ⟨by omega, by omega⟩ hneb (by omega) (by omega)) ?_
  rintro _ W15 ⟨at7, bad7, v6, rfl, hat7, hr7, hst7, hlt6, ch14⟩
  have zz14 := ch14.size
  refine rP 3 30 (pt gf 0)<|rP 4 31 (pt gf 3)<|rP 5 32 (pt gf 6)<|rU 6 rfl (sG 6 (vI v6) (frmL_sz rfl rfl rfl rfl rfl rfl) (qO ch14 hb6) 6 (frmL kd (a : Int) (d : Int) (d : Int) (UInt8.ofNat v4) v5 (v6 : Int) sl0 0 sl0 z32 0 sl0 false z32 0 0 0 false z32 z32 0 z32 z32 0 sl0 sl0)) fun W16 hb7 ch15 zz15 => eN<|reg<|rP 0 33 (pt gf 0)<|rP 1 34 (pt gr 0)<|rP 2 35 (pt gr 0)<|rP 3 36 (.func (.func 70) #[pt gr 0] #[]) ?_
  have kk16 := kC (kC kk14 ch14) ch15
  refine rK 4 37 (SeveralU_any gr A n c b at7 bad7 W16 (qO ch15 hr7) (byt_chgp hb kk16 (fun g off e hn hl => ⟨by have := hne2 g off e hn; omega, ⟨by have := hne2 g off e hn; omega, trivial⟩⟩)) ⟨by omega, by omega⟩ hneb (by omega) (by omega)) ?_
  rintro _ W17 ⟨at8, bad8, AA2, nn2, cc2, l2, rfl, hat8, hr8, hst8, ⟨ow2, hQ2⟩, ch16⟩
  have zz16 := ch16.size
  have ltR2 := ow2.at_
  have hq4 := ow2.nc
  have hq5 := ow2.cm
  have hq6 := ow2.len
  refine rP 5 38 (pt gf 0)<|rP 6 39 (pt gf 3)<|rP 7 40 (pt gf 7)<|rU 8 rfl (sG 7 (.slice AA2 nn2 cc2) (frmL_sz rfl rfl rfl rfl rfl rfl) (qO ch16 hb7) 7 (frmL kd (a : Int) (d : Int) (d : Int) (UInt8.ofNat v4) v5 (v6 : Int) ⟨AA2, nn2, cc2⟩ 0 sl0 z32 0 sl0 false z32 0 0 0 false z32 z32 0 z32 z32 0 sl0 sl0)) fun W18 hb8 ch17 zz17 => rE<|inN<|?_
  have hgf2 := hb8
  obtain rfl : kd = 1 := kI 1
  exact Wk.retN (.tuple #[]) rfl (by kernel_rfl) ⟨at8, bad8, ofCon a d (.probe v4 v5 v6 l2), ⟨⟨AA2, nn2, cc2⟩, sl0, sl0, sl0, sl0⟩, rfl, ⟨by omega, by omega⟩, (qO ch17 hr8), hgf2, lies_probe (u := ⟨AA2, nn2, cc2⟩) (Mur.SlR.keepQ ow2.slR ch17 (fun g off e hl => ⟨by have := ltR2 g off e; omega, trivial⟩)) ⟨ow2.nil, ow2.nc, ow2.cm⟩, ⟨(fun g off e => by have := ow2.at_ g off e; omega), sl0_in, sl0_in, sl0_in, sl0_in⟩, rfl, .inl ⟨.probe v4 v5 v6 l2, (show Mur.Step (Mur.readC 1) _ _ _ _ _ _ from (show Mur.Step Mur.readPr _ _ _ _ _ _ from Mur.Step.map (hst5.seq (hst6.seq (hst7.seq hst8))) (fun y : Nat × Nat × Nat × List Mur.Upd => Mur.Cont.probe y.1 y.2.1 y.2.2.1 y.2.2.2))), rfl, ⟨by omega, by omega, hQ2⟩⟩, (kC (kC kk16 ch16) ch17)⟩
 refine eF 0 10 (kd.toNat : Int) (1 : Int)<|rP 1 9 vF<|eN<|cF<|sR<|?_
 by_cases hx2 : (kd.toNat : Int) = (2 : Int)
 ·refine eT 0 42 (kd.toNat : Int) (2 : Int)<|rP 1 41 vT<|eN<|cT<|sR<|rP 0 43 (pt gf 0)<|rP 1 44 (pt gf 0)<|rP 2 45 (pt gf 8)<|rP 3 4 (pt gf 8)<|eN<|sR<|rP 0 46 (pt gf 8)<|rP 1 47 (pt gr 0)<|rK 2 48 (Rkind_any gr A n c b at_ bad w hr hb ⟨by omega, by omega⟩ hneb (by omega) (by omega)) ?_
  rintro _ W19 ⟨at9, bad9, v7, rfl, hat9, hr9, hst9, hlt7, ch18⟩
  have zz18 := ch18.size
  refine rP 3 49 (pt gf 8)<|rP 4 50 (pt gf 8)<|rU 5 rfl (sG 8 (vB ((UInt8.ofNat v7).toNat : Nat)) (frmL_sz rfl rfl rfl rfl rfl rfl) (qO ch18 hf) 8 (frmL kd (a : Int) (d : Int) 0 0 0 0 sl0 (UInt8.ofNat v7) sl0 z32 0 sl0 false z32 0 0 0 false z32 z32 0 z32 z32 0 sl0 sl0)) fun W20 hb9 ch19 zz19 => eN<|sR<|rP 0 51 (pt gf 8)<|rP 1 52 (pt gr 0) ?_
  have kk20 := kC (zC ch18 : Chg [gr, gf] (w) W19) ch19
  refine rK 2 53 (Rbytes_of gr A n c b at9 bad9 W20 (qO ch19 hr9) (byt_chgp hb kk20 (fun g off e hn hl => ⟨by have := hne2 g off e hn; omega, ⟨by have := hne2 g off e hn; omega, trivial⟩⟩)) ⟨by omega, by omega⟩ hneb (by omega) (by omega)) ?_
  rintro _ W21 ⟨at10, bad10, AA3, nn3, cc3, x1, rfl, hat10, hr10, hst10, ow3, ch20⟩
  have zz20 := ch20.size
  have lt81 := ow3.at_
  have hq7 := ow3.byt.1
  have hq8 := ow3.nc
  have hq9 := ow3.cm
  refine rP 3 54 (pt gf 8)<|rP 4 55 (pt gf 9)<|rU 5 rfl (sG 9 (.slice AA3 nn3 cc3) (frmL_sz rfl rfl rfl rfl rfl rfl) (qO ch20 hb9) 9 (frmL kd (a : Int) (d : Int) 0 0 0 0 sl0 (UInt8.ofNat v7) ⟨AA3, nn3, cc3⟩ z32 0 sl0 false z32 0 0 0 false z32 z32 0 z32 z32 0 sl0 sl0)) fun W22 hb10 ch21 zz21 => eN<|sR<|rP 0 56 (pt gf 8)<|rP 1 57 (pt gf 8)<|rP 2 58 (pt gf 8)<|rF 3 59 8 (vB ((UInt8.ofNat v7).toNat : Nat)) (frmL_sz rfl rfl rfl rfl rfl rfl) hb10 8 ?_
  by_cases hx3 : (((UInt8.ofNat v7).toNat : Nat) : Int) = (1 : Int)
  ·refine eT 4 60 (((UInt8.ofNat v7).toNat : Nat) : Int) (1 : Int)<|eN<|cT<|sR<|rP 0 61 (pt gf 8)<|rP 1 62 (pt gr 0) ?_
   have kk22 := kC (kC kk20 ch20) ch21
   refine rK 2 63 (Rdigest_any gr A n c b at10 bad10 W22 (qO ch21 hr10) (byt_chgp hb kk22 (fun g off e hn hl => ⟨by have := hne2 g off e hn; omega, ⟨by have := hne2 g off e hn; omega, trivial⟩⟩)) ⟨by omega, by omega⟩ hneb (by omega) (by omega)) ?_
   rintro _ W23 ⟨at11, bad11, x2, rfl, hat11, hr11, hst11, hl1, ch22⟩
   have zz22 := ch22.size
   refine rP 3 64 (pt gf 8)<|rP 4 65 (pt gf 10)<|rU 5 rfl (store_segs 28 (.tmp 65) (.tmp 63) rfl 10 (by kernel_rfl) (b8s x2) (by kernel_rfl) (by rw [b8s_length, hl1]; kernel_rfl) (b8s_one x2) 38 (frmL_sz rfl rfl rfl rfl rfl rfl) (qO ch22 hb10) 10 [b8s x2] (by simp) rfl (by rw [b8s_length, hl1]; rfl) (frmL kd (a : Int) (d : Int) 0 0 0 0 sl0 (UInt8.ofNat v7) ⟨AA3, nn3, cc3⟩ x2 0 sl0 false z32 0 0 0 false z32 z32 0 z32 z32 0 sl0 sl0) rfl) fun W24 hb11 ch23 zz23 => eN<|reg<|rP 0 66 (pt gf 8)<|rP 1 67 (pt gr 0) ?_
   have kk24 := kC (kC kk22 ch22) ch23
   refine rK 2 68 (Rint_any gr A n c b at11 bad11 W24 (qO ch23 hr11) (byt_chgp hb kk24 (fun g off e hn hl => ⟨by have := hne2 g off e hn; omega, ⟨by have := hne2 g off e hn; omega, trivial⟩⟩)) ⟨by omega, by omega⟩ hneb (by omega) (by omega)) ?_
   rintro _ W25 ⟨at12, bad12, v8, rfl, hat12, hr12, hst12, hlt8, ch24⟩
   have zz24 := ch24.size
   refine rP 3 69 (pt gf 8)<|rP 4 70 (pt gf 42)<|rU 5 rfl (sG 42 (vI v8) (frmL_sz hl1 rfl rfl rfl rfl rfl) (qO ch24 hb11) 11 (frmL kd (a : Int) (d : Int) 0 0 0 0 sl0 (UInt8.ofNat v7) ⟨AA3, nn3, cc3⟩ x2 (v8 : Int) sl0 false z32 0 0 0 false z32 z32 0 z32 z32 0 sl0 sl0)) fun W26 hb12 ch25 zz25 => rE<|inN<|?_
   have hgf3 := hb12
   obtain rfl : kd = 2 := kI 2
   have hk1_ : UInt8.ofNat v7 = 1 := kI 1
   rw [hk1_] at hgf3
   exact Wk.retN (.tuple #[]) rfl (by kernel_rfl) ⟨at12, bad12, ofCon a d (.sum x1 x2 v8), ⟨sl0, ⟨AA3, nn3, cc3⟩, sl0, sl0, sl0⟩, rfl, ⟨by omega, by omega⟩, (qO ch25 hr12), hgf3, Mur.lies_sum (p := ⟨AA3, nn3, cc3⟩) (byt_chg (byt_chg (byt_chg (byt_chg (byt_chg ow3.byt ch21 (fun g off e hl => ⟨by have := lt81 g off e; omega, trivial⟩)) ch22 (fun g off e hl => ⟨by have := lt81 g off e; omega, trivial⟩)) ch23 (fun g off e hl => ⟨by have := lt81 g off e; omega, trivial⟩)) ch24 (fun g off e hl => ⟨by have := lt81 g off e; omega, trivial⟩)) ch25 (fun g off e hl => ⟨by have := lt81 g off e; omega, trivial⟩)) ⟨ow3.nil, ow3.nc, ow3.cm⟩, ⟨sl0_in, (fun g off e => by have := ow3.at_ g off e; omega), sl0_in, sl0_in, sl0_in⟩, rfl, .inl ⟨.sum x1 x2 v8, (show Mur.Step (Mur.readC 2) _ _ _ _ _ _ from Mur.Step.gos_sum hst9 (show Mur.Step Mur.readSm _ _ _ _ _ _ from Mur.Step.map (hst10.seq (hst11.seq hst12)) (fun y : List UInt8 × List UInt8 × Nat => Mur.Cont.sum y.1 y.2.1 y.2.2)) hk1_), rfl, ⟨hl1, by omega⟩⟩, (kC (kC kk24 ch24) ch25)⟩
  refine eF 4 60 (((UInt8.ofNat v7).toNat : Nat) : Int) (1 : Int)<|eN<|cF<|sR<|rP 0 71 (pt gf 8)<|rP 1 72 (pt gr 0)<|rP 2 73 (pt gr 0)<|rP 3 74 (.func (.func 73) #[pt gr 0] #[]) ?_
  have kk28 := kC (kC kk20 ch20) ch21
  refine rK 4 75 (SeveralA_any gr A n c b at10 bad10 W22 (qO ch21 hr10) (byt_chgp hb kk28 (fun g off e hn hl => ⟨by have := hne2 g off e hn; omega, ⟨by have := hne2 g off e hn; omega, trivial⟩⟩)) ⟨by omega, by omega⟩ hneb (by omega) (by omega)) ?_
  rintro _ W27 ⟨at13, bad13, AA4, nn4, cc4, l3, rfl, hat13, hr13, hst13, ⟨ow4, hQ3⟩, ch26⟩
  have zz26 := ch26.size
  have ltR3 := ow4.at_
  have hq10 := ow4.nc
  have hq11 := ow4.cm
  have hq12 := ow4.len
  refine rP 5 76 (pt gf 8)<|rP 6 77 (pt gf 43)<|rU 7 rfl (sG 43 (.slice AA4 nn4 cc4) (frmL_sz rfl rfl rfl rfl rfl rfl) (qO ch26 hb10) 12 (frmL kd (a : Int) (d : Int) 0 0 0 0 sl0 (UInt8.ofNat v7) ⟨AA3, nn3, cc3⟩ z32 0 ⟨AA4, nn4, cc4⟩ false z32 0 0 0 false z32 z32 0 z32 z32 0 sl0 sl0)) fun W28 hb13 ch27 zz27 => eN<|reg<|rP 0 78 (pt gf 8)<|rP 1 79 (pt gr 0) ?_
  have kk30 := kC (kC kk28 ch26) ch27
  refine rK 2 80 (Rflag_any gr A n c b at13 bad13 W28 (qO ch27 hr13) (byt_chgp hb kk30 (fun g off e hn hl => ⟨by have := hne2 g off e hn; omega, ⟨by have := hne2 g off e hn; omega, trivial⟩⟩)) ⟨by omega, by omega⟩ hneb (by omega) (by omega)) ?_
  rintro _ W29 ⟨at14, bad14, fl1, rfl, hat14, hr14, hst14, ch28⟩
  have zz28 := ch28.size
  refine rP 3 81 (pt gf 8)<|rP 4 82 (pt gf 44)<|rU 5 rfl (sG 44 (.bool fl1) (frmL_sz rfl rfl rfl rfl rfl rfl) (qO ch28 hb13) 13 (frmL kd (a : Int) (d : Int) 0 0 0 0 sl0 (UInt8.ofNat v7) ⟨AA3, nn3, cc3⟩ z32 0 ⟨AA4, nn4, cc4⟩ fl1 z32 0 0 0 false z32 z32 0 z32 z32 0 sl0 sl0)) fun W30 hb14 ch29 zz29 => rE<|inN<|?_
  have hgf4 := hb14
  obtain rfl : kd = 2 := kI 2
  have hk1_ : ¬ UInt8.ofNat v7 = 1 := fun e_ => by have h_ : (UInt8.ofNat v7).toNat = 1 := congrArg UInt8.toNat e_; omega
  exact Wk.retN (.tuple #[]) rfl (by kernel_rfl) ⟨at14, bad14, ofCon a d (.items v7 x1 l3 fl1), ⟨sl0, ⟨AA3, nn3, cc3⟩, ⟨AA4, nn4, cc4⟩, sl0, sl0⟩, rfl, ⟨by omega, by omega⟩, (qO ch29 hr14), hgf4, Mur.lies_items (p := ⟨AA3, nn3, cc3⟩) (i := ⟨AA4, nn4, cc4⟩) (byt_chg (byt_chg (byt_chg (byt_chg (byt_chg ow3.byt ch21 (fun g off e hl => ⟨by have := lt81 g off e; omega, trivial⟩)) ch26 (fun g off e hl => ⟨by have := lt81 g off e; omega, trivial⟩)) ch27 (fun g off e hl => ⟨by have := lt81 g off e; omega, trivial⟩)) ch28 (fun g off e hl => ⟨by have := lt81 g off e; omega, trivial⟩)) ch29 (fun g off e hl => ⟨by have := lt81 g off e; omega, trivial⟩)) ⟨ow3.nil, ow3.nc, ow3.cm⟩ (Mur.SlR.keepQ (Mur.SlR.keepQ (Mur.SlR.keepQ ow4.slR ch27 (fun g off e hl => ⟨by have := ltR3 g off e; omega, trivial⟩)) ch28 (fun g off e hl => ⟨by have := ltR3 g off e; omega, trivial⟩)) ch29 (fun g off e hl => ⟨by have := ltR3 g off e; omega, trivial⟩)) ⟨ow4.nil, ow4.nc, ow4.cm⟩, ⟨sl0_in, (fun g off e => by have := ow3.at_ g off e; omega), (fun g off e => by have := ow4.at_ g off e; omega), sl0_in, sl0_in⟩, rfl, .inl ⟨.items v7 x1 l3 fl1, (show Mur.Step (Mur.readC 2) _ _ _ _ _ _ from Mur.Step.gos_items hst9 (show Mur.Step (Mur.readIt v7) _ _ _ _ _ _ from Mur.Step.map (hst10.seq (hst13.seq hst14)) (fun y : List UInt8 × List Att × Bool => Mur.Cont.items v7 y.1 y.2.1 y.2.2)) hk1_), rfl, trivial⟩, (kC (kC kk30 ch28) ch29)⟩
 refine eF 0 42 (kd.toNat : Int) (2 : Int)<|rP 1 41 vF<|eN<|cF<|sR<|?_
 by_cases hx4 : (kd.toNat : Int) = (3 : Int)
 ·refine eT 0 84 (kd.toNat : Int) (3 : Int)<|rP 1 83 vT<|eN<|cT<|wp_seq<|?_
  refine dReg ([gr, gf]) (by kernel_rfl) ?_
  intro W31 ch30 sz2
  have zz30 := ch30.size
  have sS6 : Chg ([gr, gf]) W31 W31 := (Chg.refl _).more (by simp)
  refine dW 0 85 (pt gf 0) sS6<|dW 1 86 (pt gf 0) sS6<|dW 2 87 (pt gf 0) sS6<|dW 3 88 (pt gf 1) sS6<|dW 5 90 (pt gr 0) sS6 ?_
  refine dOp2 4 6 (by kernel_rfl) ?_ ?_
  ·refine Wk.oVal (some 89) (vI a) rfl rfl (by kernel_rfl) (fl 3 88 gf 1 (vI a) (frmL_sz rfl rfl rfl rfl rfl rfl) (qT ch30 hf) 1) ?_
   refine aN sS6<|dO 6 ?_
   have kk33 : Chg [gr, gf] (w) W31 := zA ch30
   refine oK 91 (Rdigest_any gr A n c b at_ bad W31 (qT ch30 hr) (byt_chgp hb kk33 (fun g off e hn hl => ⟨by have := hne2 g off e hn; omega, ⟨by have := hne2 g off e hn; omega, trivial⟩⟩)) ⟨by omega, by omega⟩ hneb (by omega) (by omega)) ?_
   rintro _ W32 ⟨at15, bad15, x3, rfl, hat15, hr15, hst15, hl2, ch31⟩
   have zz31 := ch31.size
   have sS7 := kC sS6 ch31
   refine aN sS7<|dV 7 92 (.agg ((Mur.claimC x3 (a : Int) 0 0 false).toArray)) rfl rfl (fun w' hw' => run_built 33 _ rfl [(1, vI a), (0, .agg ((b8s x3).toArray))] (by kernel_rfl) _ (built_claim hl2 (a : Int))) sS7<|dW 8 93 (pt gf 0) sS7<|dW 9 94 (pt gf 45) sS7<|dO 10<|oU rfl (store_segs 33 (.tmp 94) (.tmp 92) rfl 45 (by kernel_rfl) (Mur.claimC x3 (a : Int) 0 0 false) (by kernel_rfl) (by rw [claimC_length hl2]; kernel_rfl) claimC_one 38 (frmL_sz rfl rfl rfl rfl rfl rfl) (qO ch31 (qT ch30 hf)) 14 [b8s x3, [vI a], [vU 0], [vU 0], [vF]] rfl rfl (by rw [claimC_length hl2]; rfl) (frmL kd (a : Int) (d : Int) 0 0 0 0 sl0 0 sl0 z32 0 sl0 false x3 (a : Int) 0 0 false z32 z32 0 z32 z32 0 sl0 sl0) rfl) fun W33 hb15 ch32 zz32 => ?_
   have sS8 := kC sS7 ch32
   refine aN sS8<|dN<|sR<|rP 0 95 (pt gf 0)<|rP 1 96 (pt gr 0) ?_
   have kk35 := kC (kC kk33 ch31) ch32
   refine rK 2 97 (Ruint_any gr A n c b at15 bad15 W33 (qO ch32 hr15) (byt_chgp hb kk35 (fun g off e hn hl => ⟨by have := hne2 g off e hn; omega, ⟨by have := hne2 g off e hn; omega, trivial⟩⟩)) ⟨by omega, by omega⟩ hneb (by omega) (by omega)) ?_
   rintro _ W34 ⟨at16, bad16, v9, rfl, hat16, hr16, hst16, hlt9, ch33⟩
   have zz33 := ch33.size
   refine rP 3 98 (pt gf 0)<|rP 4 99 (pt gf 45)<|rP 5 100 (pt gf 78)<|rU 6 rfl (sG 78 (vU v9) (frmL_sz rfl hl2 rfl rfl rfl rfl) (qO ch33 hb15) 16 (frmL kd (a : Int) (d : Int) 0 0 0 0 sl0 0 sl0 z32 0 sl0 false x3 (a : Int) v9 0 false z32 z32 0 z32 z32 0 sl0 sl0)) fun W35 hb16 ch34 zz34 => eN<|sR<|rP 0 101 (pt gf 0)<|rP 1 102 (pt gr 0) ?_
   have kk37 := kC (kC kk35 ch33) ch34
   refine rK 2 103 (Ruint_any gr A n c b at16 bad16 W35 (qO ch34 hr16) (byt_chgp hb kk37 (fun g off e hn hl => ⟨by have := hne2 g off e hn; omega, ⟨by have := hne2 g off e hn; omega, trivial⟩⟩)) ⟨by omega, by omega⟩ hneb (by omega) (by omega)) ?_
   rintro _ W36 ⟨at17, bad17, v10, rfl, hat17, hr17, hst17, hlt10, ch35⟩
   have zz35 := ch35.size
   refine rP 3 104 (pt gf 0)<|rP 4 105 (pt gf 45)<|rP 5 106 (pt gf 79)<|rU 6 rfl (sG 79 (vU v10) (frmL_sz rfl hl2 rfl rfl rfl rfl) (qO ch35 hb16) 17 (frmL kd (a : Int) (d : Int) 0 0 0 0 sl0 0 sl0 z32 0 sl0 false x3 (a : Int) v9 v10 false z32 z32 0 z32 z32 0 sl0 sl0)) fun W37 hb17 ch36 zz36 => eN<|reg<|rP 0 107 (pt gf 0)<|rP 1 108 (pt gr 0) ?_
   have kk39 := kC (kC kk37 ch35) ch36
   refine rK 2 109 (Rflag_any gr A n c b at17 bad17 W37 (qO ch36 hr17) (byt_chgp hb kk39 (fun g off e hn hl => ⟨by have := hne2 g off e hn; omega, ⟨by have := hne2 g off e hn; omega, trivial⟩⟩)) ⟨by omega, by omega⟩ hneb (by omega) (by omega)) ?_
   rintro _ W38 ⟨at18, bad18, fl2, rfl, hat18, hr18, hst18, ch37⟩
   have zz37 := ch37.size
   refine rP 3 110 (pt gf 0)<|rP 4 111 (pt gf 45)<|rP 5 112 (pt gf 80)<|rU 6 rfl (sG 80 (.bool fl2) (frmL_sz rfl hl2 rfl rfl rfl rfl) (qO ch37 hb17) 18 (frmL kd (a : Int) (d : Int) 0 0 0 0 sl0 0 sl0 z32 0 sl0 false x3 (a : Int) v9 v10 fl2 z32 z32 0 z32 z32 0 sl0 sl0)) fun W39 hb18 ch38 zz38 => rE<|inN<|?_
   have hgf5 := hb18
   obtain rfl : kd = 3 := kI 3
   exact Wk.retN (.tuple #[]) rfl (by kernel_rfl) ⟨at18, bad18, ofCon a d (.claim x3 v9 v10 fl2), zs0, rfl, ⟨by omega, by omega⟩, (qO ch38 hr18), hgf5, lies_none rfl rfl rfl rfl rfl, ⟨sl0_in, sl0_in, sl0_in, sl0_in, sl0_in⟩, rfl, .inl ⟨.claim x3 v9 v10 fl2, (show Mur.Step (Mur.readC 3) _ _ _ _ _ _ from (show Mur.Step Mur.readCl _ _ _ _ _ _ from Mur.Step.map (hst15.seq (hst16.seq (hst17.seq hst18))) (fun y : List UInt8 × Nat × Nat × Bool => Mur.Cont.claim y.1 y.2.1 y.2.2.1 y.2.2.2))), rfl, ⟨hl2, by omega, by omega⟩⟩, (kC (kC kk39 ch37) ch38)⟩
  have kk42 : Chg [gr, gf] (w) W31 := zA ch30
  refine oK 91 (Rdigest_any gr A n c b at_ bad W31 (qT ch30 hr) (byt_chgp hb kk42 (fun g off e hn hl => ⟨by have := hne2 g off e hn; omega, ⟨by have := hne2 g off e hn; omega, trivial⟩⟩)) ⟨by omega, by omega⟩ hneb (by omega) (by omega)) ?_
  rintro _ W40 ⟨at19, bad19, x4, rfl, hat19, hr19, hst19, hl3, ch39⟩
  have zz39 := ch39.size
  have sS9 := kC sS6 ch39
  refine aN sS9<|dO 4 ?_
  refine Wk.oVal (some 89) (vI a) rfl rfl (by kernel_rfl) (fl 3 88 gf 1 (vI a) (frmL_sz rfl rfl rfl rfl rfl rfl) (qO ch39 (qT ch30 hf)) 1) ?_
  refine aN sS9<|dV 7 92 (.agg ((Mur.claimC x4 (a : Int) 0 0 false).toArray)) rfl rfl (fun w' hw' => run_built 33 _ rfl [(1, vI a), (0, .agg ((b8s x4).toArray))] (by kernel_rfl) _ (built_claim hl3 (a : Int))) sS9<|dW 8 93 (pt gf 0) sS9<|dW 9 94 (pt gf 45) sS9<|dO 10<|oU rfl (store_segs 33 (.tmp 94) (.tmp 92) rfl 45 (by kernel_rfl) (Mur.claimC x4 (a : Int) 0 0 false) (by kernel_rfl) (by rw [claimC_length hl3]; kernel_rfl) claimC_one 38 (frmL_sz rfl rfl rfl rfl rfl rfl) (qO ch39 (qT ch30 hf)) 14 [b8s x4, [vI a], [vU 0], [vU 0], [vF]] rfl rfl (by rw [claimC_length hl3]; rfl) (frmL kd (a : Int) (d : Int) 0 0 0 0 sl0 0 sl0 z32 0 sl0 false x4 (a : Int) 0 0 false z32 z32 0 z32 z32 0 sl0 sl0) rfl) fun W41 hb19 ch40 zz40 => ?_
  have sS10 := kC sS9 ch40
  refine aN sS10<|dN<|sR<|rP 0 95 (pt gf 0)<|rP 1 96 (pt gr 0) ?_
  have kk44 := kC (kC kk42 ch39) ch40
  refine rK 2 97 (Ruint_any gr A n c b at19 bad19 W41 (qO ch40 hr19) (byt_chgp hb kk44 (fun g off e hn hl => ⟨by have := hne2 g off e hn; omega, ⟨by have := hne2 g off e hn; omega, trivial⟩⟩)) ⟨by omega, by omega⟩ hneb (by omega) (by omega)) ?_
  rintro _ W42 ⟨at20, bad20, v11, rfl, hat20, hr20, hst20, hlt11, ch41⟩
  have zz41 := ch41.size
  refine rP 3 98 (pt gf 0)<|rP 4 99 (pt gf 45)<|rP 5 100 (pt gf 78)<|rU 6 rfl (sG 78 (vU v11) (frmL_sz rfl hl3 rfl rfl rfl rfl) (qO ch41 hb19) 16 (frmL kd (a : Int) (d : Int) 0 0 0 0 sl0 0 sl0 z32 0 sl0 false x4 (a : Int) v11 0 false z32 z32 0 z32 z32 0 sl0 sl0)) fun W43 hb20 ch42 zz42 => eN<|sR<|rP 0 101 (pt gf 0)<|rP 1 102 (pt gr 0) ?_
  have kk46 := kC (kC kk44 ch41) ch42
  refine rK 2 103 (Ruint_any gr A n c b at20 bad20 W43 (qO ch42 hr20) (byt_chgp hb kk46 (fun g off e hn hl => ⟨by have := hne2 g off e hn; omega, ⟨by have := hne2 g off e hn; omega, trivial⟩⟩)) ⟨by omega, by omega⟩ hneb (by omega) (by omega)) ?_
  rintro _ W44 ⟨at21, bad21, v12, rfl, hat21, hr21, hst21, hlt12, ch43⟩
  have zz43 := ch43.size
  refine rP 3 104 (pt gf 0)<|rP 4 105 (pt gf 45)<|rP 5 106 (pt gf 79)<|rU 6 rfl (sG 79 (vU v12) (frmL_sz rfl hl3 rfl rfl rfl rfl) (qO ch43 hb20) 17 (frmL kd (a : Int) (d : Int) 0 0 0 0 sl0 0 sl0 z32 0 sl0 false x4 (a : Int) v11 v12 false z32 z32 0 z32 z32 0 sl0 sl0)) fun W45 hb21 ch44 zz44 => eN<|reg<|rP 0 107 (pt gf 0)<|rP 1 108 (pt gr 0) ?_
  have kk48 := kC (kC kk46 ch43) ch44
  refine rK 2 109 (Rflag_any gr A n c b at21 bad21 W45 (qO ch44 hr21) (byt_chgp hb kk48 (fun g off e hn hl => ⟨by have := hne2 g off e hn; omega, ⟨by have := hne2 g off e hn; omega, trivial⟩⟩)) ⟨by omega, by omega⟩ hneb (by omega) (by omega)) ?_
  rintro _ W46 ⟨at22, bad22, fl3, rfl, hat22, hr22, hst22, ch45⟩
  have zz45 := ch45.size
  refine rP 3 110 (pt gf 0)<|rP 4 111 (pt gf 45)<|rP 5 112 (pt gf 80)<|rU 6 rfl (sG 80 (.bool fl3) (frmL_sz rfl hl3 rfl rfl rfl rfl) (qO ch45 hb21) 18 (frmL kd (a : Int) (d : Int) 0 0 0 0 sl0 0 sl0 z32 0 sl0 false x4 (a : Int) v11 v12 fl3 z32 z32 0 z32 z32 0 sl0 sl0)) fun W47 hb22 ch46 zz46 => rE<|inN<|?_
  have hgf6 := hb22
  obtain rfl : kd = 3 := kI 3
  exact Wk.retN (.tuple #[]) rfl (by kernel_rfl) ⟨at22, bad22, ofCon a d (.claim x4 v11 v12 fl3), zs0, rfl, ⟨by omega, by omega⟩, (qO ch46 hr22), hgf6, lies_none rfl rfl rfl rfl rfl, ⟨sl0_in, sl0_in, sl0_in, sl0_in, sl0_in⟩, rfl, .inl ⟨.claim x4 v11 v12 fl3, (show Mur.Step (Mur.readC 3) _ _ _ _ _ _ from (show Mur.Step Mur.readCl _ _ _ _ _ _ from Mur.Step.map (hst19.seq (hst20.seq (hst21.seq hst22))) (fun y : List UInt8 × Nat × Nat × Bool => Mur.Cont.claim y.1 y.2.1 y.2.2.1 y.2.2.2))), rfl, ⟨hl3, by omega, by omega⟩⟩, (kC (kC kk48 ch45) ch46)⟩
 refine eF 0 84 (kd.toNat : Int) (3 : Int)<|rP 1 83 vF<|eN<|cF<|sR<|?_
 by_cases hx5 : (kd.toNat : Int) = (4 : Int)
 ·refine eT 0 114 (kd.toNat : Int) (4 : Int)<|rP 1 113 vT<|eN<|cT<|reg<|rP 0 115 (pt gf 0)<|rP 1 116 (pt gr 0)<|rK 2 117 (Rattest_any gr A n c b at_ bad w hr hb ⟨by omega, by omega⟩ hneb (by omega) (by omega)) ?_
  rintro _ W48 ⟨at23, bad23, y1, rfl, hat23, hr23, hst23, ch47⟩
  have zz47 := ch47.size
  refine rP 3 118 (pt gf 0)<|rP 4 119 (pt gf 81)<|rU 5 rfl (store_segs 35 (.tmp 119) (.tmp 117) rfl 81 (by kernel_rfl) (Mur.attC y1.k y1.r y1.n y1.t) (by kernel_rfl) (by rw [attC_length y1.hk y1.hr y1.ht]; kernel_rfl) Mur.attC_one 38 (frmL_sz rfl rfl rfl rfl rfl rfl) (qO ch47 hf) 19 [b8s y1.k, b8s y1.r, [vI y1.n], b8s y1.t] (Mur.att_parts _ _ _ _) rfl (by rw [attC_length y1.hk y1.hr y1.ht]; rfl) (frmL kd (a : Int) (d : Int) 0 0 0 0 sl0 0 sl0 z32 0 sl0 false z32 0 0 0 false y1.k y1.r y1.n y1.t z32 0 sl0 sl0) rfl) fun W49 hb23 ch48 zz48 => rE<|inN<|?_
  have hgf7 := hb23
  obtain rfl : kd = 4 := kI 4
  exact Wk.retN (.tuple #[]) rfl (by kernel_rfl) ⟨at23, bad23, ofCon a d (.result y1), zs0, rfl, ⟨by omega, by omega⟩, (qO ch48 hr23), hgf7, lies_none rfl rfl rfl rfl rfl, ⟨sl0_in, sl0_in, sl0_in, sl0_in, sl0_in⟩, rfl, .inl ⟨.result y1, (show Mur.Step (Mur.readC 4) _ _ _ _ _ _ from (show Mur.Step Mur.readRe _ _ _ _ _ _ from Mur.Step.map hst23 (fun y : Att => Mur.Cont.result y))), rfl, trivial⟩, (kC (zC ch47 : Chg [gr, gf] (w) W48) ch48)⟩
 refine eF 0 114 (kd.toNat : Int) (4 : Int)<|rP 1 113 vF<|eN<|cF<|sR<|?_
 by_cases hx6 : (kd.toNat : Int) = (5 : Int)
 ·refine eT 0 121 (kd.toNat : Int) (5 : Int)<|rP 1 120 vT<|eN<|cT<|sR<|rP 0 122 (pt gf 0)<|rP 1 123 (pt gr 0)<|rK 2 124 (Rdigest_any gr A n c b at_ bad w hr hb ⟨by omega, by omega⟩ hneb (by omega) (by omega)) ?_
  rintro _ W50 ⟨at24, bad24, x5, rfl, hat24, hr24, hst24, hl4, ch49⟩
  have zz49 := ch49.size
  refine rP 3 125 (pt gf 0)<|rP 4 126 (pt gf 178)<|rU 5 rfl (store_segs 28 (.tmp 126) (.tmp 124) rfl 178 (by kernel_rfl) (b8s x5) (by kernel_rfl) (by rw [b8s_length, hl4]; kernel_rfl) (b8s_one x5) 38 (frmL_sz rfl rfl rfl rfl rfl rfl) (qO ch49 hf) 23 [b8s x5] (by simp) rfl (by rw [b8s_length, hl4]; rfl) (frmL kd (a : Int) (d : Int) 0 0 0 0 sl0 0 sl0 z32 0 sl0 false z32 0 0 0 false z32 z32 0 z32 x5 0 sl0 sl0) rfl) fun W51 hb24 ch50 zz50 => eN<|reg<|rP 0 127 (pt gf 0)<|rP 1 128 (pt gr 0) ?_
  have kk54 := kC (zC ch49 : Chg [gr, gf] (w) W50) ch50
  refine rK 2 129 (Rint_any gr A n c b at24 bad24 W51 (qO ch50 hr24) (byt_chgp hb kk54 (fun g off e hn hl => ⟨by have := hne2 g off e hn; omega, ⟨by have := hne2 g off e hn; omega, trivial⟩⟩)) ⟨by omega, by omega⟩ hneb (by omega) (by omega)) ?_
  rintro _ W52 ⟨at25, bad25, v13, rfl, hat25, hr25, hst25, hlt13, ch51⟩
  have zz51 := ch51.size
  refine rP 3 130 (pt gf 0)<|rP 4 131 (pt gf 210)<|rU 5 rfl (sG 210 (vI v13) (frmL_sz rfl rfl rfl rfl rfl hl4) (qO ch51 hb24) 24 (frmL kd (a : Int) (d : Int) 0 0 0 0 sl0 0 sl0 z32 0 sl0 false z32 0 0 0 false z32 z32 0 z32 x5 (v13 : Int) sl0 sl0)) fun W53 hb25 ch52 zz52 => rE<|inN<|?_
  have hgf8 := hb25
  obtain rfl : kd = 5 := kI 5
  exact Wk.retN (.tuple #[]) rfl (by kernel_rfl) ⟨at25, bad25, ofCon a d (.want x5 v13), zs0, rfl, ⟨by omega, by omega⟩, (qO ch52 hr25), hgf8, lies_none rfl rfl rfl rfl rfl, ⟨sl0_in, sl0_in, sl0_in, sl0_in, sl0_in⟩, rfl, .inl ⟨.want x5 v13, (show Mur.Step (Mur.readC 5) _ _ _ _ _ _ from (show Mur.Step Mur.readWa _ _ _ _ _ _ from Mur.Step.map (hst24.seq hst25) (fun y : List UInt8 × Nat => Mur.Cont.want y.1 y.2))), rfl, ⟨hl4, by omega⟩⟩, (kC (kC kk54 ch51) ch52)⟩
 refine eF 0 121 (kd.toNat : Int) (5 : Int)<|rP 1 120 vF<|eN<|cF<|sR<|?_
 by_cases hx7 : (kd.toNat : Int) = (6 : Int)
 ·refine eT 0 133 (kd.toNat : Int) (6 : Int)<|rP 1 132 vT<|eN<|cT<|sR<|rP 0 134 (pt gf 0)<|rP 1 135 (pt gr 0)<|rK 2 136 (Rdigest_any gr A n c b at_ bad w hr hb ⟨by omega, by omega⟩ hneb (by omega) (by omega)) ?_
  rintro _ W54 ⟨at26, bad26, x6, rfl, hat26, hr26, hst26, hl5, ch53⟩
  have zz53 := ch53.size
  refine rP 3 137 (pt gf 0)<|rP 4 138 (pt gf 178)<|rU 5 rfl (store_segs 28 (.tmp 138) (.tmp 136) rfl 178 (by kernel_rfl) (b8s x6) (by kernel_rfl) (by rw [b8s_length, hl5]; kernel_rfl) (b8s_one x6) 38 (frmL_sz rfl rfl rfl rfl rfl rfl) (qO ch53 hf) 23 [b8s x6] (by simp) rfl (by rw [b8s_length, hl5]; rfl) (frmL kd (a : Int) (d : Int) 0 0 0 0 sl0 0 sl0 z32 0 sl0 false z32 0 0 0 false z32 z32 0 z32 x6 0 sl0 sl0) rfl) fun W55 hb26 ch54 zz54 => eN<|sR<|rP 0 139 (pt gf 0)<|rP 1 140 (pt gr 0) ?_
  have kk58 := kC (zC ch53 : Chg [gr, gf] (w) W54) ch54
  refine rK 2 141 (Rint_any gr A n c b at26 bad26 W55 (qO ch54 hr26) (byt_chgp hb kk58 (fun g off e hn hl => ⟨by have := hne2 g off e hn; omega, ⟨by have := hne2 g off e hn; omega, trivial⟩⟩)) ⟨by omega, by omega⟩ hneb (by omega) (by omega)) ?_
  rintro _ W56 ⟨at27, bad27, v14, rfl, hat27, hr27, hst27, hlt14, ch55⟩
  have zz55 := ch55.size
  refine rP 3 142 (pt gf 0)<|rP 4 143 (pt gf 210)<|rU 5 rfl (sG 210 (vI v14) (frmL_sz rfl rfl rfl rfl rfl hl5) (qO ch55 hb26) 24 (frmL kd (a : Int) (d : Int) 0 0 0 0 sl0 0 sl0 z32 0 sl0 false z32 0 0 0 false z32 z32 0 z32 x6 (v14 : Int) sl0 sl0)) fun W57 hb27 ch56 zz56 => eN<|sR<|rP 0 144 (pt gf 0)<|rP 1 145 (pt gr 0) ?_
  have kk60 := kC (kC kk58 ch55) ch56
  refine rK 2 146 (Rbytes_of gr A n c b at27 bad27 W57 (qO ch56 hr27) (byt_chgp hb kk60 (fun g off e hn hl => ⟨by have := hne2 g off e hn; omega, ⟨by have := hne2 g off e hn; omega, trivial⟩⟩)) ⟨by omega, by omega⟩ hneb (by omega) (by omega)) ?_
  rintro _ W58 ⟨at28, bad28, AA5, nn5, cc5, x7, rfl, hat28, hr28, hst28, ow5, ch57⟩
  have zz57 := ch57.size
  have lt82 := ow5.at_
  have hq13 := ow5.byt.1
  have hq14 := ow5.nc
  have hq15 := ow5.cm
  refine rP 3 147 (pt gf 0)<|rP 4 148 (pt gf 211)<|rU 5 rfl (sG 211 (.slice AA5 nn5 cc5) (frmL_sz rfl rfl rfl rfl rfl hl5) (qO ch57 hb27) 25 (frmL kd (a : Int) (d : Int) 0 0 0 0 sl0 0 sl0 z32 0 sl0 false z32 0 0 0 false z32 z32 0 z32 x6 (v14 : Int) ⟨AA5, nn5, cc5⟩ sl0)) fun W59 hb28 ch58 zz58 => eN<|reg<|rP 0 149 (pt gf 0)<|rP 1 150 (pt gr 0)<|rP 2 151 (pt gr 0)<|rP 3 152 (.func (.func 40) #[pt gr 0] #[]) ?_
  have kk62 := kC (kC kk60 ch57) ch58
  refine rK 4 153 (SeveralD_any gr A n c b at28 bad28 W59 (qO ch58 hr28) (byt_chgp hb kk62 (fun g off e hn hl => ⟨by have := hne2 g off e hn; omega, ⟨by have := hne2 g off e hn; omega, trivial⟩⟩)) ⟨by omega, by omega⟩ hneb (by omega) (by omega)) ?_
  rintro _ W60 ⟨at29, bad29, AA6, nn6, cc6, l4, rfl, hat29, hr29, hst29, ⟨ow6, hQ4⟩, ch59⟩
  have zz59 := ch59.size
  have ltR4 := ow6.at_
  have hq16 := ow6.nc
  have hq17 := ow6.cm
  have hq18 := ow6.len
  refine rP 5 154 (pt gf 0)<|rP 6 155 (pt gf 212)<|rU 7 rfl (sG 212 (.slice AA6 nn6 cc6) (frmL_sz rfl rfl rfl rfl rfl hl5) (qO ch59 hb28) 26 (frmL kd (a : Int) (d : Int) 0 0 0 0 sl0 0 sl0 z32 0 sl0 false z32 0 0 0 false z32 z32 0 z32 x6 (v14 : Int) ⟨AA5, nn5, cc5⟩ ⟨AA6, nn6, cc6⟩)) fun W61 hb29 ch60 zz60 => rE<|inN<|?_
  have hgf9 := hb29
  obtain rfl : kd = 6 := kI 6
  exact Wk.retN (.tuple #[]) rfl (by kernel_rfl) ⟨at29, bad29, ofCon a d (.chunk x6 v14 x7 l4), ⟨sl0, sl0, sl0, ⟨AA5, nn5, cc5⟩, ⟨AA6, nn6, cc6⟩⟩, rfl, ⟨by omega, by omega⟩, (qO ch60 hr29), hgf9, Mur.lies_chunk (y := ⟨AA5, nn5, cc5⟩) (f := ⟨AA6, nn6, cc6⟩) (byt_chg (byt_chg (byt_chg ow5.byt ch58 (fun g off e hl => ⟨by have := lt82 g off e; omega, trivial⟩)) ch59 (fun g off e hl => ⟨by have := lt82 g off e; omega, trivial⟩)) ch60 (fun g off e hl => ⟨by have := lt82 g off e; omega, trivial⟩)) ⟨ow5.nil, ow5.nc, ow5.cm⟩ (Mur.SlR.keepQ ow6.slR ch60 (fun g off e hl => ⟨by have := ltR4 g off e; omega, trivial⟩)) ⟨ow6.nil, ow6.nc, ow6.cm⟩, ⟨sl0_in, sl0_in, sl0_in, (fun g off e => by have := ow5.at_ g off e; omega), (fun g off e => by have := ow6.at_ g off e; omega)⟩, rfl, .inl ⟨.chunk x6 v14 x7 l4, (show Mur.Step (Mur.readC 6) _ _ _ _ _ _ from (show Mur.Step Mur.readCh _ _ _ _ _ _ from Mur.Step.map (hst26.seq (hst27.seq (hst28.seq hst29))) (fun y : List UInt8 × Nat × List UInt8 × List (List UInt8) => Mur.Cont.chunk y.1 y.2.1 y.2.2.1 y.2.2.2))), rfl, ⟨hl5, by omega, hQ4⟩⟩, (kC (kC kk62 ch59) ch60)⟩
 refine eF 0 133 (kd.toNat : Int) (6 : Int)<|rP 1 132 vF<|eN<|cF<|wp_skip<|inN<|?_
 have hgf10 := hf
 exact Wk.retN (.tuple #[]) rfl (by kernel_rfl) ⟨at_, bad, headM kd (a : Int) (d : Int), zs0, rfl, ⟨by omega, by omega⟩, hr, hgf10, lies_none rfl rfl rfl rfl rfl, ⟨sl0_in, sl0_in, sl0_in, sl0_in, sl0_in⟩, rfl, .inr ⟨by omega, rfl, rfl, rfl⟩, ((Chg.refl _).more (by simp))⟩
end Go.Proofs.YtgbadghjnpbiaaaGreatDoor
