/- What the row rests on, part 8. -/
import Derived.Laws.Concat
import Derived.Test.YtgbadghjnpbiaaaGreatDoorRG7
import Derived.Test.YtgbadghjnpbiaaaGreatDoorRG4
import Derived.Test.YtgbadghjnpbiaaaGreatDoorRG5
namespace Go.Proofs.YtgbadghjnpbiaaaGreatDoor
open Go.RowKit Wk
open Mur (b8s Byt Own8 Seg Segs flat cutA)
open Mur (St)
set_option maxRecDepth 100000
set_option maxHeartbeats 4000000
def Rkey_F1 (b : Array Value) (u8 : Value) : Act := sg 27 [(8, u8)] b
def Rkey_F2 (b : Array Value) (u8 : Value) : Act := sg 27 [(8, u8)] b
def TagBy_F1 (b : Array Value) (u3 u4 u5 u8 u9 u10 u11 u12 : Value) : Act := sg 50 [(3, u3), (4, u4), (5, u5), (8, u8), (9, u9), (10, u10), (11, u11), (12, u12)] b
theorem Rkey_any (hc kc : Array Value) (Hh : Hid (hc = stCells Mur.H0)) (Hk : Hid (kc = Mur.u32s Mur.K)) (s : List UInt8) (A : Option Addr) (n c : Nat) (w : World) (hb : Byt w A n s) (hnc : n ≤ c) (ha : A = none → c = 0) (hn : n ≤ 140737488351232) : Calls Tryz.prog 91 #[.agg hc, .agg kc, .slice A n c] w fun e w' => ∃ q cq K, Hid (K = Mur.hkey s) ∧ K.length = 64 ∧ e = .returned (.slice (some ⟨q, 0, none⟩) 64 cq) ∧ Byt w' (some ⟨q, 0, none⟩) 64 K ∧ (w.heap.size ≤ q ∧ q < w'.heap.size) ∧ Chg [] w w' := by
 have hcs := hc_size Hh.out
 have kcs := kc_size Hk.out
 have HBY := Go.Lib.hid hb
 clear hb
 have HA := Go.Lib.hid ha
 clear ha
 refine calls_of_wp Tryz.func91 rfl ?_
 refine sR<|nW 0 3 hc 101 fun W1 hb1 ch1 sz1 => nW 1 4 kc 102 fun W2 hb2 ch2 sz2 => rP 2 6 (.slice none 0 0)<|eN<|wp_seq<|sR<|rP 0 9 (.slice A n c)<|rP 1 10 (vI n) ?_
 by_cases hx1 : (n : Int) > (64 : Int)
 ·refine bT 2 11 ((n : Int) > (64 : Int))<|eN<|cT<|sR<|rq 0 12 _ rfl (lA (qT ch2 hb1) hcs.1)<|rq 1 13 _ rfl (lA hb2 kcs.1)<|rP 2 14 (.slice A n c) ?_
  have kk2 := kA (zA ch1 : Chg [] w W1) ch2
  refine rK 3 15 (Rsum_var hc kc Hh Hk s A n c W2 (Mur.byt_chg HBY.out kk2 (fun g off e hl => trivial)) (by omega) HA.out (by omega)) ?_
  rintro _ W3 ⟨dd1, hd1, hdl1, rfl, hB1⟩
  have ch3 := Chg.ofBelow hB1
  have zz3 := ch3.size
  refine nW 4 7 Z32 28 fun W4 hb3 ch4 sz3 => rU 5 rfl (sC dd1 hdl1 hb3) fun W5 hb4 ch5 zz5 => eN<|reg<|rq 0 16 (.slice (some ⟨W3.heap.size, 0, none⟩) 32 32) rfl (Mur.arr_slice 28 5 (.tmp 7) 32 rfl Tryz.underlying28 (by kernel_rfl) W3.heap.size (by kernel_rfl))<|rP 1 2 (.slice (some ⟨W3.heap.size, 0, none⟩) 32 32)<|eN<|sR<|nS 0 17 0 #[] 5 fun W6 hb5 ch6 sz4 => rP 1 18 (.slice (some ⟨W3.heap.size, 0, none⟩) 32 32) ?_
  have ow1 := Mur.own8_empty hb5 (Nat.le_refl _)
  refine rX 2 19 rfl rfl (ap8 32 32 ow1.own (Mur.byt_blk dd1 hdl1 (qT ch6 hb4)) (fun h => by cases h) 32 dd1) ?_
  rintro _ W7 ⟨AA1, nn1, rfl, ow2, ch7, ha1⟩
  have zz7 := ch7.size
  have hq1 := ow2.nc
  have hq2 := ow2.cm
  refine rP 3 8 (.slice AA1 32 nn1)<|eN<|wp_seq<|wp_block<|?_
  refine Wk.loop (fun m_ a wr => ∃ (z : Nat) (A1 : Option Addr) (N : Nat) (c1 : Nat), m_ = 64 - z ∧ a = Rkey_F1 a.tmps (.slice A1 N c1) ∧ 32 + z ≤ 64 ∧ N = 32 + z ∧ Own8 wr W5.heap.size 5 A1 N c1 (dd1 ++ List.replicate z 0) ∧ Chg [] w wr ∧ W5.heap.size ≤ wr.heap.size) (64 - 0) ?_ ?_
  ·have kk3 := kA kk2 ch3
   refine ⟨0, AA1, 32, nn1, rfl, by kernel_rfl, by omega, rfl, (by rw [List.replicate_zero, List.append_nil]; exact ow2), (Chg.step (kA (kB (kA kk3 ch4) ch5) ch6) ch7 (newOr_blk (fun g hg => by have := ow1.lt g hg; omega))), (by omega)⟩
  rintro mm1 aa1 W8 ⟨z, A1, N, c1, hmm1, hF1, hz, hN, hO, HB, hbs⟩
  generalize aa1.tmps = bb1 at hF1
  subst hF1
  have hqn := hO.nc
  have hqm := hO.cm
  unfold Go.maxLen at hqm
  by_cases hlt : N < 64
  ·refine wp_seq<|sR<|rP 0 20 (.slice A1 N c1)<|rP 1 21 (vI N)<|bT 2 22 ((N : Int) < (64 : Int))<|eN<|cT<|wp_skip<|nxt<|wp_block<|reg<|rP 0 23 (.slice A1 N c1)<|nS 1 24 1 #[vB 0] 5 fun W9 hb6 ch8 sz5 => rX 2 25 rfl rfl (ap8 1 1 (oA hO ch8).own (Mur.byt_row [0] hb6) (fun h => by cases h) (N + 1) ((dd1 ++ List.replicate z 0) ++ ([0]))) ?_
   rintro _ W10 ⟨AA2, nn2, rfl, ow4, ch9, ha2⟩
   have zz9 := ch9.size
   have hq3 := ow4.nc
   have hq4 := ow4.cm
   refine rP 3 8 (.slice AA2 (N + 1) nn2)<|rE<|inN<|nxt<|?_
   refine ⟨_, ?_, z + 1, AA2, N + 1, nn2, rfl, by kernel_rfl, (by omega), (by omega), (by rw [← Mur.rep_snoc]; exact ow4), (Chg.step (kA HB ch8) ch9 (newOr_blk (fun g hg => by have := hO.lt g hg; omega))), (by omega)⟩
   omega
  refine wp_seq<|sR<|rP 0 20 (.slice A1 N c1)<|rP 1 21 (vI N)<|bF 2 22 ((N : Int) < (64 : Int))<|eN<|cF<|xX<|nxt<|sR<|rP 0 26 (.slice A1 N c1)<|rP 1 6 (.slice A1 N c1)<|eN<|wp_ret<|?_
  have hN64 : N = 64 := by omega
  subst hN64
  obtain ⟨q, rfl, hqb, hql⟩ := Mur.Own8.some hO (by omega)
  exact rt (.slice (some ⟨q, 0, none⟩) 64 c1) ⟨q, c1, _, Go.Lib.hid (Mur.rkey_big (by rw [HBY.out.1]; omega) hd1.out (by omega)), (by simp only [List.length_append, List.length_replicate]; have := HBY.out.1; omega), rfl, hO.byt, ⟨by omega, by omega⟩, HB⟩
 refine bF 2 11 ((n : Int) > (64 : Int))<|eN<|cF<|wp_skip<|nxt<|sR<|nS 0 17 0 #[] 5 fun W11 hb7 ch10 sz6 => rP 1 18 (.slice A n c) ?_
 have ow5 := Mur.own8_empty hb7 (Nat.le_refl _)
 have kk12 := kA (kA (zA ch1 : Chg [] w W1) ch2) ch10
 refine rX 2 19 rfl rfl (ap8 n c ow5.own (Mur.byt_chg HBY.out kk12 (fun g off e hl => trivial)) HA.out n s) ?_
 rintro _ W12 ⟨AA3, nn3, rfl, ow6, ch11, ha3⟩
 have zz11 := ch11.size
 have hq5 := ow6.nc
 have hq6 := ow6.cm
 refine rP 3 8 (.slice AA3 n nn3)<|eN<|wp_seq<|wp_block<|?_
 refine Wk.loop (fun m_ a wr => ∃ (z : Nat) (A1 : Option Addr) (N : Nat) (c1 : Nat), m_ = 64 - z ∧ a = Rkey_F2 a.tmps (.slice A1 N c1) ∧ n + z ≤ 64 ∧ N = n + z ∧ Own8 wr W2.heap.size 5 A1 N c1 (s ++ List.replicate z 0) ∧ Chg [] w wr ∧ W2.heap.size ≤ wr.heap.size) (64 - 0) ?_ ?_
 ·have kk13 := Chg.step kk12 ch11 (newOr_blk (fun g hg => by have := ow5.lt g hg; omega))
  refine ⟨0, AA3, n, nn3, rfl, by kernel_rfl, by omega, rfl, (by rw [List.replicate_zero, List.append_nil]; exact ow6), kk13, (by omega)⟩
 rintro mm2 aa2 W13 ⟨z, A1, N, c1, hmm2, hF2, hz, hN, hO, HB, hbs⟩
 generalize aa2.tmps = bb2 at hF2
 subst hF2
 have hqn := hO.nc
 have hqm := hO.cm
 unfold Go.maxLen at hqm
 by_cases hlt : N < 64
 ·refine wp_seq<|sR<|rP 0 20 (.slice A1 N c1)<|rP 1 21 (vI N)<|bT 2 22 ((N : Int) < (64 : Int))<|eN<|cT<|wp_skip<|nxt<|wp_block<|reg<|rP 0 23 (.slice A1 N c1)<|nS 1 24 1 #[vB 0] 5 fun W14 hb8 ch12 sz7 => rX 2 25 rfl rfl (ap8 1 1 (oA hO ch12).own (Mur.byt_row [0] hb8) (fun h => by cases h) (N + 1) ((s ++ List.replicate z 0) ++ ([0]))) ?_
  rintro _ W15 ⟨AA4, nn4, rfl, ow8, ch13, ha4⟩
  have zz13 := ch13.size
  have hq7 := ow8.nc
  have hq8 := ow8.cm
  refine rP 3 8 (.slice AA4 (N + 1) nn4)<|rE<|inN<|nxt<|?_
  refine ⟨_, ?_, z + 1, AA4, N + 1, nn4, rfl, by kernel_rfl, (by omega), (by omega), (by rw [← Mur.rep_snoc]; exact ow8), (Chg.step (kA HB ch12) ch13 (newOr_blk (fun g hg => by have := hO.lt g hg; omega))), (by omega)⟩
  omega
 refine wp_seq<|sR<|rP 0 20 (.slice A1 N c1)<|rP 1 21 (vI N)<|bF 2 22 ((N : Int) < (64 : Int))<|eN<|cF<|xX<|nxt<|sR<|rP 0 26 (.slice A1 N c1)<|rP 1 6 (.slice A1 N c1)<|eN<|wp_ret<|?_
 have hN64 : N = 64 := by omega
 subst hN64
 obtain ⟨q, rfl, hqb, hql⟩ := Mur.Own8.some hO (by omega)
 exact rt (.slice (some ⟨q, 0, none⟩) 64 c1) ⟨q, c1, _, Go.Lib.hid (Mur.rkey_small HBY.out.1 (by omega) (by omega)), (by simp only [List.length_append, List.length_replicate]; have := HBY.out.1; omega), rfl, hO.byt, ⟨by omega, by omega⟩, HB⟩
theorem TagBy_any (hc kc : Array Value) (Hh : Hid (hc = stCells Mur.H0)) (Hk : Hid (kc = Mur.u32s Mur.K)) (s : List UInt8) (A : Option Addr) (n c : Nat) (b : List UInt8) (B : Option Addr) (m d : Nat) (w : World) (hb : Byt w A n s) (hnc : n ≤ c) (ha : A = none → c = 0) (hn : n ≤ 140737488351232) (hb2 : Byt w B m b) (ha2 : B = none → d = 0) (hn2 : m ≤ 140737488351000) : Calls Tryz.prog 67 #[.agg hc, .agg kc, .slice A n c, .slice B m d] w fun e w' => ∃ d, Hid (d = Mur.hmac s b) ∧ d.length = 32 ∧ e = .returned (.agg (b8s d).toArray) ∧ Chg [] w w' := by
 have hcs := hc_size Hh.out
 have kcs := kc_size Hk.out
 have HBY := Go.Lib.hid hb
 clear hb
 have HA := Go.Lib.hid ha
 clear ha
 have HB2 := Go.Lib.hid hb2
 clear hb2
 have HA2 := Go.Lib.hid ha2
 clear ha2
 refine calls_of_wp Tryz.func67 rfl ?_
 refine sR<|nW 0 4 hc 101 fun W1 hb1 ch1 sz1 => nW 1 5 kc 102 fun W2 hb2 ch2 sz2 => nW 2 8 Z32 28 fun W3 hb3 ch3 sz3 => eN<|sR<|rq 0 14 _ rfl (lA (qT ch3 (qT ch2 hb1)) hcs.1)<|rq 1 15 _ rfl (lA (qT ch3 hb2) kcs.1)<|rP 2 16 (.slice A n c) ?_
 have kk3 := kA (kA (zA ch1 : Chg [] w W1) ch2) ch3
 refine rK 3 17 (Rkey_any hc kc Hh Hk s A n c W3 (Mur.byt_chg HBY.out kk3 (fun g off e hl => trivial)) (by omega) HA.out (by omega)) ?_
 rintro _ W4 ⟨qk1, ck1, KK1, hK1, hKl1, rfl, hKB1, hq1, ch4⟩
 have zz4 := ch4.size
 have hKt1 : ∀ g off, (some ⟨qk1, 0, none⟩ : Option Addr) = some ⟨g, off, none⟩ → W3.heap.size ≤ g ∧ g < W4.heap.size := fun g off e => by cases e; exact hq1
 refine rP 4 9 (.slice (some ⟨qk1, 0, none⟩) 64 ck1)<|eN<|sR<|rP 0 10 (.slice none 0 0)<|rP 1 11 (.slice none 0 0)<|eN<|wp_seq<|sR<|rP 0 12 (vI 0)<|eN<|wp_block<|?_
 refine Wk.loop (fun m_ a wr => ∃ (i : Nat) (A1 : Option Addr) (c1 : Nat) (A2 : Option Addr) (c2 : Nat), m_ = 64 - i ∧ a = TagBy_F1 a.tmps (.slice B m d) (pw w 0) (pw W1 0) (pw W2 0) (.slice (some ⟨qk1, 0, none⟩) 64 ck1) (.slice A1 i c1) (.slice A2 i c2) (vI i) ∧ i ≤ 64 ∧ Own8 wr W4.heap.size 5 A1 i c1 (Mur.xorl 54 (KK1.take i)) ∧ Own8 wr W4.heap.size 5 A2 i c2 (Mur.xorl 92 (KK1.take i)) ∧ (∀ q, (Value.slice A1 i c1).ownBlock = some q → (Value.slice A2 i c2).ownBlock ≠ some q) ∧ Byt wr (some ⟨qk1, 0, none⟩) 64 KK1 ∧ wr.heap[w.heap.size]? = some (.cells hc 101 (0, 0)) ∧ wr.heap[W1.heap.size]? = some (.cells kc 102 (0, 0)) ∧ wr.heap[W2.heap.size]? = some (.cells Z32 28 (0, 0)) ∧ Chg [] w wr ∧ W4.heap.size ≤ wr.heap.size) (64 - 0) ?_ ?_
 ·have kk4 := kA kk3 ch4
  refine ⟨0, none, 0, none, 0, rfl, by kernel_rfl, by omega, Mur.own8_nil W4 W4.heap.size 5, Mur.own8_nil W4 W4.heap.size 5, (fun q h => by cases h), hKB1, (qT ch4 (qT ch3 (qT ch2 hb1))), (qT ch4 (qT ch3 hb2)), (qT ch4 hb3), kk4, (by omega)⟩
 rintro mm1 aa1 W5 ⟨i, A1, c1, A2, c2, hmm1, hF1, hi, hO1, hO2, hne, hKB, hG0, hG1, hG2, HB, hbs⟩
 generalize aa1.tmps = bb1 at hF1
 subst hF1
 have hqn1 := hO1.nc
 have hqm1 := hO1.cm
 unfold Go.maxLen at hqm1
 have hqn2 := hO2.nc
 have hqm2 := hO2.cm
 unfold Go.maxLen at hqm2
 by_cases hlt : i < 64
 ·refine wp_seq<|sR<|rP 0 18 (vI i)<|bT 1 19 ((i : Int) < (64 : Int))<|eN<|cT<|wp_skip<|nxt<|wp_seq<|wp_block<|sR<|rP 0 22 (.slice A1 i c1)<|rP 1 23 (.slice (some ⟨qk1, 0, none⟩) 64 ck1)<|rP 2 24 (vI i)<|rq 3 25 (pt qk1 (0 + i * 1)) rfl (iS 1 qk1 0 64 ck1 i)<|rq 4 26 _ rfl (ld 5 25 qk1 (0 + i * 1) (vB ((KK1.getD i 0).toNat : Nat)) (Mur.byt_cell hKB i (by omega)))<|rq 5 27 (vB (((KK1.getD i 0) ^^^ (54 : UInt8)).toNat : Nat)) rfl (Mur.xor8 5 5 (.tmp 26) (.const (vB 54)) rfl (KK1.getD i 0) (54 : UInt8) (by kernel_rfl) (by kernel_rfl))<|nS 6 28 1 #[vB (((KK1.getD i 0) ^^^ (54 : UInt8)).toNat : Nat)] 5 fun W6 hb4 ch5 sz4 => rX 7 29 rfl rfl (ap8 1 1 (oA hO1 ch5).own (Mur.byt_row [((KK1.getD i 0) ^^^ (54 : UInt8))] hb4) (fun h => by cases h) (i + 1) ((Mur.xorl 54 (KK1.take i)) ++ ([((KK1.getD i 0) ^^^ (54 : UInt8))]))) ?_
  rintro _ W7 ⟨AA1, nn1, rfl, ow2, ch6, ha1⟩
  have zz6 := ch6.size
  have hq3 := ow2.nc
  have hq4 := ow2.cm
  refine rP 8 10 (.slice AA1 (i + 1) nn1)<|eN<|reg<|?_
  have hne2 : ∀ q, (Value.slice AA1 (i + 1) nn1).ownBlock = some q → (Value.slice A2 i c2).ownBlock ≠ some q := fun q h1 h2 => by
   rcases ha1 q h1 with h | h
   ·exact hne q h h2
   ·have := hO2.lt q h2; omega
  refine rP 0 30 (.slice A2 i c2)<|rP 1 31 (.slice (some ⟨qk1, 0, none⟩) 64 ck1)<|rP 2 32 (vI i)<|rq 3 33 (pt qk1 (0 + i * 1)) rfl (iS 1 qk1 0 64 ck1 i)<|rq 4 34 _ rfl (ld 5 33 qk1 (0 + i * 1) (vB ((KK1.getD i 0).toNat : Nat)) (Mur.byt_cell (Mur.byt_chg (Mur.byt_chg hKB ch5 (fun g off e hl => trivial)) ch6 (fun g off e hl => (off_blk (fun gz hgz => by have := hO1.lt gz hgz; have := hKt1 g off e; omega)))) i (by omega)))<|rq 5 35 (vB (((KK1.getD i 0) ^^^ (92 : UInt8)).toNat : Nat)) rfl (Mur.xor8 5 5 (.tmp 34) (.const (vB 92)) rfl (KK1.getD i 0) (92 : UInt8) (by kernel_rfl) (by kernel_rfl))<|nS 6 36 1 #[vB (((KK1.getD i 0) ^^^ (92 : UInt8)).toNat : Nat)] 5 fun W8 hb5 ch7 sz5 => ?_
  have ow3 := oA ow2 ch7
  refine rX 7 37 rfl rfl (ap8 1 1 (oA (Mur.own8 (own_chg (oA hO2 ch5).own ch6 (fun q e _ _ => (off_blk (fun g hg h => hne g hg (h ▸ e)))))) ch7).own (Mur.byt_row [((KK1.getD i 0) ^^^ (92 : UInt8))] hb5) (fun h => by cases h) (i + 1) ((Mur.xorl 92 (KK1.take i)) ++ ([((KK1.getD i 0) ^^^ (92 : UInt8))]))) ?_
  rintro _ W9 ⟨AA2, nn2, rfl, ow7, ch8, ha2⟩
  have zz8 := ch8.size
  have hq5 := ow7.nc
  have hq6 := ow7.cm
  refine rP 8 11 (.slice AA2 (i + 1) nn2)<|rE<|inN<|nxt<|reg<|rP 0 20 (vI i)<|rI 1 21 ((i : Int) + 1) (((i + 1 : Nat) : Int))<|rP 2 12 (vI (i + 1 : Nat))<|eN<|?_
  have ow8 := Mur.own8 (own_chg ow3.own ch8 (fun q e _ _ => (off_blk (fun g hg h => hne2 g (h ▸ e) hg))))
  refine ⟨_, ?_, i + 1, AA1, nn1, AA2, nn2, rfl, by kernel_rfl, (by omega), (by rw [Mur.xorl_succ _ KK1 i (by omega)]; exact ow8), (by rw [Mur.xorl_succ _ KK1 i (by omega)]; exact ow7), (fun q h1 h2 => by
   have l1 := ow8.lt q h1
   rcases ha2 q h2 with k | k
   ·exact hne2 q h1 k
   ·rcases ha1 q h1 with h | h
    ·have := hO1.lt q h; omega
    ·have := ow3.lt q h1; omega), (Mur.byt_chg (Mur.byt_chg (Mur.byt_chg (Mur.byt_chg hKB ch5 (fun g off e hl => trivial)) ch6 (fun g off e hl => (off_blk (fun gz hgz => by have := hO1.lt gz hgz; have := hKt1 g off e; omega)))) ch7 (fun g off e hl => trivial)) ch8 (fun g off e hl => (off_blk (fun gz hgz => by have := hO2.lt gz hgz; have := hKt1 g off e; omega)))), (Chg.hp ch8 (qT ch7 (Chg.hp ch6 (qT ch5 hG0) (off_blk (fun gz hgz => by have := hO1.lt gz hgz; omega)))) (off_blk (fun gz hgz => by have := hO2.lt gz hgz; omega))), (Chg.hp ch8 (qT ch7 (Chg.hp ch6 (qT ch5 hG1) (off_blk (fun gz hgz => by have := hO1.lt gz hgz; omega)))) (off_blk (fun gz hgz => by have := hO2.lt gz hgz; omega))), (Chg.hp ch8 (qT ch7 (Chg.hp ch6 (qT ch5 hG2) (off_blk (fun gz hgz => by have := hO1.lt gz hgz; omega)))) (off_blk (fun gz hgz => by have := hO2.lt gz hgz; omega))), (Chg.step (kA (Chg.step (kA HB ch5) ch6 (newOr_blk (fun g hg => by have := hO1.lt g hg; omega))) ch7) ch8 (newOr_blk (fun g hg => by have := hO2.lt g hg; omega))), (by omega)⟩
  omega
 obtain rfl : i = 64 := by omega
 have hft : KK1.take 64 = KK1 := List.take_of_length_le (by rw [hKl1]; exact Nat.le_refl _)
 rw [hft] at hO1 hO2
 refine wp_seq<|sR<|rP 0 18 (vI ((64 : Nat) : Int))<|bF 1 19 (((64 : Nat) : Int) < (64 : Int))<|eN<|cF<|xX<|nxt<|wp_seq<|?_
 refine dReg ((Wk.blk (.slice A1 64 c1))) (by kernel_rfl) ?_
 intro W10 ch9 sz6
 have zz9 := ch9.size
 have sS1 : Chg ((Wk.blk (.slice A1 64 c1))) W10 W10 := (Chg.refl _).more (by simp)
 refine dV 0 38 _ rfl rfl (fun w' hw' => lA (Chg.hp hw' (qT ch9 hG0) (off_blk (fun gz hgz => by have := hO1.lt gz hgz; omega))) hcs.1) sS1<|dV 1 39 _ rfl rfl (fun w' hw' => lA (Chg.hp hw' (qT ch9 hG1) (off_blk (fun gz hgz => by have := hO1.lt gz hgz; omega))) kcs.1) sS1<|dW 2 40 (.slice A1 64 c1) sS1<|dW 3 41 (.slice B m d) sS1 ?_
 refine dOp2 4 6 (by kernel_rfl) ?_ ?_
 ·have ow9 := oA hO1 ch9
  have kk9 := kA HB ch9
  refine oEx (some 42) _ rfl rfl (by kernel_rfl) (ap8 m d ow9.own (Mur.byt_chg HB2.out kk9 (fun g off e hl => trivial)) HA2.out (64 + m) ((Mur.xorl 54 KK1) ++ b)) ?_
  rintro _ W11 ⟨AA3, nn3, rfl, ow10, ch10, ha3⟩
  have zz10 := ch10.size
  have hq7 := ow10.nc
  have hq8 := ow10.cm
  have sS2 := Chg.step sS1 ch10 (Mur.newOr_iff.2 (fun t ht => .inl ht))
  refine aN sS2 ?_
  refine dOp2 5 6 (by kernel_rfl) ?_ ?_
  ·refine oK 43 (Rsum_var hc kc Hh Hk ((Mur.xorl 54 KK1) ++ b) AA3 (64 + m) nn3 W11 ow10.byt (by omega) ow10.nil (by omega)) ?_
   rintro _ W12 ⟨dd1, hd1, hdl1, rfl, hB1⟩
   have ch11 := Chg.ofBelow hB1
   have zz11 := ch11.size
   have sS3 := kA sS2 ch11
   refine aN sS3<|dO 6<|oN 13 Z32 28 fun W13 hb6 ch12 sz7 => ?_
   have sS4 := kA sS3 ch12
   refine aN sS4<|dO 7<|oU rfl (sC dd1 hdl1 hb6) fun W14 hb7 ch13 zz13 => ?_
   have sS5 := kB sS4 ch13
   refine aN sS5<|dN<|wp_seq<|?_
   refine dReg (([W2.heap.size] ++ Wk.blk (.slice A2 64 c2))) (by kernel_rfl) ?_
   intro W15 ch14 sz8
   have zz14 := ch14.size
   have sS6 : Chg (([W2.heap.size] ++ Wk.blk (.slice A2 64 c2))) W15 W15 := (Chg.refl _).more (by simp)
   refine dV 0 44 _ rfl rfl (fun w' hw' => lA (Chg.hp hw' (qT ch14 (qO ch13 (qT ch12 (qT ch11 (Chg.hp ch10 (qT ch9 hG0) (off_blk (fun gz hgz => by have := hO1.lt gz hgz; omega))))))) ⟨by omega, (off_blk (fun gz hgz => by have := hO2.lt gz hgz; omega))⟩) hcs.1) sS6<|dV 1 45 _ rfl rfl (fun w' hw' => lA (Chg.hp hw' (qT ch14 (qO ch13 (qT ch12 (qT ch11 (Chg.hp ch10 (qT ch9 hG1) (off_blk (fun gz hgz => by have := hO1.lt gz hgz; omega))))))) ⟨by omega, (off_blk (fun gz hgz => by have := hO2.lt gz hgz; omega))⟩) kcs.1) sS6<|dW 2 46 (.slice A2 64 c2) sS6<|dV 3 47 (.slice (some ⟨W12.heap.size, 0, none⟩) 32 32) rfl rfl (fun w' hw' => Mur.arr_slice 28 5 (.tmp 13) 32 rfl Tryz.underlying28 (by kernel_rfl) W12.heap.size (by kernel_rfl)) sS6<|dO 4<|oEx (some 48) _ rfl rfl (by kernel_rfl) (ap8 32 32 (oA (oB (oA (oA (Mur.own8 (own_chg (oA hO2 ch9).own ch10 (fun q e _ _ => (off_blk (fun g hg h => hne g hg (h ▸ e)))))) ch11) ch12) ch13 hO2.lt) ch14).own (Mur.byt_blk dd1 hdl1 (qT ch14 hb7)) (fun h => by cases h) 96 ((Mur.xorl 92 KK1) ++ dd1)) ?_
   rintro _ W16 ⟨AA4, nn4, rfl, ow17, ch15, ha4⟩
   have zz15 := ch15.size
   have hq9 := ow17.nc
   have hq10 := ow17.cm
   have sS7 := Chg.step sS6 ch15 (Mur.newOr_iff.2 (fun t ht => .inl (List.mem_append_right _ ht)))
   refine aN sS7<|dO 5<|oK 49 (Rsum_var hc kc Hh Hk ((Mur.xorl 92 KK1) ++ dd1) AA4 96 nn4 W16 ow17.byt (by omega) ow17.nil (by omega)) ?_
   rintro _ W17 ⟨dd2, hd2, hdl2, rfl, hB2⟩
   have ch16 := Chg.ofBelow hB2
   have zz16 := ch16.size
   have sS8 := kA sS7 ch16
   refine aN sS8<|dO 6<|oU rfl (sC dd2 hdl2 (qT ch16 (Chg.hp ch15 (qT ch14 (qO ch13 (qT ch12 (qT ch11 (Chg.hp ch10 (qT ch9 hG2) (off_blk (fun gz hgz => by have := hO1.lt gz hgz; omega))))))) (off_blk (fun gz hgz => by have := hO2.lt gz hgz; omega))))) fun W18 hb8 ch17 zz17 => ?_
   have sS9 := kC sS8 ch17
   refine aN sS9<|dN<|wp_ret<|?_
   exact retC rfl hb8 (by rw [List.size_toArray, Mur.b8s_length, hdl2]; kernel_rfl) ⟨_, Go.Lib.hid (by unfold Mur.hmac; rw [hd2.out, hd1.out, hK1.out]), hdl2, rfl, (kB (kA (Chg.step (kA (kB (kA (kA (Chg.step kk9 ch10 (newOr_blk (fun g hg => by have := hO1.lt g hg; omega))) ch11) ch12) ch13) ch14) ch15 (newOr_blk (fun g hg => by have := hO2.lt g hg; omega))) ch16) ch17)⟩
  refine oN 13 Z32 28 fun W19 hb9 ch18 sz9 => ?_
  have sS10 := kA sS2 ch18
  refine aN sS10<|dO 5 ?_
  have ow18 := oA ow10 ch18
  refine oK 43 (Rsum_var hc kc Hh Hk ((Mur.xorl 54 KK1) ++ b) AA3 (64 + m) nn3 W19 ow18.byt (by omega) ow18.nil (by omega)) ?_
  rintro _ W20 ⟨dd3, hd3, hdl3, rfl, hB3⟩
  have ch19 := Chg.ofBelow hB3
  have zz19 := ch19.size
  have sS11 := kA sS10 ch19
  refine aN sS11<|dO 7<|oU rfl (sC dd3 hdl3 (qT ch19 hb9)) fun W21 hb10 ch20 zz20 => ?_
  have sS12 := kB sS11 ch20
  refine aN sS12<|dN<|wp_seq<|?_
  refine dReg (([W2.heap.size] ++ Wk.blk (.slice A2 64 c2))) (by kernel_rfl) ?_
  intro W22 ch21 sz10
  have zz21 := ch21.size
  have sS13 : Chg (([W2.heap.size] ++ Wk.blk (.slice A2 64 c2))) W22 W22 := (Chg.refl _).more (by simp)
  refine dV 0 44 _ rfl rfl (fun w' hw' => lA (Chg.hp hw' (qT ch21 (qO ch20 (qT ch19 (qT ch18 (Chg.hp ch10 (qT ch9 hG0) (off_blk (fun gz hgz => by have := hO1.lt gz hgz; omega))))))) ⟨by omega, (off_blk (fun gz hgz => by have := hO2.lt gz hgz; omega))⟩) hcs.1) sS13<|dV 1 45 _ rfl rfl (fun w' hw' => lA (Chg.hp hw' (qT ch21 (qO ch20 (qT ch19 (qT ch18 (Chg.hp ch10 (qT ch9 hG1) (off_blk (fun gz hgz => by have := hO1.lt gz hgz; omega))))))) ⟨by omega, (off_blk (fun gz hgz => by have := hO2.lt gz hgz; omega))⟩) kcs.1) sS13<|dW 2 46 (.slice A2 64 c2) sS13<|dV 3 47 (.slice (some ⟨W11.heap.size, 0, none⟩) 32 32) rfl rfl (fun w' hw' => Mur.arr_slice 28 5 (.tmp 13) 32 rfl Tryz.underlying28 (by kernel_rfl) W11.heap.size (by kernel_rfl)) sS13<|dO 4<|oEx (some 48) _ rfl rfl (by kernel_rfl) (ap8 32 32 (oA (oB (oA (oA (Mur.own8 (own_chg (oA hO2 ch9).own ch10 (fun q e _ _ => (off_blk (fun g hg h => hne g hg (h ▸ e)))))) ch18) ch19) ch20 hO2.lt) ch21).own (Mur.byt_blk dd3 hdl3 (qT ch21 hb10)) (fun h => by cases h) 96 ((Mur.xorl 92 KK1) ++ dd3)) ?_
  rintro _ W23 ⟨AA5, nn5, rfl, ow25, ch22, ha5⟩
  have zz22 := ch22.size
  have hq11 := ow25.nc
  have hq12 := ow25.cm
  have sS14 := Chg.step sS13 ch22 (Mur.newOr_iff.2 (fun t ht => .inl (List.mem_append_right _ ht)))
  refine aN sS14<|dO 5<|oK 49 (Rsum_var hc kc Hh Hk ((Mur.xorl 92 KK1) ++ dd3) AA5 96 nn5 W23 ow25.byt (by omega) ow25.nil (by omega)) ?_
  rintro _ W24 ⟨dd4, hd4, hdl4, rfl, hB4⟩
  have ch23 := Chg.ofBelow hB4
  have zz23 := ch23.size
  have sS15 := kA sS14 ch23
  refine aN sS15<|dO 6<|oU rfl (sC dd4 hdl4 (qT ch23 (Chg.hp ch22 (qT ch21 (qO ch20 (qT ch19 (qT ch18 (Chg.hp ch10 (qT ch9 hG2) (off_blk (fun gz hgz => by have := hO1.lt gz hgz; omega))))))) (off_blk (fun gz hgz => by have := hO2.lt gz hgz; omega))))) fun W25 hb11 ch24 zz24 => ?_
  have sS16 := kC sS15 ch24
  refine aN sS16<|dN<|wp_ret<|?_
  exact retC rfl hb11 (by rw [List.size_toArray, Mur.b8s_length, hdl4]; kernel_rfl) ⟨_, Go.Lib.hid (by unfold Mur.hmac; rw [hd4.out, hd3.out, hK1.out]), hdl4, rfl, (kB (kA (Chg.step (kA (kB (kA (kA (Chg.step kk9 ch10 (newOr_blk (fun g hg => by have := hO1.lt g hg; omega))) ch18) ch19) ch20) ch21) ch22 (newOr_blk (fun g hg => by have := hO2.lt g hg; omega))) ch23) ch24)⟩
 refine oN 13 Z32 28 fun W26 hb12 ch25 sz11 => ?_
 have sS17 := kA sS1 ch25
 refine aN sS17<|dO 4 ?_
 have kk27 := kA (kA HB ch9) ch25
 refine oEx (some 42) _ rfl rfl (by kernel_rfl) (ap8 m d (oA (oA hO1 ch9) ch25).own (Mur.byt_chg HB2.out kk27 (fun g off e hl => trivial)) HA2.out (64 + m) ((Mur.xorl 54 KK1) ++ b)) ?_
 rintro _ W27 ⟨AA6, nn6, rfl, ow28, ch26, ha6⟩
 have zz26 := ch26.size
 have hq13 := ow28.nc
 have hq14 := ow28.cm
 have sS18 := Chg.step sS17 ch26 (Mur.newOr_iff.2 (fun t ht => .inl ht))
 refine aN sS18<|dO 5<|oK 43 (Rsum_var hc kc Hh Hk ((Mur.xorl 54 KK1) ++ b) AA6 (64 + m) nn6 W27 ow28.byt (by omega) ow28.nil (by omega)) ?_
 rintro _ W28 ⟨dd5, hd5, hdl5, rfl, hB5⟩
 have ch27 := Chg.ofBelow hB5
 have zz27 := ch27.size
 have sS19 := kA sS18 ch27
 refine aN sS19<|dO 7<|oU rfl (sC dd5 hdl5 (qT ch27 (Chg.hp ch26 hb12 (off_blk (fun gz hgz => by have := hO1.lt gz hgz; omega))))) fun W29 hb13 ch28 zz28 => ?_
 have sS20 := kB sS19 ch28
 refine aN sS20<|dN<|wp_seq<|?_
 refine dReg (([W2.heap.size] ++ Wk.blk (.slice A2 64 c2))) (by kernel_rfl) ?_
 intro W30 ch29 sz12
 have zz29 := ch29.size
 have sS21 : Chg (([W2.heap.size] ++ Wk.blk (.slice A2 64 c2))) W30 W30 := (Chg.refl _).more (by simp)
 refine dV 0 44 _ rfl rfl (fun w' hw' => lA (Chg.hp hw' (qT ch29 (qO ch28 (qT ch27 (Chg.hp ch26 (qT ch25 (qT ch9 hG0)) (off_blk (fun gz hgz => by have := hO1.lt gz hgz; omega)))))) ⟨by omega, (off_blk (fun gz hgz => by have := hO2.lt gz hgz; omega))⟩) hcs.1) sS21<|dV 1 45 _ rfl rfl (fun w' hw' => lA (Chg.hp hw' (qT ch29 (qO ch28 (qT ch27 (Chg.hp ch26 (qT ch25 (qT ch9 hG1)) (off_blk (fun gz hgz => by have := hO1.lt gz hgz; omega)))))) ⟨by omega, (off_blk (fun gz hgz => by have := hO2.lt gz hgz; omega))⟩) kcs.1) sS21<|dW 2 46 (.slice A2 64 c2) sS21<|dV 3 47 (.slice (some ⟨W10.heap.size, 0, none⟩) 32 32) rfl rfl (fun w' hw' => Mur.arr_slice 28 5 (.tmp 13) 32 rfl Tryz.underlying28 (by kernel_rfl) W10.heap.size (by kernel_rfl)) sS21<|dO 4<|oEx (some 48) _ rfl rfl (by kernel_rfl) (ap8 32 32 (oA (oB (oA (Mur.own8 (own_chg (oA (oA hO2 ch9) ch25).own ch26 (fun q e _ _ => (off_blk (fun g hg h => hne g hg (h ▸ e)))))) ch27) ch28 hO2.lt) ch29).own (Mur.byt_blk dd5 hdl5 (qT ch29 hb13)) (fun h => by cases h) 96 ((Mur.xorl 92 KK1) ++ dd5)) ?_
 rintro _ W31 ⟨AA7, nn7, rfl, ow35, ch30, ha7⟩
 have zz30 := ch30.size
 have hq15 := ow35.nc
 have hq16 := ow35.cm
 have sS22 := Chg.step sS21 ch30 (Mur.newOr_iff.2 (fun t ht => .inl (List.mem_append_right _ ht)))
 refine aN sS22<|dO 5<|oK 49 (Rsum_var hc kc Hh Hk ((Mur.xorl 92 KK1) ++ dd5) AA7 96 nn7 W31 ow35.byt (by omega) ow35.nil (by omega)) ?_
 rintro _ W32 ⟨dd6, hd6, hdl6, rfl, hB6⟩
 have ch31 := Chg.ofBelow hB6
 have zz31 := ch31.size
 have sS23 := kA sS22 ch31
 refine aN sS23<|dO 6<|oU rfl (sC dd6 hdl6 (qT ch31 (Chg.hp ch30 (qT ch29 (qO ch28 (qT ch27 (Chg.hp ch26 (qT ch25 (qT ch9 hG2)) (off_blk (fun gz hgz => by have := hO1.lt gz hgz; omega)))))) (off_blk (fun gz hgz => by have := hO2.lt gz hgz; omega))))) fun W33 hb14 ch32 zz32 => ?_
 have sS24 := kC sS23 ch32
 refine aN sS24<|dN<|wp_ret<|?_
 exact retC rfl hb14 (by rw [List.size_toArray, Mur.b8s_length, hdl6]; kernel_rfl) ⟨_, Go.Lib.hid (by unfold Mur.hmac; rw [hd6.out, hd5.out, hK1.out]), hdl6, rfl, (kB (kA (Chg.step (kA (kB (kA (Chg.step kk27 ch26 (newOr_blk (fun g hg => by have := hO1.lt g hg; omega))) ch27) ch28) ch29) ch30 (newOr_blk (fun g hg => by have := hO2.lt g hg; omega))) ch31) ch32)⟩
theorem Rtag_any (s : List UInt8) (A : Option Addr) (n c : Nat) (b : List UInt8) (B : Option Addr) (m d : Nat) (w : World) (hb : Byt w A n s) (hnc : n ≤ c) (ha : A = none → c = 0) (hn : n ≤ 140737488351232) (hb2 : Byt w B m b) (ha2 : B = none → d = 0) (hn2 : m ≤ 140737488351000) : Calls Tryz.prog 35 #[.slice A n c, .slice B m d] w fun e w' => ∃ d, Hid (d = Mur.hmac s b) ∧ d.length = 32 ∧ e = .returned (.agg (b8s d).toArray) ∧ Chg [] w w' := by
 have HBY := Go.Lib.hid hb
 clear hb
 have HA := Go.Lib.hid ha
 clear ha
 have HB2 := Go.Lib.hid hb2
 clear hb2
 have HA2 := Go.Lib.hid ha2
 clear ha2
 refine calls_of_wp Tryz.func35 rfl ?_
 refine sR<|nW 0 4 Z32 28 fun W1 hb1 ch1 sz1 => eN<|sR<|rK 0 8 (words_var W1) ?_
 rintro _ W2 ⟨hc, kc, Hh, Hk, rfl, hB1⟩
 have ch2 := Chg.ofBelow hB1
 have zz2 := ch2.size
 have hcs := hc_size Hh.out
 have kcs := kc_size Hk.out
 refine rP 1 7 (.tuple #[.agg hc, .agg kc])<|rP 2 9 (.agg hc)<|rP 3 10 (.agg kc)<|nW 4 5 #[.int .u32 0, .int .u32 0, .int .u32 0, .int .u32 0, .int .u32 0, .int .u32 0, .int .u32 0, .int .u32 0] 101 fun W3 hb2 ch3 sz2 => nW 5 6 #[.int .u32 0, .int .u32 0, .int .u32 0, .int .u32 0, .int .u32 0, .int .u32 0, .int .u32 0, .int .u32 0, .int .u32 0, .int .u32 0, .int .u32 0, .int .u32 0, .int .u32 0, .int .u32 0, .int .u32 0, .int .u32 0, .int .u32 0, .int .u32 0, .int .u32 0, .int .u32 0, .int .u32 0, .int .u32 0, .int .u32 0, .int .u32 0, .int .u32 0, .int .u32 0, .int .u32 0, .int .u32 0, .int .u32 0, .int .u32 0, .int .u32 0, .int .u32 0, .int .u32 0, .int .u32 0, .int .u32 0, .int .u32 0, .int .u32 0, .int .u32 0, .int .u32 0, .int .u32 0, .int .u32 0, .int .u32 0, .int .u32 0, .int .u32 0, .int .u32 0, .int .u32 0, .int .u32 0, .int .u32 0, .int .u32 0, .int .u32 0, .int .u32 0, .int .u32 0, .int .u32 0, .int .u32 0, .int .u32 0, .int .u32 0, .int .u32 0, .int .u32 0, .int .u32 0, .int .u32 0, .int .u32 0, .int .u32 0, .int .u32 0, .int .u32 0] 102 fun W4 hb3 ch4 sz3 => rU 6 rfl (sB hc hcs.1 hcs.2 (qT ch4 hb2) (by kernel_rfl)) fun W5 hb4 ch5 zz5 => rU 7 rfl (sB kc kcs.1 kcs.2 (qO ch5 hb3) (by kernel_rfl)) fun W6 hb5 ch6 zz6 => eN<|sR<|rq 0 11 _ rfl (lA (qO ch6 hb4) hcs.1)<|rq 1 12 _ rfl (lA hb5 kcs.1)<|rP 2 13 (.slice A n c)<|rP 3 14 (.slice B m d) ?_
 have kk6 := kB (kB (kA (kA (kA (zA ch1 : Chg [] w W1) ch2) ch3) ch4) ch5) ch6
 refine rK 4 15 (TagBy_any hc kc Hh Hk s A n c b B m d W6 (Mur.byt_chg HBY.out kk6 (fun g off e hl => trivial)) (by omega) HA.out (by omega) (Mur.byt_chg HB2.out kk6 (fun g off e hl => trivial)) HA2.out (by omega)) ?_
 rintro _ W7 ⟨dd1, hd1, hdl1, rfl, ch7⟩
 have zz7 := ch7.size
 refine rU 5 rfl (sC dd1 hdl1 (qT ch7 (qO ch6 (qO ch5 (qT ch4 (qT ch3 (qT ch2 hb1))))))) fun W8 hb6 ch8 zz8 => eN<|wp_ret<|?_
 exact retC rfl hb6 (by rw [List.size_toArray, Mur.b8s_length, hdl1]; kernel_rfl) ⟨_, hd1, hdl1, rfl, (kB (kA kk6 ch7) ch8)⟩
end Go.Proofs.YtgbadghjnpbiaaaGreatDoor
namespace Mur
open Go Go.RowKit Wk
section
variable {P : Program}
end
theorem ok_nil {w : World} : ∀ s ∈ ([] : List Seg), SegOk w s := fun s hs => by cases hs
theorem ok_cons {w : World} {s : Seg} {L : List Seg} (h : SegOk w s) (k : ∀ s ∈ L, SegOk w s) : ∀ x ∈ s :: L, SegOk w x := fun x hx => by
 rcases List.mem_cons.1 hx with rfl | hx
 ·exact h
 ·exact k x hx
theorem segs_lit {w : World} {g : Nat} {t : TypeId} {fr : Nat × Nat} (L : List Seg) (n : Nat) (h : w.heap[g]? = some (.cells (L.map Seg.v).toArray t fr)) (hok : ∀ s ∈ L, SegOk w s) (hn : L.length = n) : Segs w (some ⟨g, 0, none⟩) n L :=
 ⟨hn, hok, fun _ => ⟨g, 0, rfl, fun i s hi => by
  rw [cell_of_row _ _ _ _ _ _ h, Nat.zero_add]
  simp [hi]⟩⟩
theorem hmacN (s b : List UInt8) : shaN (ns (xorl 92 (hkey s)) ++ shaN (ns (xorl 54 (hkey s) ++ b))) = ns (hmac s b) := by
 have e : ∀ x y : List UInt8, ns x ++ ns y = ns (x ++ y) := fun x y => by simp [ns]
 rw [shaN_eq, e, shaN_eq]
 rfl
end Mur
namespace Mur
open Go Go.RowKit Wk
def wantM (b : Int) : Frm := { headM 5 1 b with chunk := 3 }
def clmM : Frm := { headM 3 1 2 with cNode := 1 }
theorem formN_small {n : Nat} (h : 0 < n) (h2 : n < 256) : formN n = [1, UInt8.ofNat n] := by
 have h3 : n / 256 = 0 := by omega
 unfold formN
 rw [digs_pos (by omega), h3, digs_zero]
 rw [Nat.mod_eq_of_lt h2]
 rfl
theorem formN_zero : formN 0 = [0] := by
 unfold formN
 rw [digs_zero]
 rfl
theorem want_bare (b : Int) : bareM (wantM b) = wantM b := (bareM_5 rfl).trans rfl
theorem clm_bare : bareM clmM = clmM := (bareM_3 rfl).trans rfl
theorem want_may : mayFM (wantM 2) := ⟨⟨by decide, by decide⟩, ⟨by decide, by decide⟩, by decide, (want_bare 2).symm, .inr (.inr (.inr (.inr (.inl ⟨rfl, by decide, by decide⟩))))⟩
theorem want_no : ¬ mayFM (wantM 1) := fun h => h.2.2.1 rfl
theorem clm_may : mayFM clmM := ⟨⟨by decide, by decide⟩, ⟨by decide, by decide⟩, by decide, clm_bare.symm, .inr (.inr (.inl ⟨rfl, rfl, by decide, by decide⟩))⟩
theorem i1 : -9223372036854775808 ≤ (1 : Int) ∧ (1 : Int) ≤ 9223372036854775807 := by decide
theorem i2 : -9223372036854775808 ≤ (2 : Int) ∧ (2 : Int) ≤ 9223372036854775807 := by decide
theorem i3 : -9223372036854775808 ≤ (3 : Int) ∧ (3 : Int) ≤ 9223372036854775807 := by decide
theorem want_in (b : Int) (h : -9223372036854775808 ≤ b ∧ b ≤ 9223372036854775807) : FrmIn (wantM b) := ⟨⟨zN, zN, zN, fun _ q => (by cases q), rfl, rfl, rfl, fun _ q => (by cases q)⟩, i1, h, zI, zI, fun _ q => (by cases q), zI, zI, i3⟩
theorem clm_in : FrmIn clmM := ⟨⟨zN, zN, zN, fun _ q => (by cases q), rfl, rfl, rfl, fun _ q => (by cases q)⟩, i1, i2, zI, zI, fun _ q => (by cases q), zI, i1, zI⟩
theorem want_body : bodyFM (wantM 2) = [1, 5, 1, 1, 1, 2] ++ List.replicate 32 0 ++ [1, 3] := by
 show formN 5 ++ (formN 1 ++ (formN 2 ++ (z32 ++ formN 3))) = _
 rw [formN_small (n := 5) (by decide) (by decide), formN_small (n := 1) (by decide) (by decide), formN_small (n := 2) (by decide) (by decide), formN_small (n := 3) (by decide) (by decide)]
 rfl
def clmB : List UInt8 := [1, 3, 1, 1, 1, 2, 0, 0, 0, 0, 0, 0, 0, 0, 0, 0, 0, 0, 0, 0, 0, 0, 0, 0, 0, 0, 0, 0, 0, 0, 0, 0, 0, 0, 0, 0, 0, 0, 0, 0, 0]
theorem clm_body : bodyFM clmM = clmB := by
 show formN 3 ++ (formN 1 ++ (formN 2 ++ (z32 ++ (formN 0 ++ (formN 0 ++ formN 0))))) = _
 rw [formN_small (n := 3) (by decide) (by decide), formN_small (n := 1) (by decide) (by decide), formN_small (n := 2) (by decide) (by decide), formN_zero]
 rfl
def tagS : List UInt8 := [189, 52, 53, 90, 137, 218, 225, 70, 9, 239, 187, 126, 171, 246, 169, 89, 76, 177, 84, 209, 155, 142, 163, 26, 200, 226, 103, 51, 232, 43, 34, 51]
def tagT : List UInt8 := [8, 252, 65, 131, 248, 241, 12, 201, 111, 180, 246, 176, 194, 138, 129, 98, 61, 6, 118, 154, 67, 162, 59, 165, 69, 241, 225, 192, 162, 127, 157, 97]
theorem hkey_1 (x : UInt8) : hkey [x] = [x] ++ List.replicate 63 0 := by
 have h1 : hkey0 [x] = [x] := if_neg (show ¬ 64 < 1 by decide)
 unfold hkey
 rw [h1]
 rfl
theorem hmac_S : hmac [115] (18 :: clmB) = tagS := by
 apply ns_inj
 rw [← hmacN, hkey_1]
 decide +kernel
theorem hmac_T : hmac [116] (18 :: clmB) = tagT := by
 apply ns_inj
 rw [← hmacN, hkey_1]
 decide +kernel
theorem want_bytes (T : List UInt8 → List UInt8) : bytesFM T (wantM 2) = [1, 5, 1, 1, 1, 2] ++ List.replicate 32 0 ++ [1, 3] := by
 unfold bytesFM
 rw [want_body, if_neg (show ¬ (wantM 2).kind.toNat ≤ 4 by decide), List.append_nil]
theorem want_read (T T' : List UInt8 → List UInt8) (hT : ∀ x, (T x).length = 32) : readAll T' (bytesFM T (wantM 2)) = .ok (wantM 2) := by
 rw [read_bytes T' want_may (want_in 2 (by decide)).ok hT (by rw [want_bytes]; decide), if_neg]
 rintro ⟨h, _⟩
 exact absurd h (show ¬ (wantM 2).kind.toNat ≤ 4 by decide)
theorem clm_len (T : List UInt8 → List UInt8) (hT : ∀ x, (T x).length = 32) : (bytesFM T clmM).length = 73 := by
 unfold bytesFM
 rw [clm_body, if_pos (show clmM.kind.toNat ≤ 4 by decide), List.length_append, hT]
 rfl
theorem clm_read (T T' : List UInt8 → List UInt8) (hT : ∀ x, T x = hmac [115] (18 :: x)) (hT' : ∀ x, T' x = hmac [116] (18 :: x)) (hTl : ∀ x, (T x).length = 32) : readAll T' (bytesFM T clmM) = .tag := by
 rw [read_bytes T' clm_may clm_in.ok hTl (by rw [clm_len T hTl]; decide), if_pos]
 refine ⟨show clmM.kind.toNat ≤ 4 by decide, ?_⟩
 rw [clm_body, hT, hT', hmac_S, hmac_T]
 decide
theorem stradd {P : Program} {w : World} {a : Act} {o : Oper} (t ty : TypeId) (x y : Operand) (ho : o.op = .binOp .add t x y ty) (l r : List UInt8) (hx : a.eval x = .string (str l)) (hy : a.eval y = .string (str r)) (h1 : l.length ≤ 8388608) (h2 : r.length ≤ 8388608) : (execOp a.eval o).run P w = .ok (.value (.string (str (l ++ r)))) w := by
 have e : str l ++ str r = str (l ++ r) := by
  apply ByteArray.ext
  simp [str]
 have h := run_string_add (P := P) (w := w) (str l) (str r) (by show ((l.toArray.size : Nat) : Int) ≤ _; rw [List.size_toArray]; omega) (by show ((r.toArray.size : Nat) : Int) ≤ _; rw [List.size_toArray]; omega)
 rw [e] at h
 unfold execOp
 simp only [ho, hx, hy]
 simp [eqGuard, binOp_string_add, h]
end Mur
namespace Go.Proofs.YtgbadghjnpbiaaaGreatDoor
open Go.RowKit Wk
open Mur (b8s z32 sl0 frmL claimC)
theorem built_want (b : Int) : Program.built Tryz.prog 38 [(0, .int .u8 5), (1, .int .i64 1), (2, .int .i64 b), (8, .int .i64 3)] = some (frmL 5 1 b 0 0 0 0 sl0 0 sl0 z32 0 sl0 false z32 0 0 0 false z32 z32 0 z32 z32 3 sl0 sl0).flatten.toArray := by kernel_rfl
theorem built_claim1 : Program.built Tryz.prog 33 [(1, .int .i64 1)] = some (claimC z32 1 0 0 false).toArray := by kernel_rfl
theorem built_frmc : Program.built Tryz.prog 38 [(0, .int .u8 3), (1, .int .i64 1), (2, .int .i64 2), (5, .agg (claimC z32 1 0 0 false).toArray)] = some (frmL 3 1 2 0 0 0 0 sl0 0 sl0 z32 0 sl0 false z32 1 0 0 false z32 z32 0 z32 z32 0 sl0 sl0).flatten.toArray := by kernel_rfl
end Go.Proofs.YtgbadghjnpbiaaaGreatDoor
namespace Go.Proofs.YtgbadghjnpbiaaaGreatDoor
open Go.RowKit Wk
open Mur (b8s Byt Own8 Seg Segs flat cutA attC Att SlA OwnA rowA msgC conv_u8o flat_all)
set_option maxRecDepth 100000
set_option maxHeartbeats 4000000
def Form_F1 (b : Array Value) (u0 u3 u4 : Value) : Act := sg 24 [(0, u0), (3, u3), (4, u4)] b
def Behind_F1 (b : Array Value) (u0 u3 u9 u10 u11 : Value) : Act := sg 33 [(0, u0), (3, u3), (9, u9), (10, u10), (11, u11)] b
def Behind_F2 (b : Array Value) (u6 u22 u23 u24 : Value) : Act := sg 33 [(6, u6), (22, u22), (23, u23), (24, u24)] b
theorem form_any (N : Nat) (hN : N < 18446744073709551616) (w : World) : Calls Tryz.prog 97 #[vU N] w fun e w' => ∃ q o n, e = .returned (.slice (some ⟨q, o, none⟩) n n) ∧ Byt w' (some ⟨q, o, none⟩) n (Mur.formN N) ∧ (w.heap.size ≤ q ∧ q < w'.heap.size) ∧ n ≤ 9 ∧ Chg [] w w' := by
 refine calls_of_wp Tryz.func97 rfl ?_
 refine sR<|rP 0 2 (.slice none 0 0)<|eN<|?_
 refine wp_scope_straight ?_
 refine sR<|nW 0 3 #[vB 0, vB 0, vB 0, vB 0, vB 0, vB 0, vB 0, vB 0, vB 0] 149 fun W1 hb1 ch1 sz1 => eN<|sR<|rP 0 4 (vI 9)<|eN<|wp_seq<|wp_label<|nxt<|wp_seq<|wp_block<|?_
 refine Wk.loop (fun m_ a wr => ∃ (m : Nat) (j : Nat) (tl : List UInt8), m_ = j ∧ a = Form_F1 a.tmps (vU m) (pw w 0) (vI j) ∧ j ≤ 9 ∧ Mur.FormAt N m (9 - j) tl ∧ wr.heap[w.heap.size]? = some (.cells (b8s (Mur.nineF (9 - j) tl)).toArray 149 (0, 0)) ∧ Chg [] w wr) (9) ?_ ?_
 ·have kk1 : Chg [] w W1 := zA ch1
  refine ⟨N, 9, [], rfl, by kernel_rfl, (by omega), Mur.formAt_zero N, hb1, kk1⟩
 rintro mm1 aa1 W2 ⟨m, j, tl, hmm1, hF1, hj, hF, hX, HB⟩
 generalize aa1.tmps = bb1 at hF1
 subst hF1
 have hzB := HB.size
 have hxl_ := (Array.getElem?_eq_some_iff.1 hX).1
 have hnl : (Mur.nineF (9 - j) tl).length = 9 := Mur.nineF_len hF.2 (by omega)
 have hle := Mur.formAt_le hF hN
 have hj1 : 1 ≤ j := by have := hle.1; omega
 by_cases hm0 : m = 0
 ·subst hm0
  refine wp_block<|wp_seq<|sR<|?_
  refine rP 0 5 (vU ((0 : Nat) : Int))<|rq 1 6 _ rfl (qboolT (b := (((0 : Nat) : Int) == (0 : Int))) (beq_iff_eq.2 (rfl))) ?_
  refine rEnd 2 rfl (nxt (wp_cond_true (by kernel_rfl) (wp_exit (thX (inY (by decide) (thX (inX (nxt (wp_seq (reg ?_))))))))))
  refine rP 0 15 (vI j)<|rI 1 16 ((j : Int) - 1) (((j - 1 : Nat) : Int))<|rP 2 4 (vI (j - 1 : Nat))<|eN<|sR<|rP 0 17 (vI (j - 1 : Nat))<|rP 1 18 (vI (j - 1 : Nat))<|rI 2 19 (8 - ((j - 1 : Nat) : Int)) (((9 - j : Nat) : Int))<|rq 3 20 (vB ((UInt8.ofNat (9 - j)).toNat : Nat)) rfl (conv_u8o 3 5 (.tmp 19) rfl (by kernel_rfl) Tryz.underlying5 .i64 (9 - j) (by kernel_rfl))<|rq 4 21 (.pointer (some ⟨w.heap.size, 0 + (j - 1) * 1, none⟩)) rfl (Wk.index_arr 149 5 (.tmp 3) (.tmp 17) rfl 9 Tryz.underlying149 1 (by kernel_rfl) w.heap.size 0 (j - 1) .i64 (by kernel_rfl) (by kernel_rfl) (by omega))<|rU 5 rfl (Mur.store8 5 (.tmp 21) (.tmp 20) rfl (by kernel_rfl) w.heap.size (j - 1) (by kernel_rfl) (UInt8.ofNat (9 - j)) (by kernel_rfl) 149 (Mur.nineF (9 - j) tl) hX (by rw [hnl]; omega)) fun W3 hb2 ch2 zz2 => eN<|sR<|rP 0 22 (vI (j - 1 : Nat))<|rq 1 23 (.slice (some ⟨w.heap.size, j - 1, none⟩) (9 - (j - 1)) (9 - (j - 1))) rfl (Mur.arr_slice_from 149 5 (.tmp 3) (.tmp 22) 9 (j - 1) rfl Tryz.underlying149 (by kernel_rfl) w.heap.size (by kernel_rfl) (by kernel_rfl) (by omega))<|rP 2 2 (.slice (some ⟨w.heap.size, j - 1, none⟩) (9 - (j - 1)) (9 - (j - 1)))<|eN<|wp_ret<|?_
  refine Wk.ngR ?_
  exact rt (.slice (some ⟨w.heap.size, j - 1, none⟩) (9 - (j - 1)) (9 - (j - 1))) ⟨_, _, _, rfl, Mur.form_byt hF ⟨hj1, hj⟩ hb2, ⟨by omega, by omega⟩, by omega, (kB HB ch2)⟩
 have hj2 := hle.2 hm0
 refine wp_block<|wp_seq<|sR<|?_
 refine rP 0 5 (vU m)<|eF 1 6 (m : Int) (0 : Int)<|eN<|cF<|wp_skip<|nxt<|sR<|rP 0 7 (vI j)<|rI 1 8 ((j : Int) - 1) (((j - 1 : Nat) : Int))<|rP 2 4 (vI (j - 1 : Nat))<|eN<|reg<|rP 0 9 (vI (j - 1 : Nat))<|rP 1 10 (vU m)<|rq 2 11 (vB ((UInt8.ofNat (m % 256)).toNat : Nat)) rfl (by rw [Mur.ofNat_mod2]; exact conv_u8o 23 5 (.tmp 10) rfl (by kernel_rfl) Tryz.underlying5 .u64 m (by kernel_rfl))<|rP 3 12 (vU m)<|rq 4 13 (vU (m / 256 : Nat)) rfl (Mur.shr64 23 148 (.tmp 12) (.const (vU 8)) rfl m 8 .u64 (by kernel_rfl) (by kernel_rfl) (by omega) 256 rfl)<|rq 5 14 (.pointer (some ⟨w.heap.size, 0 + (j - 1) * 1, none⟩)) rfl (Wk.index_arr 149 5 (.tmp 3) (.tmp 9) rfl 9 Tryz.underlying149 1 (by kernel_rfl) w.heap.size 0 (j - 1) .i64 (by kernel_rfl) (by kernel_rfl) (by omega))<|rU 6 rfl (Mur.store8 5 (.tmp 14) (.tmp 11) rfl (by kernel_rfl) w.heap.size (j - 1) (by kernel_rfl) (UInt8.ofNat (m % 256)) (by kernel_rfl) 149 (Mur.nineF (9 - j) tl) hX (by rw [hnl]; omega)) fun W4 hb3 ch3 zz3 => rP 7 0 (vU (m / 256 : Nat))<|rE<|inN<|nxt<|?_
 refine ⟨_, ?_, m / 256, j - 1, UInt8.ofNat (m % 256) :: tl, rfl, by kernel_rfl, (by omega), (by have h_ := Mur.formAt_step hF hm0; rw [show 9 - (j - 1) = 9 - j + 1 by omega]; exact h_), (by have h_ := hb3; rw [show (9 : Nat) - (j - 1) = 9 - j + 1 by omega, ← Mur.nineF_set _ (show 9 - j < 9 by omega), show 9 - (9 - j + 1) = j - 1 by omega]; exact h_), (kB HB ch3)⟩
 omega
theorem behind_any (L : List Seg) (PA : Option Addr) (pn pc : Nat) (w : World) (hl : Segs w PA pn L) (hpn : pn ≤ 9223372036854775807) (hf : (flat L).length ≤ 140737488351000) : Calls Tryz.prog 96 #[.slice PA pn pc] w fun e w' => ∃ A1 n1 c1, e = .returned (.slice A1 n1 c1) ∧ Own8 w' w.heap.size 5 A1 n1 c1 (flat L) ∧ Chg [] w w' := by
 have HL := Go.Lib.hid hl
 clear hl
 refine calls_of_wp Tryz.func96 rfl ?_
 refine sR<|rP 0 2 (.slice none 0 0)<|eN<|sR<|rP 0 3 (vI 0)<|eN<|wp_seq<|sR<|rP 0 9 (.slice PA pn pc)<|rP 1 10 (vI pn)<|rP 2 11 (vI 0)<|eN<|wp_block<|?_
 refine Wk.loop (fun m_ a wr => ∃ (k : Nat) (N : Nat), m_ = pn - k ∧ a = Behind_F1 a.tmps (.slice PA pn pc) (vI N) (.slice PA pn pc) (vI pn) (vI k) ∧ k ≤ pn ∧ N = (flat (L.take k)).length ∧ Chg [] w wr) (pn - 0) ?_ ?_
 ·refine ⟨0, 0, rfl, by kernel_rfl, by omega, by rw [List.take_zero]; rfl, (Chg.refl _)⟩
 rintro mm1 aa1 W1 ⟨k, N, hmm1, hF1, hi, hN, HB⟩
 generalize aa1.tmps = bb1 at hF1
 subst hF1
 have hzB := HB.size
 by_cases hlt : k < pn
 ·obtain ⟨g, off, As, ns, cs, ls, rfl, hg, hcell, hby, hsn, hsc, hsnil, hfl, hfle⟩ := HL.out.at hlt
  have hsl_ := hby.1
  have hfl_ := congrArg List.length hfl
  rw [List.length_append] at hfl_
  refine sR<|bT 0 12 ((k : Int) < (pn : Int))<|eN<|wp_seq<|cT<|wp_skip<|nxt<|wp_seq<|wp_block<|sR<|rq 0 13 (pt g (off + k * 1)) rfl (iS 1 g off pn pc k)<|rq 1 14 _ rfl (ld 22 13 g (off + k * 1) (.slice As ns cs) (Chg.cell HB hcell trivial))<|rP 2 5 (.slice As ns cs)<|eN<|reg<|rP 0 15 (vI N)<|rP 1 16 (.slice As ns cs)<|rP 2 17 (vI ns)<|rI 3 18 ((N : Int) + (ns : Int)) (((N + ns : Nat) : Int))<|rP 4 3 (vI (N + ns : Nat))<|rE<|inN<|nxt<|reg<|rI 0 19 ((k : Int) + 1) (((k + 1 : Nat) : Int))<|rP 1 11 (vI (k + 1 : Nat))<|eN<|?_
  refine ⟨_, ?_, k + 1, N + ns, rfl, by kernel_rfl, (by omega), (by omega), HB⟩
  omega
 have hfa : flat (L.take k) = flat L := by rw [show k = pn by omega]; exact flat_all HL.out.len
 rw [hfa] at hN
 refine sR<|bF 0 12 ((k : Int) < (pn : Int))<|eN<|wp_seq<|cF<|xX<|nxt<|sR<|rP 0 20 (vI N)<|rX 1 21 rfl rfl (Mur.make0 22 5 (.const (vI 0)) (.tmp 20) rfl Tryz.underlying22 (by kernel_rfl) N (by omega) (by kernel_rfl) (by kernel_rfl)) ?_
 rintro _ W2 ⟨rfl, ow1, ch1, sz1⟩
 have zz1 := ch1.size
 refine rP 2 6 (.slice (some ⟨W1.heap.size, 0, none⟩) 0 N)<|eN<|wp_seq<|sR<|rP 0 22 (.slice PA pn pc)<|rP 1 23 (vI pn)<|rP 2 24 (vI 0)<|eN<|wp_block<|?_
 refine Wk.loop (fun m_ a wr => ∃ (k2 : Nat) (A1 : Option Addr) (N2 : Nat) (c1 : Nat), m_ = pn - k2 ∧ a = Behind_F2 a.tmps (.slice A1 N2 c1) (.slice PA pn pc) (vI pn) (vI k2) ∧ k2 ≤ pn ∧ Own8 wr w.heap.size 5 A1 N2 c1 (flat (L.take k2)) ∧ Chg [] w wr) (pn - 0) ?_ ?_
 ·have kk1 := kA HB ch1
  refine ⟨0, some ⟨W1.heap.size, 0, none⟩, 0, N, rfl, by kernel_rfl, by omega, (by rw [List.take_zero]; exact Mur.own8_low ow1 (by omega)), kk1⟩
 rintro mm2 aa2 W3 ⟨k2, A1, N2, c1, hmm2, hF2, hi, hO, HB⟩
 generalize aa2.tmps = bb2 at hF2
 subst hF2
 have hzB := HB.size
 have hqn := hO.nc
 have hqm := hO.cm
 have hol := hO.byt.1
 by_cases hlt : k2 < pn
 ·obtain ⟨g, off, As, ns, cs, ls, rfl, hg, hcell, hby, hsn, hsc, hsnil, hfl, hfle⟩ := HL.out.at hlt
  have hsl_ := hby.1
  have hfl_ := congrArg List.length hfl
  rw [List.length_append] at hfl_
  refine sR<|bT 0 25 ((k2 : Int) < (pn : Int))<|eN<|wp_seq<|cT<|wp_skip<|nxt<|wp_seq<|wp_block<|sR<|rq 0 26 (pt g (off + k2 * 1)) rfl (iS 1 g off pn pc k2)<|rq 1 27 _ rfl (ld 22 26 g (off + k2 * 1) (.slice As ns cs) (Chg.cell HB hcell trivial))<|rP 2 8 (.slice As ns cs)<|eN<|reg<|rP 0 28 (.slice A1 N2 c1)<|rP 1 29 (.slice As ns cs)<|rX 2 30 rfl rfl (ap8 ns cs hO.own (Mur.byt_chg hby HB (fun g off e hl => trivial)) hsnil (N2 + ns) ((flat (L.take k2)) ++ ls)) ?_
  rintro _ W4 ⟨AA1, nn1, rfl, ow2, ch2, ha1⟩
  have zz2 := ch2.size
  have hq1 := ow2.nc
  have hq2 := ow2.cm
  refine rP 3 6 (.slice AA1 (N2 + ns) nn1)<|rE<|inN<|nxt<|reg<|rI 0 31 ((k2 : Int) + 1) (((k2 + 1 : Nat) : Int))<|rP 1 24 (vI (k2 + 1 : Nat))<|eN<|?_
  refine ⟨_, ?_, k2 + 1, AA1, N2 + ns, nn1, rfl, by kernel_rfl, (by omega), (by rw [hfl]; exact ow2), (Chg.step HB ch2 (newOr_blk (fun g hg => by have := hO.lt g hg; omega)))⟩
  omega
 have hfa2 : flat (L.take k2) = flat L := by rw [show k2 = pn by omega]; exact flat_all HL.out.len
 rw [hfa2] at hO
 exact sR<|bF 0 25 ((k2 : Int) < (pn : Int))<|eN<|wp_seq<|cF<|xX<|nxt<|sR<|rP 0 32 (.slice A1 N2 c1)<|rP 1 2 (.slice A1 N2 c1)<|eN<|wp_ret<|rt (.slice A1 N2 c1) ⟨_, _, _, rfl, hO, HB⟩
end Go.Proofs.YtgbadghjnpbiaaaGreatDoor
namespace Go.Proofs.YtgbadghjnpbiaaaGreatDoor
open Go.RowKit Wk
open Mur (b8s Byt Own8 Seg Segs flat cutA attC Att SlA OwnA rowA msgC formN byt_chg ok_cons byt_from run_op_from readN_nil readN_short byt_cell conv_int readN_big readN_zero byt_to run_op_cut_to beN_lt56 shl8_64 u64_nat add_u64 beN_more beN_lt64 readN_ok)
set_option maxRecDepth 100000
set_option maxHeartbeats 4000000
def UintW_F1 (b : Array Value) (u1 u4 u8 u54 u55 u56 : Value) : Act := sg 71 [(1, u1), (4, u4), (8, u8), (54, u54), (55, u55), (56, u56)] b
def UintW_F2 (b : Array Value) (u1 u4 u8 u54 u55 u56 : Value) : Act := sg 71 [(1, u1), (4, u4), (8, u8), (54, u54), (55, u55), (56, u56)] b
def UintW_F3 (b : Array Value) (u1 u4 u8 u54 u55 u56 : Value) : Act := sg 71 [(1, u1), (4, u4), (8, u8), (54, u54), (55, u55), (56, u56)] b
theorem AppendUint_any (b : List UInt8) (A : Option Addr) (n c : Nat) (N : Nat) (w : World) (hb : Byt w A n b) (hnc : n ≤ c ∧ c ≤ Go.maxLen) (hnil : A = none → c = 0) (hn : n ≤ 140737488350000) (hN : N < 18446744073709551616) : Calls Tryz.prog 77 #[.slice A n c, vU N] w fun e w' => ∃ A1 n1 c1, e = .returned (.slice A1 n1 c1) ∧ Own8 w' w.heap.size 5 A1 n1 c1 (b ++ formN N) ∧ Chg [] w w' := by
 have hbl_ := hb.1
 refine calls_of_wp Tryz.func77 rfl ?_
 refine sR<|rP 0 4 (.slice none 0 0)<|eN<|sR<|rP 0 5 (.slice A n c)<|rP 1 6 (vU N)<|rK 2 7 (form_any N (by omega) w) ?_
 rintro _ W1 ⟨qf1, of1, nf1, rfl, hbf1, hqf1, hnf1, ch1⟩
 have zz1 := ch1.size
 have hlt1 : ∀ g off, (some ⟨qf1, of1, none⟩ : Option Addr) = some ⟨g, off, none⟩ → w.heap.size ≤ g ∧ g < W1.heap.size := fun g off e => by cases e; exact hqf1
 refine nS 3 8 2 #[.slice A n c, .slice (some ⟨qf1, of1, none⟩) nf1 nf1] 22 fun W2 hb1 ch2 sz1 => ?_
 have kk2 := kA (zA ch1 : Chg [] w W1) ch2
 have hby1 := (byt_chg hb kk2 (fun g off e hl => trivial))
 have hby2 := (byt_chg hbf1 ch2 (fun g off e hl => trivial))
 refine rK 4 9 (behind_any ([⟨A, n, c, b⟩, ⟨(some ⟨qf1, of1, none⟩), nf1, nf1, (formN N)⟩]) (some ⟨W1.heap.size, 0, none⟩) 2 2 W2 (Mur.segs_lit [⟨A, n, c, b⟩, ⟨(some ⟨qf1, of1, none⟩), nf1, nf1, (formN N)⟩] 2 hb1 (ok_cons ⟨(show n ≤ c by omega), hnil, hby1, (show c ≤ Go.maxLen by first | omega | (unfold Go.maxLen; omega))⟩ (ok_cons ⟨(show nf1 ≤ nf1 by omega), (fun h => by cases h), hby2, (show nf1 ≤ Go.maxLen by first | omega | (unfold Go.maxLen; omega))⟩ Mur.ok_nil)) rfl) (by omega) (by show (b ++ ((formN N) ++ [])).length ≤ _; simp only [List.length_append, List.length_nil]; have hl0 := hby1.1; have hl1 := hby2.1; omega)) ?_
 rintro _ W3 ⟨AA1, nn1, nn2, rfl, ow1, ch3⟩
 have zz3 := ch3.size
 rw [show Mur.flat ([⟨A, n, c, b⟩, ⟨(some ⟨qf1, of1, none⟩), nf1, nf1, (formN N)⟩]) = b ++ formN N from by simp [Mur.flat]] at ow1
 have hq1 := ow1.nc
 have hq2 := ow1.cm
 exact rP 5 4 (.slice AA1 nn1 nn2)<|eN<|wp_ret<|rt (.slice AA1 nn1 nn2) ⟨_, _, _, rfl, Mur.own8_low ow1 (by omega), (kA kk2 ch3)⟩
theorem Uint_any (b : List UInt8) (A : Option Addr) (n c : Nat) (at_ : Nat) (w : World) (hb : Byt w A n b) (hnc : n ≤ c ∧ c ≤ 9223372036854775807) (hat : at_ ≤ n) : Calls Tryz.prog 93 #[.slice A n c, vI at_] w fun e w' => ∃ v nx er : Nat, e = .returned (.tuple #[vU v, vI nx, vI er]) ∧ ((er = 0 ∧ v < 18446744073709551616 ∧ (at_ < nx ∧ nx ≤ n) ∧ Mur.readN (b.drop at_) = some (v, b.drop nx)) ∨ (er ≠ 0 ∧ v = 0 ∧ nx = 0 ∧ Mur.readN (b.drop at_) = none)) ∧ w = w' := by
 have hbl_ := hb.1
 refine calls_of_wp Tryz.func93 rfl ?_
 refine sR<|rP 0 4 (vU 0)<|rP 1 5 (vI 0)<|rP 2 6 (vI 0)<|eN<|wp_seq<|sR<|rP 0 11 (vI at_)<|bF 1 12 ((at_ : Int) < (0 : Int))<|rP 2 13 vF<|rP 3 14 (vI at_)<|rP 4 15 (.slice A n c)<|rP 5 16 (vI n)<|bF 6 17 ((at_ : Int) > (n : Int))<|rP 7 18 vF<|eN<|cF<|wp_skip<|nxt<|sR<|rP 0 19 (.slice A n c)<|rP 1 20 (vI at_) ?_
 obtain ⟨Ac1, hAc1⟩ : ∃ x_, x_ = Mur.cutA A c at_ := ⟨_, rfl⟩
 have hbc1 : Byt w Ac1 (n - at_) (b.drop at_) := by rw [hAc1]; exact byt_from hb at_ (by omega) (by omega)
 refine rq 2 21 (.slice Ac1 (n - at_) (c - at_)) rfl (by rw [hAc1]; exact run_op_from 22 (.tmp 19) (.tmp 20) rfl 5 Tryz.underlying22 (by kernel_rfl) A n c at_ (by kernel_rfl) (by kernel_rfl) (by omega) (by omega))<|rP 3 7 (.slice Ac1 (n - at_) (c - at_))<|eN<|wp_seq<|sR<|rP 0 22 (.slice Ac1 (n - at_) (c - at_))<|rP 1 23 (vI (n - at_ : Nat)) ?_
 by_cases hx1 : ((n - at_ : Nat) : Int) = (0 : Int)
 ·exact eT 2 24 ((n - at_ : Nat) : Int) (0 : Int)<|eN<|cT<|sR<|rP 0 4 (vU 0)<|rP 1 5 (vI 0)<|rP 2 6 (vI 4)<|eN<|tR<|rt (.tuple #[vU 0, vI 0, vI 4]) ⟨0, 0, _, rfl, .inr ⟨by decide, rfl, rfl, (by first | exact readN_nil (by omega) | exact readN_short hsr (by omega))⟩, rfl⟩
 refine eF 2 24 ((n - at_ : Nat) : Int) (0 : Int)<|eN<|cF<|wp_skip<|nxt<|sR<|rP 0 25 (.slice Ac1 (n - at_) (c - at_)) ?_
 obtain ⟨q1, o1, hq_, _⟩ := hbc1.2 (by omega)
 subst hq_
 obtain ⟨s0, r0, hsr⟩ := Mur.drop_cons (p := at_) (b := b) (by omega)
 rw [hsr] at hbc1
 have hr0 := hbc1.1
 rw [List.length_cons] at hr0
 have hs0 := s0.toNat_lt
 refine rq 1 26 (pt q1 (o1 + 0 * 1)) rfl (iS 1 q1 o1 (n - at_) (c - at_) 0)<|rq 2 27 _ rfl (ld 5 26 q1 (o1 + 0 * 1) (vB s0.toNat) (show _ from byt_cell hbc1 0 (by omega)))<|rq 3 28 (vI s0.toNat) rfl (conv_int 5 3 (.tmp 27) rfl (by kernel_rfl) .i64 Tryz.underlying3 .u8 (s0.toNat : Int) (by kernel_rfl) (Mur.i64_nat (by omega)))<|rP 4 8 (vI s0.toNat)<|eN<|wp_seq<|sR<|rP 0 29 (.slice (some ⟨q1, o1, none⟩) (n - at_) (c - at_)) ?_
 obtain ⟨Ac2, hAc2⟩ : ∃ x_, x_ = Mur.cutA (some ⟨q1, o1, none⟩) (c - at_) 1 := ⟨_, rfl⟩
 have hbc2 : Byt w Ac2 (n - at_ - 1) r0 := by rw [hAc2]; exact byt_from hbc1 1 (by omega) (by omega)
 refine rq 1 30 (.slice Ac2 (n - at_ - 1) (c - at_ - 1)) rfl (by rw [hAc2]; exact run_op_from 22 (.tmp 29) (.const (vI 1)) rfl 5 Tryz.underlying22 (by kernel_rfl) (some ⟨q1, o1, none⟩) (n - at_) (c - at_) 1 (by kernel_rfl) (by kernel_rfl) (by omega) (by omega))<|rP 2 7 (.slice Ac2 (n - at_ - 1) (c - at_ - 1))<|eN<|wp_block<|wp_seq<|sR<|rP 0 32 (vI s0.toNat) ?_
 by_cases hx2 : (s0.toNat : Int) > (8 : Int)
 ·exact bT 1 33 ((s0.toNat : Int) > (8 : Int))<|rP 2 31 vT<|eN<|cT<|wp_skip<|nxt<|cT<|sR<|rP 0 4 (vU 0)<|rP 1 5 (vI 0)<|rP 2 6 (vI 5)<|eN<|tI<|rt (.tuple #[vU 0, vI 0, vI 5]) ⟨0, 0, _, rfl, .inr ⟨by decide, rfl, rfl, (by first | exact readN_big hsr (by omega) | exact readN_zero hsr (by omega) (by omega) (by omega))⟩, rfl⟩
 refine bF 1 33 ((s0.toNat : Int) > (8 : Int))<|rP 2 31 vF<|eN<|cF<|reg<|rP 0 34 (vI s0.toNat) ?_
 by_cases hx3 : (s0.toNat : Int) > (0 : Int)
 ·refine bT 1 35 ((s0.toNat : Int) > (0 : Int))<|rP 2 36 vT<|rP 3 37 (.slice Ac2 (n - at_ - 1) (c - at_ - 1))<|rP 4 38 (vI (n - at_ - 1 : Nat)) ?_
  by_cases hx4 : ((n - at_ - 1 : Nat) : Int) > (0 : Int)
  ·refine bT 5 39 (((n - at_ - 1 : Nat) : Int) > (0 : Int))<|rP 6 40 vT<|rP 7 41 vT<|rP 8 42 (.slice Ac2 (n - at_ - 1) (c - at_ - 1)) ?_
   obtain ⟨q2, o2, hq_, _⟩ := hbc2.2 (by omega)
   subst hq_
   refine rq 9 43 (pt q2 (o2 + 0 * 1)) rfl (iS 1 q2 o2 (n - at_ - 1) (c - at_ - 1) 0)<|rq 10 44 _ rfl (ld 5 43 q2 (o2 + 0 * 1) (vB ((r0.getD 0 0).toNat : Nat)) (byt_cell hbc2 0 (by omega))) ?_
   by_cases hx5 : (((r0.getD 0 0).toNat : Nat) : Int) = (0 : Int)
   ·exact eT 11 45 (((r0.getD 0 0).toNat : Nat) : Int) (0 : Int)<|rP 12 46 vT<|rP 13 31 vT<|eN<|cT<|sR<|rP 0 4 (vU 0)<|rP 1 5 (vI 0)<|rP 2 6 (vI 5)<|eN<|tI<|rt (.tuple #[vU 0, vI 0, vI 5]) ⟨0, 0, _, rfl, .inr ⟨by decide, rfl, rfl, (by first | exact readN_big hsr (by omega) | exact readN_zero hsr (by omega) (by omega) (by omega))⟩, rfl⟩
   refine eF 11 45 (((r0.getD 0 0).toNat : Nat) : Int) (0 : Int)<|rP 12 46 vF<|rP 13 31 vF<|eN<|cF<|sR<|rP 0 48 (.slice (some ⟨q2, o2, none⟩) (n - at_ - 1) (c - at_ - 1))<|rP 1 49 (vI (n - at_ - 1 : Nat))<|rP 2 50 (vI s0.toNat) ?_
   by_cases hx6 : ((n - at_ - 1 : Nat) : Int) < (s0.toNat : Int)
   ·exact bT 3 51 (((n - at_ - 1 : Nat) : Int) < (s0.toNat : Int))<|rP 4 47 vT<|eN<|cT<|sR<|rP 0 4 (vU 0)<|rP 1 5 (vI 0)<|rP 2 6 (vI 4)<|eN<|tI<|rt (.tuple #[vU 0, vI 0, vI 4]) ⟨0, 0, _, rfl, .inr ⟨by decide, rfl, rfl, (by first | exact readN_nil (by omega) | exact readN_short hsr (by omega))⟩, rfl⟩
   refine bF 3 51 (((n - at_ - 1 : Nat) : Int) < (s0.toNat : Int))<|rP 4 47 vF<|eN<|cF<|wp_skip<|inN<|nxt<|wp_seq<|sR<|rP 0 52 (.slice (some ⟨q2, o2, none⟩) (n - at_ - 1) (c - at_ - 1))<|rP 1 53 (vI s0.toNat) ?_
   obtain ⟨Ac3, hAc3⟩ : ∃ x_, x_ = Mur.cutA (some ⟨q2, o2, none⟩) (c - at_ - 1) 0 := ⟨_, rfl⟩
   have hbc3 : Byt w Ac3 s0.toNat (r0.take s0.toNat) := by rw [hAc3]; exact byt_to hbc2 s0.toNat (by omega) (by omega)
   refine rq 2 54 (.slice Ac3 s0.toNat (c - at_ - 1)) rfl (by rw [hAc3]; exact run_op_cut_to 22 (.tmp 52) (.tmp 53) rfl 5 Tryz.underlying22 (by kernel_rfl) (some ⟨q2, o2, none⟩) (n - at_ - 1) (c - at_ - 1) s0.toNat (by kernel_rfl) (by kernel_rfl) (by omega) (by omega)) ?_
   obtain ⟨L3, hL3⟩ : ∃ x_, x_ = r0.take s0.toNat := ⟨_, rfl⟩
   have hb3 := hbc3
   rw [← hL3] at hb3
   have hl3 := hb3.1
   refine rP 3 55 (vI s0.toNat)<|rP 4 56 (vI 0)<|eN<|wp_block<|?_
   refine Wk.loop (fun m_ a wr => ∃ (i : Nat), m_ = s0.toNat - i ∧ a = UintW_F1 a.tmps (vI at_) (vU (Mur.beN (L3.take i) : Nat)) (vI s0.toNat) (.slice Ac3 s0.toNat (c - at_ - 1)) (vI s0.toNat) (vI i) ∧ i ≤ s0.toNat ∧ wr = w) (s0.toNat - 0) ?_ ?_
   ·refine ⟨0, rfl, by kernel_rfl, (by omega), rfl⟩
   rintro mm1 aa1 W1 ⟨i, hmm1, hF1, hi, hw⟩
   generalize aa1.tmps = bb1 at hF1
   subst hF1
   subst hw
   by_cases hlt : i < s0.toNat
   ·obtain ⟨q3, o3, hq_, _⟩ := hb3.2 (by omega)
    subst hq_
    have h56 : Mur.beN (L3.take i) < 72057594037927936 := beN_lt56 (by omega)
    have h256 := (L3.getD i 0).toNat_lt
    refine sR<|bT 0 57 ((i : Int) < (s0.toNat : Int))<|eN<|wp_seq<|cT<|wp_skip<|nxt<|wp_seq<|wp_block<|sR<|rq 0 58 (pt q3 (o3 + i * 1)) rfl (iS 1 q3 o3 s0.toNat (c - at_ - 1) i)<|rq 1 59 _ rfl (ld 5 58 q3 (o3 + i * 1) (vB ((L3.getD i 0).toNat : Nat)) (byt_cell hb3 i (by omega)))<|rP 2 10 (vB ((L3.getD i 0).toNat : Nat))<|eN<|reg<|rP 0 60 (vU (Mur.beN (L3.take i) : Nat))<|rq 1 61 (vU ((Mur.beN (L3.take i)) * 256 : Nat)) rfl (shl8_64 23 148 (.tmp 60) (.const (vU 8)) rfl (Mur.beN (L3.take i)) .u64 (by kernel_rfl) (by kernel_rfl) (by omega))<|rP 2 62 (vB ((L3.getD i 0).toNat : Nat))<|rq 3 63 (vU ((L3.getD i 0).toNat : Nat)) rfl (conv_int 5 23 (.tmp 62) rfl (by kernel_rfl) .u64 Tryz.underlying23 .u8 (((L3.getD i 0).toNat : Nat) : Int) (by kernel_rfl) (u64_nat (by omega)))<|rq 4 64 (vU (Mur.beN (L3.take (i + 1)) : Nat)) rfl (add_u64 23 23 (.tmp 61) (.tmp 63) rfl (Mur.beN (L3.take i) * 256) (L3.getD i 0).toNat (Mur.beN (L3.take (i + 1))) (by kernel_rfl) (by kernel_rfl) (beN_more (by omega)) (beN_lt64 (by rw [List.length_take]; omega)))<|rP 5 4 (vU (Mur.beN (L3.take (i + 1)) : Nat))<|rE<|inN<|nxt<|reg<|rI 0 65 ((i : Int) + 1) (((i + 1 : Nat) : Int))<|rP 1 56 (vI (i + 1 : Nat))<|eN<|?_
    refine ⟨_, ?_, i + 1, rfl, by kernel_rfl, (by omega), rfl⟩
    omega
   have hL4 : L3.take i = r0.take s0.toNat := by rw [List.take_of_length_le (by omega), hL3]
   have h64 := beN_lt64 (l := L3.take i) (by rw [List.length_take]; omega)
   refine sR<|bF 0 57 ((i : Int) < (s0.toNat : Int))<|eN<|wp_seq<|cF<|xX<|nxt<|sR<|rP 0 66 (vU (Mur.beN (L3.take i) : Nat))<|rP 1 67 (vI at_)<|rI 2 68 ((at_ : Int) + 1) (((at_ + 1 : Nat) : Int))<|rP 3 69 (vI s0.toNat)<|rI 4 70 (((at_ + 1 : Nat) : Int) + (s0.toNat : Int)) (((at_ + 1 + s0.toNat : Nat) : Int))<|rP 5 4 (vU (Mur.beN (L3.take i) : Nat))<|rP 6 5 (vI (at_ + 1 + s0.toNat : Nat))<|rP 7 6 (vI 0)<|eN<|wp_ret<|?_
   have hok := readN_ok hsr (by omega) (by omega) (by omega)
   rw [← hL4] at hok
   exact rt (.tuple #[vU (Mur.beN (L3.take i) : Nat), vI (at_ + 1 + s0.toNat : Nat), vI 0]) ⟨_, _, _, rfl, .inl ⟨rfl, by omega, ⟨by omega, by omega⟩, hok⟩, rfl⟩
  refine bF 5 39 (((n - at_ - 1 : Nat) : Int) > (0 : Int))<|rP 6 40 vF<|rP 7 41 vF<|rZ 8 42<|rZ 9 43<|rZ 10 44<|rZ 11 45<|rP 12 46 vF<|rP 13 31 vF<|eN<|cF<|sR<|rP 0 48 (.slice Ac2 (n - at_ - 1) (c - at_ - 1))<|rP 1 49 (vI (n - at_ - 1 : Nat))<|rP 2 50 (vI s0.toNat) ?_
  by_cases hx7 : ((n - at_ - 1 : Nat) : Int) < (s0.toNat : Int)
  ·exact bT 3 51 (((n - at_ - 1 : Nat) : Int) < (s0.toNat : Int))<|rP 4 47 vT<|eN<|cT<|sR<|rP 0 4 (vU 0)<|rP 1 5 (vI 0)<|rP 2 6 (vI 4)<|eN<|tI<|rt (.tuple #[vU 0, vI 0, vI 4]) ⟨0, 0, _, rfl, .inr ⟨by decide, rfl, rfl, (by first | exact readN_nil (by omega) | exact readN_short hsr (by omega))⟩, rfl⟩
  refine bF 3 51 (((n - at_ - 1 : Nat) : Int) < (s0.toNat : Int))<|rP 4 47 vF<|eN<|cF<|wp_skip<|inN<|nxt<|wp_seq<|sR<|rP 0 52 (.slice Ac2 (n - at_ - 1) (c - at_ - 1))<|rP 1 53 (vI s0.toNat) ?_
  obtain ⟨Ac4, hAc4⟩ : ∃ x_, x_ = Mur.cutA Ac2 (c - at_ - 1) 0 := ⟨_, rfl⟩
  have hbc4 : Byt w Ac4 s0.toNat (r0.take s0.toNat) := by rw [hAc4]; exact byt_to hbc2 s0.toNat (by omega) (by omega)
  refine rq 2 54 (.slice Ac4 s0.toNat (c - at_ - 1)) rfl (by rw [hAc4]; exact run_op_cut_to 22 (.tmp 52) (.tmp 53) rfl 5 Tryz.underlying22 (by kernel_rfl) Ac2 (n - at_ - 1) (c - at_ - 1) s0.toNat (by kernel_rfl) (by kernel_rfl) (by omega) (by omega)) ?_
  obtain ⟨L3, hL3⟩ : ∃ x_, x_ = r0.take s0.toNat := ⟨_, rfl⟩
  have hb3 := hbc4
  rw [← hL3] at hb3
  have hl3 := hb3.1
  refine rP 3 55 (vI s0.toNat)<|rP 4 56 (vI 0)<|eN<|wp_block<|?_
  refine Wk.loop (fun m_ a wr => ∃ (i : Nat), m_ = s0.toNat - i ∧ a = UintW_F2 a.tmps (vI at_) (vU (Mur.beN (L3.take i) : Nat)) (vI s0.toNat) (.slice Ac4 s0.toNat (c - at_ - 1)) (vI s0.toNat) (vI i) ∧ i ≤ s0.toNat ∧ wr = w) (s0.toNat - 0) ?_ ?_
  ·refine ⟨0, rfl, by kernel_rfl, (by omega), rfl⟩
  rintro mm2 aa2 W2 ⟨i, hmm2, hF2, hi, hw⟩
  generalize aa2.tmps = bb2 at hF2
  subst hF2
  subst hw
  by_cases hlt : i < s0.toNat
  ·obtain ⟨q3, o3, hq_, _⟩ := hb3.2 (by omega)
   subst hq_
   have h56 : Mur.beN (L3.take i) < 72057594037927936 := beN_lt56 (by omega)
   have h256 := (L3.getD i 0).toNat_lt
   refine sR<|bT 0 57 ((i : Int) < (s0.toNat : Int))<|eN<|wp_seq<|cT<|wp_skip<|nxt<|wp_seq<|wp_block<|sR<|rq 0 58 (pt q3 (o3 + i * 1)) rfl (iS 1 q3 o3 s0.toNat (c - at_ - 1) i)<|rq 1 59 _ rfl (ld 5 58 q3 (o3 + i * 1) (vB ((L3.getD i 0).toNat : Nat)) (byt_cell hb3 i (by omega)))<|rP 2 10 (vB ((L3.getD i 0).toNat : Nat))<|eN<|reg<|rP 0 60 (vU (Mur.beN (L3.take i) : Nat))<|rq 1 61 (vU ((Mur.beN (L3.take i)) * 256 : Nat)) rfl (shl8_64 23 148 (.tmp 60) (.const (vU 8)) rfl (Mur.beN (L3.take i)) .u64 (by kernel_rfl) (by kernel_rfl) (by omega))<|rP 2 62 (vB ((L3.getD i 0).toNat : Nat))<|rq 3 63 (vU ((L3.getD i 0).toNat : Nat)) rfl (conv_int 5 23 (.tmp 62) rfl (by kernel_rfl) .u64 Tryz.underlying23 .u8 (((L3.getD i 0).toNat : Nat) : Int) (by kernel_rfl) (u64_nat (by omega)))<|rq 4 64 (vU (Mur.beN (L3.take (i + 1)) : Nat)) rfl (add_u64 23 23 (.tmp 61) (.tmp 63) rfl (Mur.beN (L3.take i) * 256) (L3.getD i 0).toNat (Mur.beN (L3.take (i + 1))) (by kernel_rfl) (by kernel_rfl) (beN_more (by omega)) (beN_lt64 (by rw [List.length_take]; omega)))<|rP 5 4 (vU (Mur.beN (L3.take (i + 1)) : Nat))<|rE<|inN<|nxt<|reg<|rI 0 65 ((i : Int) + 1) (((i + 1 : Nat) : Int))<|rP 1 56 (vI (i + 1 : Nat))<|eN<|?_
   refine ⟨_, ?_, i + 1, rfl, by kernel_rfl, (by omega), rfl⟩
   omega
  have hL4 : L3.take i = r0.take s0.toNat := by rw [List.take_of_length_le (by omega), hL3]
  have h64 := beN_lt64 (l := L3.take i) (by rw [List.length_take]; omega)
  refine sR<|bF 0 57 ((i : Int) < (s0.toNat : Int))<|eN<|wp_seq<|cF<|xX<|nxt<|sR<|rP 0 66 (vU (Mur.beN (L3.take i) : Nat))<|rP 1 67 (vI at_)<|rI 2 68 ((at_ : Int) + 1) (((at_ + 1 : Nat) : Int))<|rP 3 69 (vI s0.toNat)<|rI 4 70 (((at_ + 1 : Nat) : Int) + (s0.toNat : Int)) (((at_ + 1 + s0.toNat : Nat) : Int))<|rP 5 4 (vU (Mur.beN (L3.take i) : Nat))<|rP 6 5 (vI (at_ + 1 + s0.toNat : Nat))<|rP 7 6 (vI 0)<|eN<|wp_ret<|?_
  have hok := readN_ok hsr (by omega) (by omega) (by omega)
  rw [← hL4] at hok
  exact rt (.tuple #[vU (Mur.beN (L3.take i) : Nat), vI (at_ + 1 + s0.toNat : Nat), vI 0]) ⟨_, _, _, rfl, .inl ⟨rfl, by omega, ⟨by omega, by omega⟩, hok⟩, rfl⟩
 refine bF 1 35 ((s0.toNat : Int) > (0 : Int))<|rP 2 36 vF<|rZ 3 37<|rZ 4 38<|rZ 5 39<|rP 6 40 vF<|rP 7 41 vF<|rZ 8 42<|rZ 9 43<|rZ 10 44<|rZ 11 45<|rP 12 46 vF<|rP 13 31 vF<|eN<|cF<|sR<|rP 0 48 (.slice Ac2 (n - at_ - 1) (c - at_ - 1))<|rP 1 49 (vI (n - at_ - 1 : Nat))<|rP 2 50 (vI s0.toNat) ?_
 by_cases hx8 : ((n - at_ - 1 : Nat) : Int) < (s0.toNat : Int)
 ·exact bT 3 51 (((n - at_ - 1 : Nat) : Int) < (s0.toNat : Int))<|rP 4 47 vT<|eN<|cT<|sR<|rP 0 4 (vU 0)<|rP 1 5 (vI 0)<|rP 2 6 (vI 4)<|eN<|tI<|rt (.tuple #[vU 0, vI 0, vI 4]) ⟨0, 0, _, rfl, .inr ⟨by decide, rfl, rfl, (by first | exact readN_nil (by omega) | exact readN_short hsr (by omega))⟩, rfl⟩
 refine bF 3 51 (((n - at_ - 1 : Nat) : Int) < (s0.toNat : Int))<|rP 4 47 vF<|eN<|cF<|wp_skip<|inN<|nxt<|wp_seq<|sR<|rP 0 52 (.slice Ac2 (n - at_ - 1) (c - at_ - 1))<|rP 1 53 (vI s0.toNat) ?_
 obtain ⟨Ac5, hAc5⟩ : ∃ x_, x_ = Mur.cutA Ac2 (c - at_ - 1) 0 := ⟨_, rfl⟩
 have hbc5 : Byt w Ac5 s0.toNat (r0.take s0.toNat) := by rw [hAc5]; exact byt_to hbc2 s0.toNat (by omega) (by omega)
 refine rq 2 54 (.slice Ac5 s0.toNat (c - at_ - 1)) rfl (by rw [hAc5]; exact run_op_cut_to 22 (.tmp 52) (.tmp 53) rfl 5 Tryz.underlying22 (by kernel_rfl) Ac2 (n - at_ - 1) (c - at_ - 1) s0.toNat (by kernel_rfl) (by kernel_rfl) (by omega) (by omega)) ?_
 obtain ⟨L3, hL3⟩ : ∃ x_, x_ = r0.take s0.toNat := ⟨_, rfl⟩
 have hb3 := hbc5
 rw [← hL3] at hb3
 have hl3 := hb3.1
 refine rP 3 55 (vI s0.toNat)<|rP 4 56 (vI 0)<|eN<|wp_block<|?_
 refine Wk.loop (fun m_ a wr => ∃ (i : Nat), m_ = s0.toNat - i ∧ a = UintW_F3 a.tmps (vI at_) (vU (Mur.beN (L3.take i) : Nat)) (vI s0.toNat) (.slice Ac5 s0.toNat (c - at_ - 1)) (vI s0.toNat) (vI i) ∧ i ≤ s0.toNat ∧ wr = w) (s0.toNat - 0) ?_ ?_
 ·refine ⟨0, rfl, by kernel_rfl, (by omega), rfl⟩
 rintro mm3 aa3 W3 ⟨i, hmm3, hF3, hi, hw⟩
 generalize aa3.tmps = bb3 at hF3
 subst hF3
 subst hw
 by_cases hlt : i < s0.toNat
 ·obtain ⟨q3, o3, hq_, _⟩ := hb3.2 (by omega)
  subst hq_
  have h56 : Mur.beN (L3.take i) < 72057594037927936 := beN_lt56 (by omega)
  have h256 := (L3.getD i 0).toNat_lt
  refine sR<|bT 0 57 ((i : Int) < (s0.toNat : Int))<|eN<|wp_seq<|cT<|wp_skip<|nxt<|wp_seq<|wp_block<|sR<|rq 0 58 (pt q3 (o3 + i * 1)) rfl (iS 1 q3 o3 s0.toNat (c - at_ - 1) i)<|rq 1 59 _ rfl (ld 5 58 q3 (o3 + i * 1) (vB ((L3.getD i 0).toNat : Nat)) (byt_cell hb3 i (by omega)))<|rP 2 10 (vB ((L3.getD i 0).toNat : Nat))<|eN<|reg<|rP 0 60 (vU (Mur.beN (L3.take i) : Nat))<|rq 1 61 (vU ((Mur.beN (L3.take i)) * 256 : Nat)) rfl (shl8_64 23 148 (.tmp 60) (.const (vU 8)) rfl (Mur.beN (L3.take i)) .u64 (by kernel_rfl) (by kernel_rfl) (by omega))<|rP 2 62 (vB ((L3.getD i 0).toNat : Nat))<|rq 3 63 (vU ((L3.getD i 0).toNat : Nat)) rfl (conv_int 5 23 (.tmp 62) rfl (by kernel_rfl) .u64 Tryz.underlying23 .u8 (((L3.getD i 0).toNat : Nat) : Int) (by kernel_rfl) (u64_nat (by omega)))<|rq 4 64 (vU (Mur.beN (L3.take (i + 1)) : Nat)) rfl (add_u64 23 23 (.tmp 61) (.tmp 63) rfl (Mur.beN (L3.take i) * 256) (L3.getD i 0).toNat (Mur.beN (L3.take (i + 1))) (by kernel_rfl) (by kernel_rfl) (beN_more (by omega)) (beN_lt64 (by rw [List.length_take]; omega)))<|rP 5 4 (vU (Mur.beN (L3.take (i + 1)) : Nat))<|rE<|inN<|nxt<|reg<|rI 0 65 ((i : Int) + 1) (((i + 1 : Nat) : Int))<|rP 1 56 (vI (i + 1 : Nat))<|eN<|?_
  refine ⟨_, ?_, i + 1, rfl, by kernel_rfl, (by omega), rfl⟩
  omega
 have hL4 : L3.take i = r0.take s0.toNat := by rw [List.take_of_length_le (by omega), hL3]
 have h64 := beN_lt64 (l := L3.take i) (by rw [List.length_take]; omega)
 refine sR<|bF 0 57 ((i : Int) < (s0.toNat : Int))<|eN<|wp_seq<|cF<|xX<|nxt<|sR<|rP 0 66 (vU (Mur.beN (L3.take i) : Nat))<|rP 1 67 (vI at_)<|rI 2 68 ((at_ : Int) + 1) (((at_ + 1 : Nat) : Int))<|rP 3 69 (vI s0.toNat)<|rI 4 70 (((at_ + 1 : Nat) : Int) + (s0.toNat : Int)) (((at_ + 1 + s0.toNat : Nat) : Int))<|rP 5 4 (vU (Mur.beN (L3.take i) : Nat))<|rP 6 5 (vI (at_ + 1 + s0.toNat : Nat))<|rP 7 6 (vI 0)<|eN<|wp_ret<|?_
 have hok := readN_ok hsr (by omega) (by omega) (by omega)
 rw [← hL4] at hok
 exact rt (.tuple #[vU (Mur.beN (L3.take i) : Nat), vI (at_ + 1 + s0.toNat : Nat), vI 0]) ⟨_, _, _, rfl, .inl ⟨rfl, by omega, ⟨by omega, by omega⟩, hok⟩, rfl⟩
end Go.Proofs.YtgbadghjnpbiaaaGreatDoor
namespace Go.Proofs.YtgbadghjnpbiaaaGreatDoor
open Go.RowKit Wk
open Mur (b8s Byt Own8 Seg Segs flat cutA attC Att SlA OwnA rowA msgC formN formN_len own8_low u64n conv_u64n u64n_lt byt_chgp)
set_option maxRecDepth 100000
set_option maxHeartbeats 4000000
theorem Wuint1_any (g base : Nat) (A : Option Addr) (n c : Nat) (b : List UInt8) (q N1 : Nat) (w : World) (hg : w.heap[g]? = some (.cells #[.slice A n c] 79 (0, 0))) (hbs : g < base ∧ base ≤ w.heap.size) (ho : Own8 w base 5 A n c b) (hn : n ≤ 5000000) (hq : w.heap[q]? = some (.cells #[vU N1] 23 (0, 0))) (hqg : q ≠ g) (hN1 : N1 < 18446744073709551616) : Calls Tryz.prog 42 #[pt g 0, .slice (some ⟨q, 0, none⟩) 1 1] w fun e w' => ∃ A1 n1 c1, e = .returned (.tuple #[]) ∧ w'.heap[g]? = some (.cells #[.slice A1 n1 c1] 79 (0, 0)) ∧ Own8 w' w.heap.size 5 A1 n1 c1 (b ++ formN N1) ∧ n1 ≤ n + 9 ∧ Chg [g] w w' := by
 have hql_ := (Array.getElem?_eq_some_iff.1 hq).1
 have hqg_ := hqg
 have hgl_ := (Array.getElem?_eq_some_iff.1 hg).1
 have hon_ := ho.nc
 have hoc_ := ho.cm
 have hol_ := ho.byt.1
 have hn_ := hn
 have hbs_ := hbs
 have holt_ := ho.lt
 refine calls_of_wp Tryz.func42 rfl ?_
 refine sR<|rP 0 6 (.slice (some ⟨q, 0, none⟩) 1 1)<|rP 1 7 (vI 1)<|rP 2 8 (vI 0)<|eN<|wp_block<|?_
 refine Wk.loopN 2 ?_
 refine Wk.rdS<|sR<|?_
 refine bT 0 9 ((0 : Int) < (1 : Int))<|eN<|wp_seq<|cT<|wp_skip<|nxt<|wp_seq<|wp_block<|sR<|rq 0 10 (pt q 0) rfl (iS 1 q 0 1 1 0)<|rL 1 11 0 (vU N1) hq<|rP 2 5 (vU N1)<|eN<|reg<|rP 0 12 (pt g 0)<|rP 1 13 (pt g 0)<|rP 2 14 (pt g 0)<|rP 3 15 (pt g 0)<|rL 4 16 0 (.slice A n c) hg<|rP 5 17 (vU N1)<|rK 6 18 (AppendUint_any b A n c N1 w ho.byt ⟨by omega, by omega⟩ ho.nil (by omega) hN1) ?_
 rintro _ W1 ⟨AA1, nn1, cc1, rfl, ow1, ch1⟩
 have zz1 := ch1.size
 have hfl1 := formN_len hN1
 have hq1 := ow1.nc
 have hq2 := ow1.cm
 have hq3 := ow1.byt.1
 have hqx1 : (b ++ formN N1).length = (b).length + (formN N1).length := List.length_append
 refine rP 7 19 (pt g 0)<|rP 8 20 (pt g 0)<|rU 9 rfl (sW 0 (.slice AA1 nn1 cc1) (qT ch1 hg)) fun W2 hb1 ch2 _ => ?_
 replace hb1 : W2.heap[g]? = some (.cells #[.slice AA1 nn1 cc1] 79 (0, 0)) := hb1
 have zz2 := ch2.size
 exact rE<|inN<|nxt<|reg<|rI 0 21 (0 + 1) (1)<|rP 1 8 (vI 1)<|eN<|Wk.rdS<|sR<|bF 0 9 ((1 : Int) < (1 : Int))<|eN<|wp_seq<|cF<|xX<|Wk.retN (.tuple #[]) rfl (by kernel_rfl) ⟨AA1, nn1, cc1, rfl, hb1, own8_low (oB ow1 ch2 ow1.lt) (by omega), by omega, (kC (zA ch1 : Chg [g] (w) W1) ch2)⟩
theorem Wuint2_any (g base : Nat) (A : Option Addr) (n c : Nat) (b : List UInt8) (q N1 N2 : Nat) (w : World) (hg : w.heap[g]? = some (.cells #[.slice A n c] 79 (0, 0))) (hbs : g < base ∧ base ≤ w.heap.size) (ho : Own8 w base 5 A n c b) (hn : n ≤ 5000000) (hq : w.heap[q]? = some (.cells #[vU N1, vU N2] 23 (0, 0))) (hqg : q ≠ g) (hN1 : N1 < 18446744073709551616) (hN2 : N2 < 18446744073709551616) : Calls Tryz.prog 42 #[pt g 0, .slice (some ⟨q, 0, none⟩) 2 2] w fun e w' => ∃ A1 n1 c1, e = .returned (.tuple #[]) ∧ w'.heap[g]? = some (.cells #[.slice A1 n1 c1] 79 (0, 0)) ∧ Own8 w' w.heap.size 5 A1 n1 c1 (b ++ formN N1 ++ formN N2) ∧ n1 ≤ n + 18 ∧ Chg [g] w w' := by
 have hql_ := (Array.getElem?_eq_some_iff.1 hq).1
 have hqg_ := hqg
 have hgl_ := (Array.getElem?_eq_some_iff.1 hg).1
 have hon_ := ho.nc
 have hoc_ := ho.cm
 have hol_ := ho.byt.1
 have hn_ := hn
 have hbs_ := hbs
 have holt_ := ho.lt
 refine calls_of_wp Tryz.func42 rfl ?_
 refine sR<|rP 0 6 (.slice (some ⟨q, 0, none⟩) 2 2)<|rP 1 7 (vI 2)<|rP 2 8 (vI 0)<|eN<|wp_block<|?_
 refine Wk.loopN 3 ?_
 refine Wk.rdS<|sR<|?_
 refine bT 0 9 ((0 : Int) < (2 : Int))<|eN<|wp_seq<|cT<|wp_skip<|nxt<|wp_seq<|wp_block<|sR<|rq 0 10 (pt q 0) rfl (iS 1 q 0 2 2 0)<|rL 1 11 0 (vU N1) hq<|rP 2 5 (vU N1)<|eN<|reg<|rP 0 12 (pt g 0)<|rP 1 13 (pt g 0)<|rP 2 14 (pt g 0)<|rP 3 15 (pt g 0)<|rL 4 16 0 (.slice A n c) hg<|rP 5 17 (vU N1)<|rK 6 18 (AppendUint_any b A n c N1 w ho.byt ⟨by omega, by omega⟩ ho.nil (by omega) hN1) ?_
 rintro _ W1 ⟨AA1, nn1, cc1, rfl, ow1, ch1⟩
 have zz1 := ch1.size
 have hfl1 := formN_len hN1
 have hq1 := ow1.nc
 have hq2 := ow1.cm
 have hq3 := ow1.byt.1
 have hqx1 : (b ++ formN N1).length = (b).length + (formN N1).length := List.length_append
 refine rP 7 19 (pt g 0)<|rP 8 20 (pt g 0)<|rU 9 rfl (sW 0 (.slice AA1 nn1 cc1) (qT ch1 hg)) fun W2 hb1 ch2 _ => ?_
 replace hb1 : W2.heap[g]? = some (.cells #[.slice AA1 nn1 cc1] 79 (0, 0)) := hb1
 have zz2 := ch2.size
 refine rE<|inN<|nxt<|reg<|rI 0 21 (0 + 1) (1)<|rP 1 8 (vI 1)<|eN<|Wk.rdS<|sR<|bT 0 9 ((1 : Int) < (2 : Int))<|eN<|wp_seq<|cT<|wp_skip<|nxt<|wp_seq<|wp_block<|sR<|rq 0 10 (pt q 1) rfl (iS 1 q 0 2 2 1)<|rL 1 11 1 (vU N2) (qO ch2 (qT ch1 hq))<|rP 2 5 (vU N2)<|eN<|reg<|rP 0 12 (pt g 0)<|rP 1 13 (pt g 0)<|rP 2 14 (pt g 0)<|rP 3 15 (pt g 0)<|rL 4 16 0 (.slice AA1 nn1 cc1) hb1<|rP 5 17 (vU N2) ?_
 have ow2 := oB ow1 ch2 ow1.lt
 refine rK 6 18 (AppendUint_any (b ++ formN N1) AA1 nn1 cc1 N2 W2 ow2.byt ⟨by omega, by omega⟩ ow2.nil (by omega) hN2) ?_
 rintro _ W3 ⟨AA2, nn2, cc2, rfl, ow3, ch3⟩
 have zz3 := ch3.size
 have hfl2 := formN_len hN2
 have hq4 := ow3.nc
 have hq5 := ow3.cm
 have hq6 := ow3.byt.1
 have hqx2 : (b ++ formN N1 ++ formN N2).length = (b ++ formN N1).length + (formN N2).length := List.length_append
 refine rP 7 19 (pt g 0)<|rP 8 20 (pt g 0)<|rU 9 rfl (sW 0 (.slice AA2 nn2 cc2) (qT ch3 hb1)) fun W4 hb2 ch4 _ => ?_
 replace hb2 : W4.heap[g]? = some (.cells #[.slice AA2 nn2 cc2] 79 (0, 0)) := hb2
 have zz4 := ch4.size
 exact rE<|inN<|nxt<|reg<|rI 0 21 (1 + 1) (2)<|rP 1 8 (vI 2)<|eN<|Wk.rdS<|sR<|bF 0 9 ((2 : Int) < (2 : Int))<|eN<|wp_seq<|cF<|xX<|Wk.retN (.tuple #[]) rfl (by kernel_rfl) ⟨AA2, nn2, cc2, rfl, hb2, own8_low (oB ow3 ch4 ow3.lt) (by omega), by omega, (kC (kA (kC (zA ch1 : Chg [g] (w) W1) ch2) ch3) ch4)⟩
theorem Wuint3_any (g base : Nat) (A : Option Addr) (n c : Nat) (b : List UInt8) (q N1 N2 N3 : Nat) (w : World) (hg : w.heap[g]? = some (.cells #[.slice A n c] 79 (0, 0))) (hbs : g < base ∧ base ≤ w.heap.size) (ho : Own8 w base 5 A n c b) (hn : n ≤ 5000000) (hq : w.heap[q]? = some (.cells #[vU N1, vU N2, vU N3] 23 (0, 0))) (hqg : q ≠ g) (hN1 : N1 < 18446744073709551616) (hN2 : N2 < 18446744073709551616) (hN3 : N3 < 18446744073709551616) : Calls Tryz.prog 42 #[pt g 0, .slice (some ⟨q, 0, none⟩) 3 3] w fun e w' => ∃ A1 n1 c1, e = .returned (.tuple #[]) ∧ w'.heap[g]? = some (.cells #[.slice A1 n1 c1] 79 (0, 0)) ∧ Own8 w' w.heap.size 5 A1 n1 c1 (b ++ formN N1 ++ formN N2 ++ formN N3) ∧ n1 ≤ n + 27 ∧ Chg [g] w w' := by
 have hql_ := (Array.getElem?_eq_some_iff.1 hq).1
 have hqg_ := hqg
 have hgl_ := (Array.getElem?_eq_some_iff.1 hg).1
 have hon_ := ho.nc
 have hoc_ := ho.cm
 have hol_ := ho.byt.1
 have hn_ := hn
 have hbs_ := hbs
 have holt_ := ho.lt
 refine calls_of_wp Tryz.func42 rfl ?_
 refine sR<|rP 0 6 (.slice (some ⟨q, 0, none⟩) 3 3)<|rP 1 7 (vI 3)<|rP 2 8 (vI 0)<|eN<|wp_block<|?_
 refine Wk.loopN 4 ?_
 refine Wk.rdS<|sR<|?_
 refine bT 0 9 ((0 : Int) < (3 : Int))<|eN<|wp_seq<|cT<|wp_skip<|nxt<|wp_seq<|wp_block<|sR<|rq 0 10 (pt q 0) rfl (iS 1 q 0 3 3 0)<|rL 1 11 0 (vU N1) hq<|rP 2 5 (vU N1)<|eN<|reg<|rP 0 12 (pt g 0)<|rP 1 13 (pt g 0)<|rP 2 14 (pt g 0)<|rP 3 15 (pt g 0)<|rL 4 16 0 (.slice A n c) hg<|rP 5 17 (vU N1)<|rK 6 18 (AppendUint_any b A n c N1 w ho.byt ⟨by omega, by omega⟩ ho.nil (by omega) hN1) ?_
 rintro _ W1 ⟨AA1, nn1, cc1, rfl, ow1, ch1⟩
 have zz1 := ch1.size
 have hfl1 := formN_len hN1
 have hq1 := ow1.nc
 have hq2 := ow1.cm
 have hq3 := ow1.byt.1
 have hqx1 : (b ++ formN N1).length = (b).length + (formN N1).length := List.length_append
 refine rP 7 19 (pt g 0)<|rP 8 20 (pt g 0)<|rU 9 rfl (sW 0 (.slice AA1 nn1 cc1) (qT ch1 hg)) fun W2 hb1 ch2 _ => ?_
 replace hb1 : W2.heap[g]? = some (.cells #[.slice AA1 nn1 cc1] 79 (0, 0)) := hb1
 have zz2 := ch2.size
 refine rE<|inN<|nxt<|reg<|rI 0 21 (0 + 1) (1)<|rP 1 8 (vI 1)<|eN<|Wk.rdS<|sR<|bT 0 9 ((1 : Int) < (3 : Int))<|eN<|wp_seq<|cT<|wp_skip<|nxt<|wp_seq<|wp_block<|sR<|rq 0 10 (pt q 1) rfl (iS 1 q 0 3 3 1)<|rL 1 11 1 (vU N2) (qO ch2 (qT ch1 hq))<|rP 2 5 (vU N2)<|eN<|reg<|rP 0 12 (pt g 0)<|rP 1 13 (pt g 0)<|rP 2 14 (pt g 0)<|rP 3 15 (pt g 0)<|rL 4 16 0 (.slice AA1 nn1 cc1) hb1<|rP 5 17 (vU N2) ?_
 have ow2 := oB ow1 ch2 ow1.lt
 refine rK 6 18 (AppendUint_any (b ++ formN N1) AA1 nn1 cc1 N2 W2 ow2.byt ⟨by omega, by omega⟩ ow2.nil (by omega) hN2) ?_
 rintro _ W3 ⟨AA2, nn2, cc2, rfl, ow3, ch3⟩
 have zz3 := ch3.size
 have hfl2 := formN_len hN2
 have hq4 := ow3.nc
 have hq5 := ow3.cm
 have hq6 := ow3.byt.1
 have hqx2 : (b ++ formN N1 ++ formN N2).length = (b ++ formN N1).length + (formN N2).length := List.length_append
 refine rP 7 19 (pt g 0)<|rP 8 20 (pt g 0)<|rU 9 rfl (sW 0 (.slice AA2 nn2 cc2) (qT ch3 hb1)) fun W4 hb2 ch4 _ => ?_
 replace hb2 : W4.heap[g]? = some (.cells #[.slice AA2 nn2 cc2] 79 (0, 0)) := hb2
 have zz4 := ch4.size
 refine rE<|inN<|nxt<|reg<|rI 0 21 (1 + 1) (2)<|rP 1 8 (vI 2)<|eN<|Wk.rdS<|sR<|bT 0 9 ((2 : Int) < (3 : Int))<|eN<|wp_seq<|cT<|wp_skip<|nxt<|wp_seq<|wp_block<|sR<|rq 0 10 (pt q 2) rfl (iS 1 q 0 3 3 2)<|rL 1 11 2 (vU N3) (qO ch4 (qT ch3 (qO ch2 (qT ch1 hq))))<|rP 2 5 (vU N3)<|eN<|reg<|rP 0 12 (pt g 0)<|rP 1 13 (pt g 0)<|rP 2 14 (pt g 0)<|rP 3 15 (pt g 0)<|rL 4 16 0 (.slice AA2 nn2 cc2) hb2<|rP 5 17 (vU N3) ?_
 have ow4 := oB ow3 ch4 ow3.lt
 refine rK 6 18 (AppendUint_any (b ++ formN N1 ++ formN N2) AA2 nn2 cc2 N3 W4 ow4.byt ⟨by omega, by omega⟩ ow4.nil (by omega) hN3) ?_
 rintro _ W5 ⟨AA3, nn3, cc3, rfl, ow5, ch5⟩
 have zz5 := ch5.size
 have hfl3 := formN_len hN3
 have hq7 := ow5.nc
 have hq8 := ow5.cm
 have hq9 := ow5.byt.1
 have hqx3 : (b ++ formN N1 ++ formN N2 ++ formN N3).length = (b ++ formN N1 ++ formN N2).length + (formN N3).length := List.length_append
 refine rP 7 19 (pt g 0)<|rP 8 20 (pt g 0)<|rU 9 rfl (sW 0 (.slice AA3 nn3 cc3) (qT ch5 hb2)) fun W6 hb3 ch6 _ => ?_
 replace hb3 : W6.heap[g]? = some (.cells #[.slice AA3 nn3 cc3] 79 (0, 0)) := hb3
 have zz6 := ch6.size
 exact rE<|inN<|nxt<|reg<|rI 0 21 (2 + 1) (3)<|rP 1 8 (vI 3)<|eN<|Wk.rdS<|sR<|bF 0 9 ((3 : Int) < (3 : Int))<|eN<|wp_seq<|cF<|xX<|Wk.retN (.tuple #[]) rfl (by kernel_rfl) ⟨AA3, nn3, cc3, rfl, hb3, own8_low (oB ow5 ch6 ow5.lt) (by omega), by omega, (kC (kA (kC (kA (kC (zA ch1 : Chg [g] (w) W1) ch2) ch3) ch4) ch5) ch6)⟩
theorem Wint1_any (g base : Nat) (A : Option Addr) (n c : Nat) (b : List UInt8) (q : Nat) (i1 : Int) (w : World) (hg : w.heap[g]? = some (.cells #[.slice A n c] 79 (0, 0))) (hbs : g < base ∧ base ≤ w.heap.size) (ho : Own8 w base 5 A n c b) (hn : n ≤ 4000000) (hq : w.heap[q]? = some (.cells #[vI i1] 3 (0, 0))) (hqg : q ≠ g) : Calls Tryz.prog 41 #[pt g 0, .slice (some ⟨q, 0, none⟩) 1 1] w fun e w' => ∃ A1 n1 c1, e = .returned (.tuple #[]) ∧ w'.heap[g]? = some (.cells #[.slice A1 n1 c1] 79 (0, 0)) ∧ Own8 w' w.heap.size 5 A1 n1 c1 (b ++ formN (u64n i1)) ∧ n1 ≤ n + 9 ∧ Chg [g] w w' := by
 have hql_ := (Array.getElem?_eq_some_iff.1 hq).1
 have hqg_ := hqg
 have hgl_ := (Array.getElem?_eq_some_iff.1 hg).1
 have hon_ := ho.nc
 have hoc_ := ho.cm
 have hol_ := ho.byt.1
 have hn_ := hn
 have hbs_ := hbs
 have holt_ := ho.lt
 refine calls_of_wp Tryz.func41 rfl ?_
 refine sR<|rP 0 6 (.slice (some ⟨q, 0, none⟩) 1 1)<|rP 1 7 (vI 1)<|rP 2 8 (vI 0)<|eN<|wp_block<|?_
 refine Wk.loopN 2 ?_
 refine Wk.rdS<|sR<|?_
 refine bT 0 9 ((0 : Int) < (1 : Int))<|eN<|wp_seq<|cT<|wp_skip<|nxt<|wp_seq<|wp_block<|sR<|rq 0 10 (pt q 0) rfl (iS 1 q 0 1 1 0)<|rL 1 11 0 (vI i1) hq<|rP 2 5 (vI i1)<|eN<|reg<|rP 0 12 (pt g 0)<|rP 1 13 (vI i1)<|rq 2 14 (vU (u64n i1 : Nat)) rfl (conv_u64n 3 23 (.tmp 13) rfl (by kernel_rfl) Tryz.underlying23 .i64 i1 (by kernel_rfl))<|nS 3 15 1 #[vU (u64n i1 : Nat)] 23 fun W1 hb1 ch1 sz1 => rK 4 16 (Wuint1_any g base A n c b w.heap.size (u64n i1) W1 (qT ch1 hg) ⟨by omega, by omega⟩ (oA ho ch1) (by omega) hb1 (by omega) (u64n_lt _)) ?_
 rintro _ W2 ⟨AA1, nn1, cc1, rfl, hgw1, ow2, hle1, ch2⟩
 have zz2 := ch2.size
 have hq1 := ow2.nc
 have hq2 := ow2.cm
 have hq3 := ow2.byt.1
 exact rE<|inN<|nxt<|reg<|rI 0 17 (0 + 1) (1)<|rP 1 8 (vI 1)<|eN<|Wk.rdS<|sR<|bF 0 9 ((1 : Int) < (1 : Int))<|eN<|wp_seq<|cF<|xX<|Wk.retN (.tuple #[]) rfl (by kernel_rfl) ⟨AA1, nn1, cc1, rfl, hgw1, own8_low ow2 (by omega), by omega, (kC (zA ch1 : Chg [g] (w) W1) ch2)⟩
theorem Wint3_any (g base : Nat) (A : Option Addr) (n c : Nat) (b : List UInt8) (q : Nat) (i1 i2 i3 : Int) (w : World) (hg : w.heap[g]? = some (.cells #[.slice A n c] 79 (0, 0))) (hbs : g < base ∧ base ≤ w.heap.size) (ho : Own8 w base 5 A n c b) (hn : n ≤ 4000000) (hq : w.heap[q]? = some (.cells #[vI i1, vI i2, vI i3] 3 (0, 0))) (hqg : q ≠ g) : Calls Tryz.prog 41 #[pt g 0, .slice (some ⟨q, 0, none⟩) 3 3] w fun e w' => ∃ A1 n1 c1, e = .returned (.tuple #[]) ∧ w'.heap[g]? = some (.cells #[.slice A1 n1 c1] 79 (0, 0)) ∧ Own8 w' w.heap.size 5 A1 n1 c1 (b ++ formN (u64n i1) ++ formN (u64n i2) ++ formN (u64n i3)) ∧ n1 ≤ n + 27 ∧ Chg [g] w w' := by
 have hql_ := (Array.getElem?_eq_some_iff.1 hq).1
 have hqg_ := hqg
 have hgl_ := (Array.getElem?_eq_some_iff.1 hg).1
 have hon_ := ho.nc
 have hoc_ := ho.cm
 have hol_ := ho.byt.1
 have hn_ := hn
 have hbs_ := hbs
 have holt_ := ho.lt
 refine calls_of_wp Tryz.func41 rfl ?_
 refine sR<|rP 0 6 (.slice (some ⟨q, 0, none⟩) 3 3)<|rP 1 7 (vI 3)<|rP 2 8 (vI 0)<|eN<|wp_block<|?_
 refine Wk.loopN 4 ?_
 refine Wk.rdS<|sR<|?_
 refine bT 0 9 ((0 : Int) < (3 : Int))<|eN<|wp_seq<|cT<|wp_skip<|nxt<|wp_seq<|wp_block<|sR<|rq 0 10 (pt q 0) rfl (iS 1 q 0 3 3 0)<|rL 1 11 0 (vI i1) hq<|rP 2 5 (vI i1)<|eN<|reg<|rP 0 12 (pt g 0)<|rP 1 13 (vI i1)<|rq 2 14 (vU (u64n i1 : Nat)) rfl (conv_u64n 3 23 (.tmp 13) rfl (by kernel_rfl) Tryz.underlying23 .i64 i1 (by kernel_rfl))<|nS 3 15 1 #[vU (u64n i1 : Nat)] 23 fun W1 hb1 ch1 sz1 => rK 4 16 (Wuint1_any g base A n c b w.heap.size (u64n i1) W1 (qT ch1 hg) ⟨by omega, by omega⟩ (oA ho ch1) (by omega) hb1 (by omega) (u64n_lt _)) ?_
 rintro _ W2 ⟨AA1, nn1, cc1, rfl, hgw1, ow2, hle1, ch2⟩
 have zz2 := ch2.size
 have hq1 := ow2.nc
 have hq2 := ow2.cm
 have hq3 := ow2.byt.1
 refine rE<|inN<|nxt<|reg<|rI 0 17 (0 + 1) (1)<|rP 1 8 (vI 1)<|eN<|Wk.rdS<|sR<|bT 0 9 ((1 : Int) < (3 : Int))<|eN<|wp_seq<|cT<|wp_skip<|nxt<|wp_seq<|wp_block<|sR<|rq 0 10 (pt q 1) rfl (iS 1 q 0 3 3 1)<|rL 1 11 1 (vI i2) (qO ch2 (qT ch1 hq))<|rP 2 5 (vI i2)<|eN<|reg<|rP 0 12 (pt g 0)<|rP 1 13 (vI i2)<|rq 2 14 (vU (u64n i2 : Nat)) rfl (conv_u64n 3 23 (.tmp 13) rfl (by kernel_rfl) Tryz.underlying23 .i64 i2 (by kernel_rfl))<|nS 3 15 1 #[vU (u64n i2 : Nat)] 23 fun W3 hb2 ch3 sz2 => rK 4 16 (Wuint1_any g W1.heap.size AA1 nn1 cc1 (b ++ formN (u64n i1)) W2.heap.size (u64n i2) W3 (qT ch3 hgw1) ⟨by omega, by omega⟩ (oA ow2 ch3) (by omega) hb2 (by omega) (u64n_lt _)) ?_
 rintro _ W4 ⟨AA2, nn2, cc2, rfl, hgw2, ow4, hle2, ch4⟩
 have zz4 := ch4.size
 have hq4 := ow4.nc
 have hq5 := ow4.cm
 have hq6 := ow4.byt.1
 refine rE<|inN<|nxt<|reg<|rI 0 17 (1 + 1) (2)<|rP 1 8 (vI 2)<|eN<|Wk.rdS<|sR<|bT 0 9 ((2 : Int) < (3 : Int))<|eN<|wp_seq<|cT<|wp_skip<|nxt<|wp_seq<|wp_block<|sR<|rq 0 10 (pt q 2) rfl (iS 1 q 0 3 3 2)<|rL 1 11 2 (vI i3) (qO ch4 (qT ch3 (qO ch2 (qT ch1 hq))))<|rP 2 5 (vI i3)<|eN<|reg<|rP 0 12 (pt g 0)<|rP 1 13 (vI i3)<|rq 2 14 (vU (u64n i3 : Nat)) rfl (conv_u64n 3 23 (.tmp 13) rfl (by kernel_rfl) Tryz.underlying23 .i64 i3 (by kernel_rfl))<|nS 3 15 1 #[vU (u64n i3 : Nat)] 23 fun W5 hb3 ch5 sz3 => rK 4 16 (Wuint1_any g W3.heap.size AA2 nn2 cc2 (b ++ formN (u64n i1) ++ formN (u64n i2)) W4.heap.size (u64n i3) W5 (qT ch5 hgw2) ⟨by omega, by omega⟩ (oA ow4 ch5) (by omega) hb3 (by omega) (u64n_lt _)) ?_
 rintro _ W6 ⟨AA3, nn3, cc3, rfl, hgw3, ow6, hle3, ch6⟩
 have zz6 := ch6.size
 have hq7 := ow6.nc
 have hq8 := ow6.cm
 have hq9 := ow6.byt.1
 exact rE<|inN<|nxt<|reg<|rI 0 17 (2 + 1) (3)<|rP 1 8 (vI 3)<|eN<|Wk.rdS<|sR<|bF 0 9 ((3 : Int) < (3 : Int))<|eN<|wp_seq<|cF<|xX<|Wk.retN (.tuple #[]) rfl (by kernel_rfl) ⟨AA3, nn3, cc3, rfl, hgw3, own8_low ow6 (by omega), by omega, (kC (kA (kC (kA (kC (zA ch1 : Chg [g] (w) W1) ch2) ch3) ch4) ch5) ch6)⟩
theorem Wflag_any (g base : Nat) (A : Option Addr) (n c : Nat) (b : List UInt8) (fl : Bool) (w : World) (hg : w.heap[g]? = some (.cells #[.slice A n c] 79 (0, 0))) (hbs : g < base ∧ base ≤ w.heap.size) (ho : Own8 w base 5 A n c b) (hn : n ≤ 3000000) : Calls Tryz.prog 49 #[pt g 0, .bool fl] w fun e w' => ∃ A1 n1 c1, e = .returned (.tuple #[]) ∧ w'.heap[g]? = some (.cells #[.slice A1 n1 c1] 79 (0, 0)) ∧ Own8 w' w.heap.size 5 A1 n1 c1 (b ++ formN (Mur.flagN fl)) ∧ n1 ≤ n + 9 ∧ Chg [g] w w' := by
 have hgl_ := (Array.getElem?_eq_some_iff.1 hg).1
 have hon_ := ho.nc
 have hoc_ := ho.cm
 have hol_ := ho.byt.1
 have hn_ := hn
 have hbs_ := hbs
 have holt_ := ho.lt
 refine calls_of_wp Tryz.func49 rfl ?_
 refine sR<|rP 0 4 (.bool fl)<|eN<|?_
 cases fl
 ·refine cF<|reg<|rP 0 8 (pt g 0)<|nS 1 9 1 #[vI 0] 3 fun W1 hb1 ch1 sz1 => rK 2 10 (Wint1_any g base A n c b w.heap.size 0 W1 (qT ch1 hg) ⟨by omega, by omega⟩ (oA ho ch1) (by omega) hb1 (by omega)) ?_
  rintro _ W2 ⟨AA1, nn1, cc1, rfl, hgw1, ow2, hle1, ch2⟩
  have zz2 := ch2.size
  have hq1 := ow2.nc
  have hq2 := ow2.cm
  have hq3 := ow2.byt.1
  exact rE<|Wk.retN (.tuple #[]) rfl (by kernel_rfl) ⟨AA1, nn1, cc1, rfl, hgw1, own8_low ow2 (by omega), by omega, (kC (zA ch1 : Chg [g] (w) W1) ch2)⟩
 refine cT<|reg<|rP 0 5 (pt g 0)<|nS 1 6 1 #[vI 1] 3 fun W3 hb2 ch3 sz2 => rK 2 7 (Wint1_any g base A n c b w.heap.size 1 W3 (qT ch3 hg) ⟨by omega, by omega⟩ (oA ho ch3) (by omega) hb2 (by omega)) ?_
 rintro _ W4 ⟨AA2, nn2, cc2, rfl, hgw2, ow4, hle2, ch4⟩
 have zz4 := ch4.size
 have hq4 := ow4.nc
 have hq5 := ow4.cm
 have hq6 := ow4.byt.1
 exact rE<|Wk.retN (.tuple #[]) rfl (by kernel_rfl) ⟨AA2, nn2, cc2, rfl, hgw2, own8_low ow4 (by omega), by omega, (kC (zA ch3 : Chg [g] (w) W3) ch4)⟩
theorem Wbytes_any (g base : Nat) (A : Option Addr) (n c : Nat) (b : List UInt8) (x : List UInt8) (B : Option Addr) (m d : Nat) (w : World) (hg : w.heap[g]? = some (.cells #[.slice A n c] 79 (0, 0))) (hbs : g < base ∧ base ≤ w.heap.size) (ho : Own8 w base 5 A n c b) (hn : n ≤ 3000000) (hx : Byt w B m x) (hmd : m ≤ d ∧ d ≤ 9223372036854775807) (hnil : B = none → d = 0) (hm : m ≤ 100000) (hbB : ∀ g2 off, B = some ⟨g2, off, none⟩ → 0 < m → g2 ≠ g) : Calls Tryz.prog 45 #[pt g 0, .slice B m d] w fun e w' => ∃ A1 n1 c1, e = .returned (.tuple #[]) ∧ w'.heap[g]? = some (.cells #[.slice A1 n1 c1] 79 (0, 0)) ∧ Own8 w' w.heap.size 5 A1 n1 c1 (b ++ (formN x.length ++ x)) ∧ n1 ≤ n + 9 + m ∧ Chg [g] w w' := by
 have hmd_ := hmd
 have hxl_ := hx.1
 rw [hxl_]
 have hgl_ := (Array.getElem?_eq_some_iff.1 hg).1
 have hon_ := ho.nc
 have hoc_ := ho.cm
 have hol_ := ho.byt.1
 have hn_ := hn
 have hbs_ := hbs
 have holt_ := ho.lt
 refine calls_of_wp Tryz.func45 rfl ?_
 refine sR<|rP 0 4 (pt g 0)<|rP 1 5 (.slice B m d)<|rP 2 6 (vI m)<|nS 3 7 1 #[vI m] 3 fun W1 hb1 ch1 sz1 => rK 4 8 (Wint1_any g base A n c b w.heap.size (m : Int) W1 (qT ch1 hg) ⟨by omega, by omega⟩ (oA ho ch1) (by omega) hb1 (by omega)) ?_
 rintro _ W2 ⟨AA1, nn1, cc1, rfl, hgw1, ow2, hle1, ch2⟩
 have zz2 := ch2.size
 have hq1 := ow2.nc
 have hq2 := ow2.cm
 have hq3 := ow2.byt.1
 refine eN<|reg<|rP 0 9 (pt g 0)<|rP 1 10 (pt g 0)<|rP 2 11 (pt g 0)<|rP 3 12 (pt g 0)<|rL 4 13 0 (.slice AA1 nn1 cc1) hgw1<|rP 5 14 (.slice B m d)<|rX 6 15 rfl rfl (ap8 m d ow2.own (byt_chgp (byt_chgp hx ch1 (fun g off e hn hl => trivial)) ch2 (fun g off e hn hl => ⟨by have := hbB g off e hn; omega, trivial⟩)) hnil (nn1 + m) ((b ++ formN (u64n (m : Int))) ++ x)) ?_
 rintro _ W3 ⟨AA2, nn2, rfl, ow3, ch3, ha1⟩
 have zz3 := ch3.size
 have hq4 := ow3.nc
 have hq5 := ow3.cm
 refine rP 7 16 (pt g 0)<|rP 8 17 (pt g 0)<|rU 9 rfl (sW 0 (.slice AA2 (nn1 + m) nn2) (Chg.hp ch3 hgw1 (off_blk (fun gz hgz => by have := ow2.lt gz hgz; omega)))) fun W4 hb2 ch4 _ => ?_
 replace hb2 : W4.heap[g]? = some (.cells #[.slice AA2 (nn1 + m) nn2] 79 (0, 0)) := hb2
 have zz4 := ch4.size
 refine rE<|?_
 have hH_ := (oB ow3 ch4 ow3.lt)
 rw [Mur.u64n_of (by omega), List.append_assoc] at hH_
 exact Wk.retN (.tuple #[]) rfl (by kernel_rfl) ⟨AA2, nn1 + m, nn2, rfl, hb2, own8_low hH_ (by omega), by omega, (kC (Chg.step (kC (zA ch1 : Chg [g] (w) W1) ch2) ch3 (newOr_blk (fun g hg => by have := ow2.lt g hg; omega))) ch4)⟩
end Go.Proofs.YtgbadghjnpbiaaaGreatDoor
