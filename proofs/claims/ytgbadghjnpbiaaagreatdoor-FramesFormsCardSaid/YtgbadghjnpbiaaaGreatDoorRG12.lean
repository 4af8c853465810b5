/- What the row rests on, part 12. -/
import Derived.Test.YtgbadghjnpbiaaaGreatDoorRG10
import Derived.Test.YtgbadghjnpbiaaaGreatDoorRG11
import Derived.Test.YtgbadghjnpbiaaaGreatDoorRG7
import Derived.Test.YtgbadghjnpbiaaaGreatDoorRG5
import Derived.Test.YtgbadghjnpbiaaaGreatDoorRG9
import Derived.Test.YtgbadghjnpbiaaaGreatDoorRG6
namespace Go.Proofs.YtgbadghjnpbiaaaGreatDoor
open Go.RowKit Wk
open Mur (b8s Byt Own8 Seg Segs flat cutA attC Att SlA OwnA rowA msgC byt_chg ok_cons frmP LiesF FrmIn headM run_built frmL_size frmL_sz frmL_all zs0 lies_none sl0_in store_seg1 segs_cell kind_of rd_tg_no rd_none run_neq_dg may_head rd_un)
set_option maxRecDepth 100000
set_option maxHeartbeats 4000000
theorem TagF_any (s : List UInt8) (A : Option Addr) (n c : Nat) (T : List UInt8 → List UInt8) (b : List UInt8) (B : Option Addr) (m d : Nat) (w : World) (hv : ShaVars w) (hb : Byt w A n s) (hnc : n ≤ c ∧ c ≤ 9223372036854775807) (ha : A = none → c = 0) (hn : n ≤ 1000000) (hT : ∀ x, T x = Mur.hmac s (18 :: x)) (hTl : ∀ x, (T x).length = 32) (hbB : Byt w B m b) (hmd : m ≤ d ∧ d ≤ 9223372036854775807) (hbn : B = none → d = 0) (hm : m ≤ 1000000) : Calls Tryz.prog 18 #[.slice A n c, .slice B m d] w fun e w' => e = .returned (.agg (b8s (T b)).toArray) ∧ Chg [] w w' := by
 have HV := Go.Lib.hid hv
 clear hv
 have HBY := Go.Lib.hid hb
 clear hb
 have HA := Go.Lib.hid ha
 clear ha
 have hbl2_ := hbB.1
 have hTl_ := hTl
 refine calls_of_wp Tryz.func18 rfl ?_
 refine sR<|nW 0 4 Z32 28 fun W1 hb1 ch1 sz1 => eN<|sR<|rP 0 5 (.slice A n c)<|nS 1 6 1 #[vB 18] 5 fun W2 hb2 ch2 sz2 => rP 2 7 (.slice B m d)<|nS 3 8 2 #[.slice (some ⟨W1.heap.size, 0, none⟩) 1 1, .slice B m d] 22 fun W3 hb3 ch3 sz3 => ?_
 have kk3 := kA (kA (zA ch1 : Chg [] w W1) ch2) ch3
 have hby1 := (Mur.byt_row [18] (qT ch3 hb2))
 have hby2 := (byt_chg hbB kk3 (fun g off e hl => trivial))
 refine rK 4 9 (Tag_any s A n c ([⟨(some ⟨W1.heap.size, 0, none⟩), 1, 1, ([18])⟩, ⟨B, m, d, b⟩]) (some ⟨W2.heap.size, 0, none⟩) 2 2 W3 (HV.out.below (Chg.below0 kk3)) (byt_chg HBY.out kk3 (fun g off e hl => trivial)) (by omega) HA.out (by omega) (Mur.segs_lit [⟨(some ⟨W1.heap.size, 0, none⟩), 1, 1, ([18])⟩, ⟨B, m, d, b⟩] 2 hb3 (ok_cons ⟨(show 1 ≤ 1 by omega), (fun h => by cases h), hby1, (show 1 ≤ Go.maxLen by first | omega | (unfold Go.maxLen; omega))⟩ (ok_cons ⟨(show m ≤ d by omega), hbn, hby2, (show d ≤ Go.maxLen by first | omega | (unfold Go.maxLen; omega))⟩ Mur.ok_nil)) rfl) (by omega) (by show (([18]) ++ (b ++ [])).length ≤ _; simp only [List.length_append, List.length_nil, List.length_cons]; have hl0 := hby1.1; have hl1 := hby2.1; omega)) ?_
 rintro _ W4 ⟨dd1, hd1, hdl1, rfl, ch4⟩
 have zz4 := ch4.size
 refine rU 5 rfl (sC dd1 hdl1 (qT ch4 (qT ch3 (qT ch2 hb1)))) fun W5 hb4 ch5 zz5 => eN<|wp_ret<|?_
 have hd_ : dd1 = T b := by rw [hT, hd1.out, Mur.tag_flat]
 exact retC rfl hb4 (by rw [List.size_toArray, Mur.b8s_length, hdl1]; kernel_rfl) ⟨by rw [hd_], (kB (kA kk3 ch4) ch5)⟩
theorem ReadF_any (s : List UInt8) (A : Option Addr) (n c : Nat) (T : List UInt8 → List UInt8) (b : List UInt8) (B : Option Addr) (m d : Nat) (w : World) (hv : ShaVars w) (hb : Byt w A n s) (hnc : n ≤ c ∧ c ≤ 9223372036854775807) (ha : A = none → c = 0) (hn : n ≤ 1000000) (hT : ∀ x, T x = Mur.hmac s (18 :: x)) (hTl : ∀ x, (T x).length = 32) (hbB : Byt w B m b) (hmd : m ≤ d ∧ d ≤ 9223372036854775807) (hbn : B = none → d = 0) : Calls Tryz.prog 14 #[.slice A n c, .slice B m d] w fun e w' => ∃ (F : Mur.Frm) (Z : Mur.Zs) (er : Nat), e = .returned (.tuple #[.agg (frmP F Z).flatten.toArray, vI er]) ∧ LiesF w' Z F ∧ Z.In (fun g => w.heap.size ≤ g) ∧ ((er = 0 ∧ Mur.readAll T b = .ok F ∧ FrmIn F) ∨ (er = 3 ∧ Mur.readAll T b = .long ∧ F = headM 0 0 0) ∨ (er = 5 ∧ Mur.readAll T b = .form ∧ F = headM 0 0 0) ∨ (er = 250 ∧ Mur.readAll T b = .tag ∧ F = headM 0 0 0)) ∧ Chg [] w w' := by
 have HV := Go.Lib.hid hv
 clear hv
 have HBY := Go.Lib.hid hb
 clear hb
 have HA := Go.Lib.hid ha
 clear ha
 have hbl2_ := hbB.1
 have hBlt : ∀ a, B = some a → 0 < m → a.block < w.heap.size := fun a e hn => Mur.byt_lt hbB e hn
 refine calls_of_wp Tryz.func14 rfl ?_
 refine sR<|nW 0 4 ((frmh 0 0 0).flatten.toArray) 38 fun W1 hb1 ch1 sz1 => rP 1 5 (vI 0)<|eN<|wp_seq<|sR<|rP 0 10 (.slice B m d)<|rP 1 11 (vI m) ?_
 by_cases hx1 : (m : Int) > (2000 : Int)
 ·refine bT 2 12 ((m : Int) > (2000 : Int))<|eN<|cT<|sR<|rq 0 13 (.agg ((frmh 0 0 0).flatten.toArray)) rfl (run_built 38 _ rfl [] (by kernel_rfl) _ built_head0)<|rU 1 rfl (sA (frmh 0 0 0).flatten.toArray (frmL_size (frmL_sz rfl rfl rfl rfl rfl rfl)) hb1 (frmL_size (frmL_sz rfl rfl rfl rfl rfl rfl))) fun W2 hb2 ch2 zz2 => rP 2 5 (vI 3)<|eN<|tR<|?_
  exact retF (vI 3) hb2 (frmL_size (frmL_sz rfl rfl rfl rfl rfl rfl)) ⟨headM 0 0 0, zs0, 3, rfl, lies_none rfl rfl rfl rfl rfl, ⟨sl0_in, sl0_in, sl0_in, sl0_in, sl0_in⟩, .inr (.inl ⟨rfl, Mur.readAll_long (by omega), rfl⟩), (kB (zA ch1 : Chg [] w W1) ch2)⟩
 refine bF 2 12 ((m : Int) > (2000 : Int))<|eN<|cF<|wp_skip<|nxt<|sR<|rP 0 14 (.slice B m d)<|rP 1 15 (.agg #[.slice B m d, vI 0, vF])<|nW 2 16 #[.slice B m d, vI 0, vF] 71 fun W3 hb3 ch3 sz2 => rP 3 6 (pw W1 0)<|eN<|sR<|rP 0 17 (pw W1 0) ?_
 have kk4 := kA (zA ch1 : Chg [] w W1) ch3
 refine rK 1 18 (Rkind_any W1.heap.size B m d b 0 false W3 hb3 (byt_chg hbB kk4 (fun g off e hl => trivial)) ⟨by omega, by omega⟩ (fun a_ e_ hn_ => by have := hBlt a_ e_ hn_; omega) (by omega) (by omega)) ?_
 rintro _ W4 ⟨at1, bad1, v1, rfl, hat1, hr1, hst1, hlt1, ch4⟩
 have zz4 := ch4.size
 refine rq 2 19 (.agg ((frmh (UInt8.ofNat v1) 0 0).flatten.toArray)) rfl (run_built 38 _ rfl [(0, vB ((UInt8.ofNat v1).toNat : Nat))] (by kernel_rfl) _ (built_head1 (UInt8.ofNat v1)))<|nW 3 7 ((frmh 0 0 0).flatten.toArray) 38 fun W5 hb4 ch5 sz3 => rU 4 rfl (sA (frmh (UInt8.ofNat v1) 0 0).flatten.toArray (frmL_size (frmL_sz rfl rfl rfl rfl rfl rfl)) hb4 (frmL_size (frmL_sz rfl rfl rfl rfl rfl rfl))) fun W6 hb5 ch6 zz6 => eN<|sR<|rP 0 20 (pw W1 0) ?_
 have kk7 := kB (kA (kB kk4 ch4) ch5) ch6
 refine rK 1 21 (Rint_any W1.heap.size B m d b at1 bad1 W6 (qO ch6 (qT ch5 hr1)) (byt_chg hbB kk7 (fun g off e hl => trivial)) ⟨by omega, by omega⟩ (fun a_ e_ hn_ => by have := hBlt a_ e_ hn_; omega) (by omega) (by omega)) ?_
 rintro _ W7 ⟨at2, bad2, v2, rfl, hat2, hr2, hst2, hlt2, ch7⟩
 have zz7 := ch7.size
 refine rP 2 22 (pw W4 1)<|rU 3 rfl (sG 1 (vI v2) (frmL_sz rfl rfl rfl rfl rfl rfl) (qO ch7 hb5) 1 (frmh (UInt8.ofNat v1) (v2 : Int) 0)) fun W8 hb6 ch8 zz8 => eN<|sR<|rP 0 23 (pw W1 0) ?_
 have kk9 := kB (kB kk7 ch7) ch8
 refine rK 1 24 (Rint_any W1.heap.size B m d b at2 bad2 W8 (qO ch8 hr2) (byt_chg hbB kk9 (fun g off e hl => trivial)) ⟨by omega, by omega⟩ (fun a_ e_ hn_ => by have := hBlt a_ e_ hn_; omega) (by omega) (by omega)) ?_
 rintro _ W10 ⟨at3, bad3, v3, rfl, hat3, hr3, hst3, hlt3, ch9⟩
 have zz9 := ch9.size
 refine rP 2 25 (pw W4 2)<|rU 3 rfl (sG 2 (vI v3) (frmL_sz rfl rfl rfl rfl rfl rfl) (qO ch9 hb6) 2 (frmh (UInt8.ofNat v1) (v2 : Int) (v3 : Int))) fun W11 hb7 ch10 zz10 => eN<|sR<|rP 0 26 (pw W1 0) ?_
 have kk11 := kB (kB kk9 ch9) ch10
 refine rK 1 27 (Rfields_any W1.heap.size B m d b at3 bad3 W4.heap.size (UInt8.ofNat v1) v2 v3 W11 (qO ch10 hr3) (byt_chg hbB kk11 (fun g off e hl => trivial)) ⟨by omega, by omega⟩ (fun a_ e_ hn_ => by have := hBlt a_ e_ hn_; omega) (by omega) (by omega) hb7 (by omega) (fun a_ e_ hn_ => by have := hBlt a_ e_ hn_; omega)) ?_
 rintro _ W12 ⟨at4, bad4, FF1, ZZ1, rfl, hat4, hr4, hfr1, hLs1, hZin1, hFk1, hAlt1, ch11⟩
 have zz11 := ch11.size
 have hI : FrmIn FF1 := by rcases hAlt1 with ⟨_, _, rfl, h_⟩ | ⟨_, rfl, _⟩; exact Mur.frmIn_of (by omega) (by omega) h_; exact Mur.frmIn_head _ (by omega) (by omega)
 refine eN<|sR<|rP 0 28 (pw W1 0)<|rP 1 29 (pw W1 0)<|rP 2 30 (pw W1 1)<|rL 3 31 1 (vI at4) hr4<|rP 4 8 (vI at4)<|eN<|sR<|nW 0 9 Z32 28 fun W13 hb8 ch12 sz4 => eN<|wp_seq<|sR<|rP 0 32 (pw W4 0)<|rF 1 33 0 (vB FF1.kind.toNat) hI.sz (qT ch12 hfr1) 0<|rK 2 34 (Tagged_any FF1.kind W13) ?_
 by_cases hpr1 : FF1.kind.toNat ≤ 4
 ·rw [decide_eq_true hpr1]
  rintro _ W14 ⟨rfl, ch13⟩
  have zz13 := ch13.size
  refine eN<|cT<|reg<|rP 0 35 (pw W1 0) ?_
  have kk14 := kA (kA (kD kk11 ch11) ch12) ch13
  refine rK 1 36 (Rdigest_any W1.heap.size B m d b at4 bad4 W14 (qT ch13 (qT ch12 hr4)) (byt_chg hbB kk14 (fun g off e hl => trivial)) ⟨by omega, by omega⟩ (fun a_ e_ hn_ => by have := hBlt a_ e_ hn_; omega) (by omega) (by omega)) ?_
  rintro _ W15 ⟨at5, bad5, x1, rfl, hat5, hr5, hst4, hl1, ch14⟩
  have zz14 := ch14.size
  refine rU 2 rfl (sC x1 hl1 (qO ch14 (qT ch13 hb8))) fun W16 hb9 ch15 zz15 => eN<|wp_seq<|wp_block<|sR<|rP 0 38 (pw W1 0)<|rP 1 39 (pw W1 0)<|rP 2 40 (pw W1 2)<|rL 3 41 2 (.bool bad5) (qO ch15 hr5)<|rP 4 42 (.bool bad5) ?_
  cases bad5
  ·refine rP 5 43 (pw W1 0)<|rP 6 44 (pw W1 0)<|rP 7 45 (pw W1 1)<|rL 8 46 1 (vI at5) (qO ch15 hr5)<|rP 9 47 (.slice B m d)<|rP 10 48 (vI m) ?_
   by_cases hx2 : (at5 : Int) ≠ (m : Int)
   ·refine nT 11 49 (at5 : Int) (m : Int)<|rP 12 50 vT<|rP 13 51 vT<|rZ 14 52<|rZ 15 53<|rZ 16 54<|rP 17 55 vT<|rP 18 37 vT<|eN<|cT<|sR<|rq 0 56 (.agg ((frmh 0 0 0).flatten.toArray)) rfl (run_built 38 _ rfl [] (by kernel_rfl) _ built_head0)<|rU 1 rfl (sA (frmh 0 0 0).flatten.toArray (frmL_size (frmL_sz rfl rfl rfl rfl rfl rfl)) (qO ch15 (qO ch14 (qT ch13 (qT ch12 (Chg.hp ch11 (qO ch10 (qO ch9 (qO ch8 (qO ch7 (qO ch6 (qT ch5 (qO ch4 (qT ch3 hb1)))))))) ⟨by omega, ⟨by omega, trivial⟩⟩))))) (frmL_size (frmL_sz rfl rfl rfl rfl rfl rfl))) fun W17 hb10 ch16 zz16 => rP 2 5 (vI 5)<|eN<|tI<|?_
    have kk17 := kB (kB (kB kk14 ch14) ch15) ch16
    have hhd_ : Mur.Step (Mur.pSeq Mur.readK (Mur.pSeq Mur.readI Mur.readI)) b 0 false _ _ (v1, (v2, v3)) := hst1.seq (hst2.seq hst3)
    rcases hAlt1 with ⟨cc_, hcc_, hFe_, _⟩ | ⟨hkn_, hFe_, _, _⟩
    ·have hrf_ := hhd_.fra hcc_
     have hof_ : FF1 = Mur.ofFra ⟨v2, v3, cc_⟩ := hFe_
     have hkk_ : FF1.kind.toNat = (⟨v2, v3, cc_⟩ : Mur.Fra).con.kind := by rw [hof_]; exact kind_of _
     exact retF (vI 5) hb10 (frmL_size (frmL_sz rfl rfl rfl rfl rfl rfl)) ⟨headM 0 0 0, zs0, 5, rfl, lies_none rfl rfl rfl rfl rfl, ⟨sl0_in, sl0_in, sl0_in, sl0_in, sl0_in⟩, .inr (.inr (.inl ⟨rfl, rd_tg_no (by omega) (by omega) hrf_ (by rw [← hkk_]; exact hpr1) hst4 (fun e_ => by omega), rfl⟩)), kk17⟩
    exact retF (vI 5) hb10 (frmL_size (frmL_sz rfl rfl rfl rfl rfl rfl)) ⟨headM 0 0 0, zs0, 5, rfl, lies_none rfl rfl rfl rfl rfl, ⟨sl0_in, sl0_in, sl0_in, sl0_in, sl0_in⟩, .inr (.inr (.inl ⟨rfl, rd_none (by omega) hhd_ hkn_, rfl⟩)), kk17⟩
   refine nF 11 49 (at5 : Int) (m : Int)<|rP 12 50 vF<|rP 13 51 vF<|rq 14 52 _ rfl (lA (qO ch15 (qO ch14 (qT ch13 (qT ch12 hfr1)))) (frmL_size hI.sz)) ?_
   have kk21 := kB (kC (kA (zA ch12 : Chg [W1.heap.size, w.heap.size] (W12) W13) ch13) ch14) ch15
   refine rK 15 53 (MayF_any FF1 ZZ1 W16 (LiesF.chg hLs1 kk21 ⟨(fun g off e => fun _ => (by have h_ : W11.heap.size ≤ g := hZin1.1 g off e; exact ⟨by omega, ⟨by omega, trivial⟩⟩)), (fun g off e => fun _ => (by have h_ : W11.heap.size ≤ g := hZin1.2.1 g off e; exact ⟨by omega, ⟨by omega, trivial⟩⟩)), (fun g off e => fun _ => (by have h_ : W11.heap.size ≤ g := hZin1.2.2.1 g off e; exact ⟨by omega, ⟨by omega, trivial⟩⟩)), (fun g off e => fun _ => (by have h_ : W11.heap.size ≤ g := hZin1.2.2.2.1 g off e; exact ⟨by omega, ⟨by omega, trivial⟩⟩)), (fun g off e => fun _ => (by have h_ : W11.heap.size ≤ g := hZin1.2.2.2.2 g off e; exact ⟨by omega, ⟨by omega, trivial⟩⟩))⟩) hI) ?_
   rintro _ W18 ⟨bv1, rfl, hif1, ch17⟩
   have zz17 := ch17.size
   cases bv1
   ·refine rP 16 54 vT<|rP 17 55 vT<|rP 18 37 vT<|eN<|cT<|sR<|rq 0 56 (.agg ((frmh 0 0 0).flatten.toArray)) rfl (run_built 38 _ rfl [] (by kernel_rfl) _ built_head0)<|rU 1 rfl (sA (frmh 0 0 0).flatten.toArray (frmL_size (frmL_sz rfl rfl rfl rfl rfl rfl)) (qT ch17 (qO ch15 (qO ch14 (qT ch13 (qT ch12 (Chg.hp ch11 (qO ch10 (qO ch9 (qO ch8 (qO ch7 (qO ch6 (qT ch5 (qO ch4 (qT ch3 hb1)))))))) ⟨by omega, ⟨by omega, trivial⟩⟩)))))) (frmL_size (frmL_sz rfl rfl rfl rfl rfl rfl))) fun W19 hb11 ch18 zz18 => rP 2 5 (vI 5)<|eN<|tI<|?_
    have kk25 := kB (kA (kB (kB kk14 ch14) ch15) ch17) ch18
    have hhd_ : Mur.Step (Mur.pSeq Mur.readK (Mur.pSeq Mur.readI Mur.readI)) b 0 false _ _ (v1, (v2, v3)) := hst1.seq (hst2.seq hst3)
    rcases hAlt1 with ⟨cc_, hcc_, hFe_, _⟩ | ⟨hkn_, hFe_, _, _⟩
    ·have hrf_ := hhd_.fra hcc_
     have hof_ : FF1 = Mur.ofFra ⟨v2, v3, cc_⟩ := hFe_
     have hkk_ : FF1.kind.toNat = (⟨v2, v3, cc_⟩ : Mur.Fra).con.kind := by rw [hof_]; exact kind_of _
     exact retF (vI 5) hb11 (frmL_size (frmL_sz rfl rfl rfl rfl rfl rfl)) ⟨headM 0 0 0, zs0, 5, rfl, lies_none rfl rfl rfl rfl rfl, ⟨sl0_in, sl0_in, sl0_in, sl0_in, sl0_in⟩, .inr (.inr (.inl ⟨rfl, rd_tg_no (by omega) (by omega) hrf_ (by rw [← hkk_]; exact hpr1) hst4 (fun e_ => by rw [← hof_]; exact (fun q_ => Bool.noConfusion (hif1.2 q_))), rfl⟩)), kk25⟩
    exact retF (vI 5) hb11 (frmL_size (frmL_sz rfl rfl rfl rfl rfl rfl)) ⟨headM 0 0 0, zs0, 5, rfl, lies_none rfl rfl rfl rfl rfl, ⟨sl0_in, sl0_in, sl0_in, sl0_in, sl0_in⟩, .inr (.inr (.inl ⟨rfl, rd_none (by omega) hhd_ hkn_, rfl⟩)), kk25⟩
   refine rP 16 54 vF<|rP 17 55 vF<|rP 18 37 vF<|eN<|cF<|wp_seq<|?_
   refine dReg ([]) (by kernel_rfl) ?_
   intro W20 ch19 sz5
   have zz19 := ch19.size
   have sS1 : Chg ([]) W20 W20 := (Chg.refl _).more (by simp)
   refine dW 0 58 (pw W4 0) sS1<|dV 1 59 (vB FF1.kind.toNat) rfl rfl (fun w' hw' => fl 5 58 W4.heap.size 0 (vB FF1.kind.toNat) hI.sz (qT hw' (qT ch19 (qT ch17 (qO ch15 (qO ch14 (qT ch13 (qT ch12 hfr1))))))) 0) sS1<|dO 2<|oK 60 (Tagged_any FF1.kind W20) ?_
   rw [decide_eq_true hpr1]
   rintro _ W21 ⟨rfl, ch20⟩
   have zz20 := ch20.size
   have sS2 := kA sS1 ch20
   refine aN sS2<|dW 3 61 vT sS2<|dV 4 62 _ rfl rfl (fun w' hw' => lB x1 hl1 (qT hw' (qT ch19 (qT ch17 hb9)))) sS2<|dW 5 63 (.slice A n c) sS2<|dW 6 64 (.slice B m d) sS2<|dW 7 65 (vI at4) sS2 ?_
   obtain ⟨Ac1, hAc1⟩ : ∃ x_, x_ = Mur.cutA B d 0 := ⟨_, rfl⟩
   have hbc1 : Byt w Ac1 at4 (b.take at4) := by rw [hAc1]; exact Mur.byt_to hbB at4 (by omega) (by omega)
   refine dV 8 66 (.slice Ac1 at4 d) rfl rfl (fun w' hw' => by rw [hAc1]; exact Mur.run_op_cut_to 22 (.tmp 64) (.tmp 65) rfl 5 Tryz.underlying22 (by kernel_rfl) B m d at4 (by kernel_rfl) (by kernel_rfl) (by omega) (by omega)) sS2<|dO 9 ?_
   have kk30 := kA (kA (kA (kB (kB kk14 ch14) ch15) ch17) ch19) ch20
   refine oK 67 (TagF_any s A n c T (b.take at4) Ac1 at4 d W21 (HV.out.below (Chg.below0 kk30)) (byt_chg HBY.out kk30 (fun g off e hl => trivial)) ⟨by omega, by omega⟩ HA.out (by omega) hT hTl (byt_chg hbc1 kk30 (fun g off e hl => trivial)) ⟨by omega, by omega⟩ (fun h_ => by rw [hAc1] at h_; exact Mur.cutA_nil hbn h_) (by omega)) ?_
   rintro _ W22 ⟨rfl, ch21⟩
   have zz21 := ch21.size
   have sS3 := kA sS2 ch21
   refine aN sS3 ?_
   by_cases hdg_ : x1 = T (b.take at4)
   ·refine dV 10 68 vF rfl rfl (fun w' hw' => nqF hdg_ (run_neq_dg digT x1 (T (b.take at4)) hl1 (hTl (b.take at4)) _ (.tmp 62) (.tmp 67) 28 rfl (by kernel_rfl) (by kernel_rfl))) sS3<|dW 11 69 vF sS3<|dW 12 57 vF sS3<|dN<|cF<|wp_skip<|inN<|nxt<|sR<|rq 0 71 _ rfl (lA (qT ch21 (qT ch20 (qT ch19 (qT ch17 (qO ch15 (qO ch14 (qT ch13 (qT ch12 hfr1)))))))) (frmL_size hI.sz))<|rU 1 rfl (sA (frmP FF1 ZZ1).flatten.toArray (frmL_size hI.sz) (qT ch21 (qT ch20 (qT ch19 (qT ch17 (qO ch15 (qO ch14 (qT ch13 (qT ch12 (Chg.hp ch11 (qO ch10 (qO ch9 (qO ch8 (qO ch7 (qO ch6 (qT ch5 (qO ch4 (qT ch3 hb1)))))))) ⟨by omega, ⟨by omega, trivial⟩⟩))))))))) (frmL_size (frmL_sz rfl rfl rfl rfl rfl rfl))) fun W23 hb12 ch22 zz22 => rP 2 5 (vI 0)<|eN<|wp_ret<|?_
    have hhd_ : Mur.Step (Mur.pSeq Mur.readK (Mur.pSeq Mur.readI Mur.readI)) b 0 false _ _ (v1, (v2, v3)) := hst1.seq (hst2.seq hst3)
    rcases hAlt1 with ⟨cc_, hcc_, hFe_, _⟩ | ⟨hkn_, hFe_, _, _⟩
    ·have hrf_ := hhd_.fra hcc_
     have hof_ : FF1 = Mur.ofFra ⟨v2, v3, cc_⟩ := hFe_
     have hkk_ : FF1.kind.toNat = (⟨v2, v3, cc_⟩ : Mur.Fra).con.kind := by rw [hof_]; exact kind_of _
     exact retF (vI 0) hb12 (frmL_size hI.sz) ⟨FF1, ZZ1, 0, rfl, (LiesF.chg hLs1 (kC (kA (kA (kA (kA kk21 ch17) ch19) ch20) ch21) ch22) ⟨(fun g off e => fun _ => (by have h_ : W11.heap.size ≤ g := hZin1.1 g off e; exact ⟨by omega, ⟨by omega, trivial⟩⟩)), (fun g off e => fun _ => (by have h_ : W11.heap.size ≤ g := hZin1.2.1 g off e; exact ⟨by omega, ⟨by omega, trivial⟩⟩)), (fun g off e => fun _ => (by have h_ : W11.heap.size ≤ g := hZin1.2.2.1 g off e; exact ⟨by omega, ⟨by omega, trivial⟩⟩)), (fun g off e => fun _ => (by have h_ : W11.heap.size ≤ g := hZin1.2.2.2.1 g off e; exact ⟨by omega, ⟨by omega, trivial⟩⟩)), (fun g off e => fun _ => (by have h_ : W11.heap.size ≤ g := hZin1.2.2.2.2 g off e; exact ⟨by omega, ⟨by omega, trivial⟩⟩))⟩), ⟨fun g off e => by have h_ : W11.heap.size ≤ g := hZin1.1 g off e; show w.heap.size ≤ g; omega, fun g off e => by have h_ : W11.heap.size ≤ g := hZin1.2.1 g off e; show w.heap.size ≤ g; omega, fun g off e => by have h_ : W11.heap.size ≤ g := hZin1.2.2.1 g off e; show w.heap.size ≤ g; omega, fun g off e => by have h_ : W11.heap.size ≤ g := hZin1.2.2.2.1 g off e; show w.heap.size ≤ g; omega, fun g off e => by have h_ : W11.heap.size ≤ g := hZin1.2.2.2.2 g off e; show w.heap.size ≤ g; omega⟩, .inl ⟨rfl, (by rw [hof_]; exact Mur.rd_tg_ok (by omega) hrf_ (by rw [← hkk_]; exact hpr1) hst4 (by omega) (by rw [← hof_]; exact (hif1.1 rfl)) hdg_), hI⟩, (kB (kA kk30 ch21) ch22)⟩
    exact absurd (hFe_ ▸ (hif1.1 rfl)) (may_head hkn_)
   refine dV 10 68 vT rfl rfl (fun w' hw' => nqT hdg_ (run_neq_dg digT x1 (T (b.take at4)) hl1 (hTl (b.take at4)) _ (.tmp 62) (.tmp 67) 28 rfl (by kernel_rfl) (by kernel_rfl))) sS3<|dW 11 69 vT sS3<|dW 12 57 vT sS3<|dN<|cT<|sR<|rq 0 70 (.agg ((frmh 0 0 0).flatten.toArray)) rfl (run_built 38 _ rfl [] (by kernel_rfl) _ built_head0)<|rU 1 rfl (sA (frmh 0 0 0).flatten.toArray (frmL_size (frmL_sz rfl rfl rfl rfl rfl rfl)) (qT ch21 (qT ch20 (qT ch19 (qT ch17 (qO ch15 (qO ch14 (qT ch13 (qT ch12 (Chg.hp ch11 (qO ch10 (qO ch9 (qO ch8 (qO ch7 (qO ch6 (qT ch5 (qO ch4 (qT ch3 hb1)))))))) ⟨by omega, ⟨by omega, trivial⟩⟩))))))))) (frmL_size (frmL_sz rfl rfl rfl rfl rfl rfl))) fun W24 hb13 ch23 zz23 => rP 2 5 (vI 250)<|eN<|tI<|?_
   have hhd_ : Mur.Step (Mur.pSeq Mur.readK (Mur.pSeq Mur.readI Mur.readI)) b 0 false _ _ (v1, (v2, v3)) := hst1.seq (hst2.seq hst3)
   rcases hAlt1 with ⟨cc_, hcc_, hFe_, _⟩ | ⟨hkn_, hFe_, _, _⟩
   ·have hrf_ := hhd_.fra hcc_
    have hof_ : FF1 = Mur.ofFra ⟨v2, v3, cc_⟩ := hFe_
    have hkk_ : FF1.kind.toNat = (⟨v2, v3, cc_⟩ : Mur.Fra).con.kind := by rw [hof_]; exact kind_of _
    exact retF (vI 250) hb13 (frmL_size (frmL_sz rfl rfl rfl rfl rfl rfl)) ⟨headM 0 0 0, zs0, 250, rfl, lies_none rfl rfl rfl rfl rfl, ⟨sl0_in, sl0_in, sl0_in, sl0_in, sl0_in⟩, .inr (.inr (.inr ⟨rfl, Mur.rd_tg_tag (by omega) hrf_ (by rw [← hkk_]; exact hpr1) hst4 (by omega) (by rw [← hof_]; exact (hif1.1 rfl)) hdg_, rfl⟩)), (kB (kA kk30 ch21) ch23)⟩
   exact absurd (hFe_ ▸ (hif1.1 rfl)) (may_head hkn_)
  refine rZ 5 43<|rZ 6 44<|rZ 7 45<|rZ 8 46<|rZ 9 47<|rZ 10 48<|rZ 11 49<|rP 12 50 vT<|rP 13 51 vT<|rZ 14 52<|rZ 15 53<|rZ 16 54<|rP 17 55 vT<|rP 18 37 vT<|eN<|cT<|sR<|rq 0 56 (.agg ((frmh 0 0 0).flatten.toArray)) rfl (run_built 38 _ rfl [] (by kernel_rfl) _ built_head0)<|rU 1 rfl (sA (frmh 0 0 0).flatten.toArray (frmL_size (frmL_sz rfl rfl rfl rfl rfl rfl)) (qO ch15 (qO ch14 (qT ch13 (qT ch12 (Chg.hp ch11 (qO ch10 (qO ch9 (qO ch8 (qO ch7 (qO ch6 (qT ch5 (qO ch4 (qT ch3 hb1)))))))) ⟨by omega, ⟨by omega, trivial⟩⟩))))) (frmL_size (frmL_sz rfl rfl rfl rfl rfl rfl))) fun W25 hb14 ch24 zz24 => rP 2 5 (vI 5)<|eN<|tI<|?_
  have kk42 := kB (kB (kB kk14 ch14) ch15) ch24
  have hhd_ : Mur.Step (Mur.pSeq Mur.readK (Mur.pSeq Mur.readI Mur.readI)) b 0 false _ _ (v1, (v2, v3)) := hst1.seq (hst2.seq hst3)
  rcases hAlt1 with ⟨cc_, hcc_, hFe_, _⟩ | ⟨hkn_, hFe_, _, _⟩
  ·have hrf_ := hhd_.fra hcc_
   have hof_ : FF1 = Mur.ofFra ⟨v2, v3, cc_⟩ := hFe_
   have hkk_ : FF1.kind.toNat = (⟨v2, v3, cc_⟩ : Mur.Fra).con.kind := by rw [hof_]; exact kind_of _
   exact retF (vI 5) hb14 (frmL_size (frmL_sz rfl rfl rfl rfl rfl rfl)) ⟨headM 0 0 0, zs0, 5, rfl, lies_none rfl rfl rfl rfl rfl, ⟨sl0_in, sl0_in, sl0_in, sl0_in, sl0_in⟩, .inr (.inr (.inl ⟨rfl, Mur.rd_tg_bad (by omega) hrf_ (by rw [← hkk_]; exact hpr1) hst4, rfl⟩)), kk42⟩
  exact retF (vI 5) hb14 (frmL_size (frmL_sz rfl rfl rfl rfl rfl rfl)) ⟨headM 0 0 0, zs0, 5, rfl, lies_none rfl rfl rfl rfl rfl, ⟨sl0_in, sl0_in, sl0_in, sl0_in, sl0_in⟩, .inr (.inr (.inl ⟨rfl, rd_none (by omega) hhd_ hkn_, rfl⟩)), kk42⟩
 rw [decide_eq_false hpr1]
 rintro _ W26 ⟨rfl, ch25⟩
 have zz25 := ch25.size
 refine eN<|cF<|wp_skip<|nxt<|wp_seq<|wp_block<|sR<|rP 0 38 (pw W1 0)<|rP 1 39 (pw W1 0)<|rP 2 40 (pw W1 2)<|rL 3 41 2 (.bool bad4) (qT ch25 (qT ch12 hr4))<|rP 4 42 (.bool bad4) ?_
 cases bad4
 ·refine rP 5 43 (pw W1 0)<|rP 6 44 (pw W1 0)<|rP 7 45 (pw W1 1)<|rL 8 46 1 (vI at4) (qT ch25 (qT ch12 hr4))<|rP 9 47 (.slice B m d)<|rP 10 48 (vI m) ?_
  by_cases hx3 : (at4 : Int) ≠ (m : Int)
  ·refine nT 11 49 (at4 : Int) (m : Int)<|rP 12 50 vT<|rP 13 51 vT<|rZ 14 52<|rZ 15 53<|rZ 16 54<|rP 17 55 vT<|rP 18 37 vT<|eN<|cT<|sR<|rq 0 56 (.agg ((frmh 0 0 0).flatten.toArray)) rfl (run_built 38 _ rfl [] (by kernel_rfl) _ built_head0)<|rU 1 rfl (sA (frmh 0 0 0).flatten.toArray (frmL_size (frmL_sz rfl rfl rfl rfl rfl rfl)) (qT ch25 (qT ch12 (Chg.hp ch11 (qO ch10 (qO ch9 (qO ch8 (qO ch7 (qO ch6 (qT ch5 (qO ch4 (qT ch3 hb1)))))))) ⟨by omega, ⟨by omega, trivial⟩⟩))) (frmL_size (frmL_sz rfl rfl rfl rfl rfl rfl))) fun W27 hb15 ch26 zz26 => rP 2 5 (vI 5)<|eN<|tI<|?_
   have kk46 := kB (kA (kA (kD kk11 ch11) ch12) ch25) ch26
   have hhd_ : Mur.Step (Mur.pSeq Mur.readK (Mur.pSeq Mur.readI Mur.readI)) b 0 false _ _ (v1, (v2, v3)) := hst1.seq (hst2.seq hst3)
   rcases hAlt1 with ⟨cc_, hcc_, hFe_, _⟩ | ⟨hkn_, hFe_, _, _⟩
   ·have hrf_ := hhd_.fra hcc_
    have hof_ : FF1 = Mur.ofFra ⟨v2, v3, cc_⟩ := hFe_
    have hkk_ : FF1.kind.toNat = (⟨v2, v3, cc_⟩ : Mur.Fra).con.kind := by rw [hof_]; exact kind_of _
    exact retF (vI 5) hb15 (frmL_size (frmL_sz rfl rfl rfl rfl rfl rfl)) ⟨headM 0 0 0, zs0, 5, rfl, lies_none rfl rfl rfl rfl rfl, ⟨sl0_in, sl0_in, sl0_in, sl0_in, sl0_in⟩, .inr (.inr (.inl ⟨rfl, rd_un (by omega) (by omega) hrf_ (by rw [← hkk_]; exact hpr1) (fun e_ => by omega), rfl⟩)), kk46⟩
   exact retF (vI 5) hb15 (frmL_size (frmL_sz rfl rfl rfl rfl rfl rfl)) ⟨headM 0 0 0, zs0, 5, rfl, lies_none rfl rfl rfl rfl rfl, ⟨sl0_in, sl0_in, sl0_in, sl0_in, sl0_in⟩, .inr (.inr (.inl ⟨rfl, rd_none (by omega) hhd_ hkn_, rfl⟩)), kk46⟩
  refine nF 11 49 (at4 : Int) (m : Int)<|rP 12 50 vF<|rP 13 51 vF<|rq 14 52 _ rfl (lA (qT ch25 (qT ch12 hfr1)) (frmL_size hI.sz)) ?_
  have kk48 := kA (zA ch12 : Chg [W1.heap.size, w.heap.size] (W12) W13) ch25
  refine rK 15 53 (MayF_any FF1 ZZ1 W26 (LiesF.chg hLs1 kk48 ⟨(fun g off e => fun _ => (by have h_ : W11.heap.size ≤ g := hZin1.1 g off e; exact ⟨by omega, ⟨by omega, trivial⟩⟩)), (fun g off e => fun _ => (by have h_ : W11.heap.size ≤ g := hZin1.2.1 g off e; exact ⟨by omega, ⟨by omega, trivial⟩⟩)), (fun g off e => fun _ => (by have h_ : W11.heap.size ≤ g := hZin1.2.2.1 g off e; exact ⟨by omega, ⟨by omega, trivial⟩⟩)), (fun g off e => fun _ => (by have h_ : W11.heap.size ≤ g := hZin1.2.2.2.1 g off e; exact ⟨by omega, ⟨by omega, trivial⟩⟩)), (fun g off e => fun _ => (by have h_ : W11.heap.size ≤ g := hZin1.2.2.2.2 g off e; exact ⟨by omega, ⟨by omega, trivial⟩⟩))⟩) hI) ?_
  rintro _ W28 ⟨bv2, rfl, hif2, ch27⟩
  have zz27 := ch27.size
  cases bv2
  ·refine rP 16 54 vT<|rP 17 55 vT<|rP 18 37 vT<|eN<|cT<|sR<|rq 0 56 (.agg ((frmh 0 0 0).flatten.toArray)) rfl (run_built 38 _ rfl [] (by kernel_rfl) _ built_head0)<|rU 1 rfl (sA (frmh 0 0 0).flatten.toArray (frmL_size (frmL_sz rfl rfl rfl rfl rfl rfl)) (qT ch27 (qT ch25 (qT ch12 (Chg.hp ch11 (qO ch10 (qO ch9 (qO ch8 (qO ch7 (qO ch6 (qT ch5 (qO ch4 (qT ch3 hb1)))))))) ⟨by omega, ⟨by omega, trivial⟩⟩)))) (frmL_size (frmL_sz rfl rfl rfl rfl rfl rfl))) fun W29 hb16 ch28 zz28 => rP 2 5 (vI 5)<|eN<|tI<|?_
   have kk53 := kB (kA (kA (kA (kD kk11 ch11) ch12) ch25) ch27) ch28
   have hhd_ : Mur.Step (Mur.pSeq Mur.readK (Mur.pSeq Mur.readI Mur.readI)) b 0 false _ _ (v1, (v2, v3)) := hst1.seq (hst2.seq hst3)
   rcases hAlt1 with ⟨cc_, hcc_, hFe_, _⟩ | ⟨hkn_, hFe_, _, _⟩
   ·have hrf_ := hhd_.fra hcc_
    have hof_ : FF1 = Mur.ofFra ⟨v2, v3, cc_⟩ := hFe_
    have hkk_ : FF1.kind.toNat = (⟨v2, v3, cc_⟩ : Mur.Fra).con.kind := by rw [hof_]; exact kind_of _
    exact retF (vI 5) hb16 (frmL_size (frmL_sz rfl rfl rfl rfl rfl rfl)) ⟨headM 0 0 0, zs0, 5, rfl, lies_none rfl rfl rfl rfl rfl, ⟨sl0_in, sl0_in, sl0_in, sl0_in, sl0_in⟩, .inr (.inr (.inl ⟨rfl, rd_un (by omega) (by omega) hrf_ (by rw [← hkk_]; exact hpr1) (fun e_ => by rw [← hof_]; exact (fun q_ => Bool.noConfusion (hif2.2 q_))), rfl⟩)), kk53⟩
   exact retF (vI 5) hb16 (frmL_size (frmL_sz rfl rfl rfl rfl rfl rfl)) ⟨headM 0 0 0, zs0, 5, rfl, lies_none rfl rfl rfl rfl rfl, ⟨sl0_in, sl0_in, sl0_in, sl0_in, sl0_in⟩, .inr (.inr (.inl ⟨rfl, rd_none (by omega) hhd_ hkn_, rfl⟩)), kk53⟩
  refine rP 16 54 vF<|rP 17 55 vF<|rP 18 37 vF<|eN<|cF<|wp_seq<|?_
  refine dReg ([]) (by kernel_rfl) ?_
  intro W30 ch29 sz6
  have zz29 := ch29.size
  have sS4 : Chg ([]) W30 W30 := (Chg.refl _).more (by simp)
  refine dW 0 58 (pw W4 0) sS4<|dV 1 59 (vB FF1.kind.toNat) rfl rfl (fun w' hw' => fl 5 58 W4.heap.size 0 (vB FF1.kind.toNat) hI.sz (qT hw' (qT ch29 (qT ch27 (qT ch25 (qT ch12 hfr1))))) 0) sS4<|dO 2<|oK 60 (Tagged_any FF1.kind W30) ?_
  rw [decide_eq_false hpr1]
  rintro _ W31 ⟨rfl, ch30⟩
  have zz30 := ch30.size
  have sS5 := kA sS4 ch30
  refine aN sS5<|dW 3 61 vF sS5<|dZ 4 62 sS5<|dZ 5 63 sS5<|dZ 6 64 sS5<|dZ 7 65 sS5<|dZ 8 66 sS5<|dZ 9 67 sS5<|dZ 10 68 sS5<|dW 11 69 vF sS5<|dW 12 57 vF sS5<|dN<|cF<|wp_skip<|inN<|nxt<|sR<|rq 0 71 _ rfl (lA (qT ch30 (qT ch29 (qT ch27 (qT ch25 (qT ch12 hfr1))))) (frmL_size hI.sz))<|rU 1 rfl (sA (frmP FF1 ZZ1).flatten.toArray (frmL_size hI.sz) (qT ch30 (qT ch29 (qT ch27 (qT ch25 (qT ch12 (Chg.hp ch11 (qO ch10 (qO ch9 (qO ch8 (qO ch7 (qO ch6 (qT ch5 (qO ch4 (qT ch3 hb1)))))))) ⟨by omega, ⟨by omega, trivial⟩⟩)))))) (frmL_size (frmL_sz rfl rfl rfl rfl rfl rfl))) fun W32 hb17 ch31 zz31 => rP 2 5 (vI 0)<|eN<|wp_ret<|?_
  have hhd_ : Mur.Step (Mur.pSeq Mur.readK (Mur.pSeq Mur.readI Mur.readI)) b 0 false _ _ (v1, (v2, v3)) := hst1.seq (hst2.seq hst3)
  rcases hAlt1 with ⟨cc_, hcc_, hFe_, _⟩ | ⟨hkn_, hFe_, _, _⟩
  ·have hrf_ := hhd_.fra hcc_
   have hof_ : FF1 = Mur.ofFra ⟨v2, v3, cc_⟩ := hFe_
   have hkk_ : FF1.kind.toNat = (⟨v2, v3, cc_⟩ : Mur.Fra).con.kind := by rw [hof_]; exact kind_of _
   exact retF (vI 0) hb17 (frmL_size hI.sz) ⟨FF1, ZZ1, 0, rfl, (LiesF.chg hLs1 (kC (kA (kA (kA kk48 ch27) ch29) ch30) ch31) ⟨(fun g off e => fun _ => (by have h_ : W11.heap.size ≤ g := hZin1.1 g off e; exact ⟨by omega, ⟨by omega, trivial⟩⟩)), (fun g off e => fun _ => (by have h_ : W11.heap.size ≤ g := hZin1.2.1 g off e; exact ⟨by omega, ⟨by omega, trivial⟩⟩)), (fun g off e => fun _ => (by have h_ : W11.heap.size ≤ g := hZin1.2.2.1 g off e; exact ⟨by omega, ⟨by omega, trivial⟩⟩)), (fun g off e => fun _ => (by have h_ : W11.heap.size ≤ g := hZin1.2.2.2.1 g off e; exact ⟨by omega, ⟨by omega, trivial⟩⟩)), (fun g off e => fun _ => (by have h_ : W11.heap.size ≤ g := hZin1.2.2.2.2 g off e; exact ⟨by omega, ⟨by omega, trivial⟩⟩))⟩), ⟨fun g off e => by have h_ : W11.heap.size ≤ g := hZin1.1 g off e; show w.heap.size ≤ g; omega, fun g off e => by have h_ : W11.heap.size ≤ g := hZin1.2.1 g off e; show w.heap.size ≤ g; omega, fun g off e => by have h_ : W11.heap.size ≤ g := hZin1.2.2.1 g off e; show w.heap.size ≤ g; omega, fun g off e => by have h_ : W11.heap.size ≤ g := hZin1.2.2.2.1 g off e; show w.heap.size ≤ g; omega, fun g off e => by have h_ : W11.heap.size ≤ g := hZin1.2.2.2.2 g off e; show w.heap.size ≤ g; omega⟩, .inl ⟨rfl, (by rw [hof_]; exact Mur.rd_un_ok (by omega) hrf_ (by rw [← hkk_]; exact hpr1) (by omega) (by rw [← hof_]; exact (hif2.1 rfl))), hI⟩, (kB (kA (kA (kA (kA (kA (kD kk11 ch11) ch12) ch25) ch27) ch29) ch30) ch31)⟩
  exact absurd (hFe_ ▸ (hif2.1 rfl)) (may_head hkn_)
 refine rZ 5 43<|rZ 6 44<|rZ 7 45<|rZ 8 46<|rZ 9 47<|rZ 10 48<|rZ 11 49<|rP 12 50 vT<|rP 13 51 vT<|rZ 14 52<|rZ 15 53<|rZ 16 54<|rP 17 55 vT<|rP 18 37 vT<|eN<|cT<|sR<|rq 0 56 (.agg ((frmh 0 0 0).flatten.toArray)) rfl (run_built 38 _ rfl [] (by kernel_rfl) _ built_head0)<|rU 1 rfl (sA (frmh 0 0 0).flatten.toArray (frmL_size (frmL_sz rfl rfl rfl rfl rfl rfl)) (qT ch25 (qT ch12 (Chg.hp ch11 (qO ch10 (qO ch9 (qO ch8 (qO ch7 (qO ch6 (qT ch5 (qO ch4 (qT ch3 hb1)))))))) ⟨by omega, ⟨by omega, trivial⟩⟩))) (frmL_size (frmL_sz rfl rfl rfl rfl rfl rfl))) fun W33 hb18 ch32 zz32 => rP 2 5 (vI 5)<|eN<|tI<|?_
 have kk68 := kB (kA (kA (kD kk11 ch11) ch12) ch25) ch32
 have hhd_ : Mur.Step (Mur.pSeq Mur.readK (Mur.pSeq Mur.readI Mur.readI)) b 0 false _ _ (v1, (v2, v3)) := hst1.seq (hst2.seq hst3)
 rcases hAlt1 with ⟨cc_, hcc_, hFe_, _⟩ | ⟨hkn_, hFe_, _, _⟩
 ·have hrf_ := hhd_.fra hcc_
  have hof_ : FF1 = Mur.ofFra ⟨v2, v3, cc_⟩ := hFe_
  have hkk_ : FF1.kind.toNat = (⟨v2, v3, cc_⟩ : Mur.Fra).con.kind := by rw [hof_]; exact kind_of _
  exact retF (vI 5) hb18 (frmL_size (frmL_sz rfl rfl rfl rfl rfl rfl)) ⟨headM 0 0 0, zs0, 5, rfl, lies_none rfl rfl rfl rfl rfl, ⟨sl0_in, sl0_in, sl0_in, sl0_in, sl0_in⟩, .inr (.inr (.inl ⟨rfl, Mur.rd_bad (by omega) hrf_, rfl⟩)), kk68⟩
 exact retF (vI 5) hb18 (frmL_size (frmL_sz rfl rfl rfl rfl rfl rfl)) ⟨headM 0 0 0, zs0, 5, rfl, lies_none rfl rfl rfl rfl rfl, ⟨sl0_in, sl0_in, sl0_in, sl0_in, sl0_in⟩, .inr (.inr (.inl ⟨rfl, rd_none (by omega) hhd_ hkn_, rfl⟩)), kk68⟩
end Go.Proofs.YtgbadghjnpbiaaaGreatDoor
namespace Go.Proofs.YtgbadghjnpbiaaaGreatDoor
open Go.RowKit Wk
open Mur (b8s Byt Own8 Seg Segs flat cutA attC Att SlA OwnA rowA msgC Frm Zs LiesF FrmIn mayFM frmP bodyFM segs_cell frmL_sz conv_int i64_nat u64n formN slr_lt body_le own8_low segs_rng msg_kind byt_chg byt_blt b8s_length newOr_own segs_row bytesFM frmL_size)
set_option maxRecDepth 100000
set_option maxHeartbeats 4000000
theorem Body_any (f : Frm) (z : Zs) (w : World) (hL : LiesF w z f) (hI : FrmIn f) (hm : mayFM f) : Calls Tryz.prog 16 #[.agg (frmP f z).flatten.toArray] w fun e w' => ∃ A1 n1 c1, e = .returned (.slice A1 n1 c1) ∧ Own8 w' w.heap.size 5 A1 n1 c1 (bodyFM f) ∧ n1 ≤ 1900 ∧ Chg [] w w' := by
 have hLin_ : z.In fun g => g < w.heap.size → Wk.Off g [] := ⟨fun _ _ _ _ => trivial, fun _ _ _ _ => trivial, fun _ _ _ _ => trivial, fun _ _ _ _ => trivial, fun _ _ _ _ => trivial⟩
 have hLunc_ := hL.nu.nc
 have hLucm_ := hL.nu.cm
 have hLpnc_ := hL.np.nc
 have hLpcm_ := hL.np.cm
 have hLinc_ := hL.ni.nc
 have hLicm_ := hL.ni.cm
 have hLync_ := hL.ny.nc
 have hLycm_ := hL.ny.cm
 have hLfnc_ := hL.nf.nc
 have hLfcm_ := hL.nf.cm
 have hpk8_ := f.pKind.toNat_lt
 have hgk8_ := f.gos.kind.toNat_lt
 have hfk8_ := f.kind.toNat_lt
 have hul_ := hL.upd.len
 rw [List.length_map] at hul_
 have hil_ := hL.its.len
 have hfl_ := hL.prf.len
 rw [List.length_map] at hfl_
 have hpl_ := hL.pre.1
 have hyl_ := hL.byt.1
 have hkm_ := Mur.kind_may hm
 have hH4_ : Mur.nodeM f.frm ∧ Mur.nodeM f.dst ∧ f.frm ≠ f.dst ∧ f = Mur.bareM f := ⟨hm.1, hm.2.1, hm.2.2.1, hm.2.2.2.1⟩
 refine calls_of_wp Tryz.func16 rfl ?_
 refine sR<|nW 0 1 ((frmP f z).flatten.toArray) 38 fun W1 hb1 ch1 sz1 => rP 1 2 (.slice none 0 0)<|eN<|sR<|rP 0 5 (.agg #[.slice none 0 0])<|nW 1 6 #[.slice none 0 0] 79 fun W2 hb2 ch2 sz2 => rP 2 3 (pw W1 0)<|eN<|sR<|rP 0 7 (pw W1 0)<|rP 1 8 (pw w 0)<|rF 2 9 0 (vB f.kind.toNat) hI.sz (qT ch2 hb1) 0<|rq 3 10 (vI f.kind.toNat) rfl (conv_int 5 3 (.tmp 9) rfl (by kernel_rfl) .i64 Tryz.underlying3 .u8 (f.kind.toNat : Int) (by kernel_rfl) (i64_nat (n := f.kind.toNat) (by omega)))<|rP 4 11 (pw w 1)<|rF 5 12 1 (vI f.frm) hI.sz (qT ch2 hb1) 1<|rP 6 13 (pw w 2)<|rF 7 14 2 (vI f.dst) hI.sz (qT ch2 hb1) 2<|nS 8 15 3 #[vI f.kind.toNat, vI f.frm, vI f.dst] 3 fun W3 hb3 ch3 sz3 => rK 9 16 (Wint3_any W1.heap.size (W1.heap.size + 1) none 0 0 ([]) W2.heap.size (f.kind.toNat : Int) f.frm f.dst W3 (qT ch3 hb2) ⟨by omega, by omega⟩ (oA (Mur.own8_none W2 (W1.heap.size + 1) 5) ch3) (by omega) hb3 (by omega)) ?_
 rintro _ W4 ⟨AA1, nn1, cc1, rfl, hgw1, ow3, hle1, ch4⟩
 have zz4 := ch4.size
 have hq1 := ow3.nc
 have hq2 := ow3.cm
 have hq3 := ow3.byt.1
 refine eN<|wp_seq<|sR<|rP 0 17 (pw w 0)<|rF 1 18 0 (vB f.kind.toNat) hI.sz (qO ch4 (qT ch3 (qT ch2 hb1))) 0<|eN<|wp_block<|sR<|?_
 by_cases hx1 : (f.kind.toNat : Int) = (1 : Int)
 ·refine eT 0 20 (f.kind.toNat : Int) (1 : Int)<|rP 1 19 vT<|eN<|cT<|sR<|?_
  have hk_ : f.kind = 1 := kI 1
  have hmk_ := (Mur.mayFM_1 hH4_ hk_).1 hm
  have hu8_ := hmk_.2.2.2.1
  refine rP 0 21 (pw W1 0)<|rP 1 22 (pw w 3)<|rP 2 23 (pw w 4)<|rF 3 24 4 (vB f.pKind.toNat) hI.sz (qO ch4 (qT ch3 (qT ch2 hb1))) 4<|rq 4 25 (vU f.pKind.toNat) rfl (conv_int 5 23 (.tmp 24) rfl (by kernel_rfl) .u64 Tryz.underlying23 .u8 (f.pKind.toNat : Int) (by kernel_rfl) (Mur.u64_nat (n := f.pKind.toNat) (by omega)))<|rP 5 26 (pw w 3)<|rP 6 27 (pw w 5)<|rF 7 28 5 (vU f.pSeq) hI.sz (qO ch4 (qT ch3 (qT ch2 hb1))) 5<|rP 8 29 (pw w 3)<|rP 9 30 (pw w 6)<|rF 10 31 6 (vI f.pAbout) hI.sz (qO ch4 (qT ch3 (qT ch2 hb1))) 6<|rq 11 32 (vU (u64n f.pAbout : Nat)) rfl (Mur.conv_u64n 3 23 (.tmp 31) rfl (by kernel_rfl) Tryz.underlying23 .i64 f.pAbout (by kernel_rfl))<|nS 12 33 3 #[vU f.pKind.toNat, vU f.pSeq, vU (u64n f.pAbout : Nat)] 23 fun W5 hb4 ch5 sz4 => rK 13 34 (Wuint3_any W1.heap.size W3.heap.size AA1 nn1 cc1 (([]) ++ formN (u64n (f.kind.toNat : Int)) ++ formN (u64n f.frm) ++ formN (u64n f.dst)) W4.heap.size f.pKind.toNat f.pSeq (u64n f.pAbout) W5 (qT ch5 hgw1) ⟨by omega, by omega⟩ (oA ow3 ch5) (by omega) hb4 (by omega) (by have := f.pKind.toNat_lt; omega) hI.ok.seq (Mur.u64n_lt _)) ?_
  rintro _ W6 ⟨AA2, nn2, cc2, rfl, hgw2, ow5, hle2, ch6⟩
  have zz6 := ch6.size
  have hq4 := ow5.nc
  have hq5 := ow5.cm
  have hq6 := ow5.byt.1
  refine eN<|reg<|rP 0 35 (pw W1 0)<|rP 1 36 (pw w 3)<|rP 2 37 (pw w 7)<|rF 3 38 7 (.slice z.u.A z.u.n z.u.c) hI.sz (qO ch6 (qT ch5 (qO ch4 (qT ch3 (qT ch2 hb1))))) 7<|rP 4 39 (pw W1 0)<|rP 5 40 (.func (.func 44) #[pw W1 0] #[]) ?_
  have kk6 := kB (kA (kB (kA (kA (zA ch1 : Chg [] w W1) ch2) ch3) ch4) ch5) ch6
  refine rK 6 41 (WListU_any W1.heap.size W5.heap.size AA2 nn2 cc2 (([]) ++ formN (u64n (f.kind.toNat : Int)) ++ formN (u64n f.frm) ++ formN (u64n f.dst) ++ formN f.pKind.toNat ++ formN f.pSeq ++ formN (u64n f.pAbout)) f.pUpd z.u.A z.u.n z.u.c W6 hgw2 ⟨by omega, by omega⟩ ow5 (by omega) (LiesF.chg hL kk6 hLin_).upd (fun u_ h_ => hI.ok.upd u_ h_) (by omega) (fun g2 off e_ hn_ => by have h_ := slr_lt hL.upd (by decide) e_ hn_; omega)) ?_
  rintro _ W7 ⟨AA3, nn3, cc3, rfl, hgw3, ow6, hle3, ch7⟩
  have zz7 := ch7.size
  have hq7 := ow6.nc
  have hq8 := ow6.cm
  have hq9 := ow6.byt.1
  refine rE<|inN<|nxt<|sR<|rP 0 137 (pw W1 0)<|rP 1 138 (pw W1 0)<|rP 2 139 (pw W1 0)<|rL 3 140 0 (.slice AA3 nn3 cc3) hgw3<|rP 4 2 (.slice AA3 nn3 cc3)<|eN<|wp_ret<|?_
  have hH_ := ow6
  rw [List.nil_append, Mur.bodyB_1 hm hk_] at hH_
  have hbd_ := body_le hm hI.ok
  have hbl_ := hH_.byt.1
  exact rt (.slice AA3 nn3 cc3) ⟨_, _, _, rfl, own8_low hH_ (by omega), by omega, (kB kk6 ch7)⟩
 refine eF 0 20 (f.kind.toNat : Int) (1 : Int)<|rP 1 19 vF<|eN<|cF<|sR<|?_
 by_cases hx2 : (f.kind.toNat : Int) = (2 : Int)
 ·refine eT 0 43 (f.kind.toNat : Int) (2 : Int)<|rP 1 42 vT<|eN<|cT<|sR<|?_
  have hk_ : f.kind = 2 := kI 2
  have hmk_ := (Mur.mayFM_2 hH4_ hk_).1 hm
  have hp8_ := Mur.pre_len hmk_.1
  have hi8_ := hmk_.2.2.2.1
  refine rP 0 44 (pw w 8)<|rq 1 45 _ rfl (lR 8 (Mur.msgC f.gos.kind z.p.A z.p.n z.p.c f.gos.sum f.gos.cnt z.i.A z.i.n z.i.c f.gos.ans) (sgR hI.sz (qO ch4 (qT ch3 (qT ch2 hb1))) 8 6 rfl) (by rw [Mur.msgC_length hI.ok.sum]; kernel_rfl))<|nW 2 4 ZM 31 fun W8 hb5 ch8 sz5 => rU 3 rfl (sB (Mur.msgC f.gos.kind z.p.A z.p.n z.p.c f.gos.sum f.gos.cnt z.i.A z.i.n z.i.c f.gos.ans).toArray (Mur.msgC_size hI.ok.sum) Mur.msgC_all hb5 (by kernel_rfl)) fun W10 hb6 ch9 zz9 => eN<|sR<|rP 0 46 (pw W1 0)<|rP 1 47 (pw W4 0)<|rq 2 48 _ rfl (ld 5 47 W4.heap.size 0 (vB f.gos.kind.toNat) (show World.cell? _ ⟨_, 0 + 0, _⟩ = _ from msg_kind (range_row hb6)))<|rq 3 49 (vI f.gos.kind.toNat) rfl (conv_int 5 3 (.tmp 48) rfl (by kernel_rfl) .i64 Tryz.underlying3 .u8 (f.gos.kind.toNat : Int) (by kernel_rfl) (i64_nat (n := f.gos.kind.toNat) (by omega)))<|nS 4 50 1 #[vI f.gos.kind.toNat] 3 fun W11 hb7 ch10 sz6 => rK 5 51 (Wint1_any W1.heap.size W3.heap.size AA1 nn1 cc1 (([]) ++ formN (u64n (f.kind.toNat : Int)) ++ formN (u64n f.frm) ++ formN (u64n f.dst)) W10.heap.size (f.gos.kind.toNat : Int) W11 (qT ch10 (qO ch9 (qT ch8 hgw1))) ⟨by omega, by omega⟩ (oA (oB (oA ow3 ch8) ch9 ow3.lt) ch10) (by omega) hb7 (by omega)) ?_
  rintro _ W12 ⟨AA4, nn4, cc4, rfl, hgw4, ow10, hle4, ch11⟩
  have zz11 := ch11.size
  have hq10 := ow10.nc
  have hq11 := ow10.cm
  have hq12 := ow10.byt.1
  refine eN<|sR<|rP 0 52 (pw W1 0)<|rP 1 53 (pw W4 1)<|rq 2 54 _ rfl (ld 22 53 W4.heap.size 1 (.slice z.p.A z.p.n z.p.c) (show World.cell? _ ⟨_, 0 + 1, _⟩ = _ from Mur.msg_pre (range_row (qO ch11 (qT ch10 hb6))))) ?_
  have kk15 := kB (kA (kB (kA (kB (kA (kA (zA ch1 : Chg [] w W1) ch2) ch3) ch4) ch8) ch9) ch10) ch11
  refine rK 3 55 (Wbytes_any W1.heap.size W11.heap.size AA4 nn4 cc4 (([]) ++ formN (u64n (f.kind.toNat : Int)) ++ formN (u64n f.frm) ++ formN (u64n f.dst) ++ formN (u64n (f.gos.kind.toNat : Int))) f.gos.pre z.p.A z.p.n z.p.c W12 hgw4 ⟨by omega, by omega⟩ ow10 (by omega) (byt_chg hL.pre kk15 (fun g off e hl => trivial)) ⟨by omega, by omega⟩ hL.np.nil (by omega) (fun g2 off e_ hn_ => by have h_ := byt_blt hL.pre e_ hn_; omega)) ?_
  rintro _ W13 ⟨AA5, nn5, cc5, rfl, hgw5, ow11, hle5, ch12⟩
  have zz12 := ch12.size
  have kk16 := kB kk15 ch12
  have hq13 := ow11.nc
  have hq14 := ow11.cm
  have hq15 := ow11.byt.1
  refine eN<|sR<|rP 0 56 (pw W4 0)<|rq 1 57 _ rfl (ld 5 56 W4.heap.size 0 (vB f.gos.kind.toNat) (show World.cell? _ ⟨_, 0 + 0, _⟩ = _ from msg_kind (range_row (qO ch12 (qO ch11 (qT ch10 hb6)))))) ?_
  by_cases hx3 : (f.gos.kind.toNat : Int) = (1 : Int)
  ·refine eT 2 58 (f.gos.kind.toNat : Int) (1 : Int)<|eN<|cT<|sR<|rP 0 59 (pw W1 0)<|rP 1 60 (pw W4 2)<|rq 2 61 _ rfl (lR 2 (b8s f.gos.sum) (show World.rangeAt _ _ (0 + 2) _ from Mur.msg_sum (range_row (qO ch12 (qO ch11 (qT ch10 hb6))))) (by rw [b8s_length, hI.ok.sum]; kernel_rfl))<|rK 3 62 (Wdigest_any W1.heap.size W12.heap.size AA5 nn5 cc5 (([]) ++ formN (u64n (f.kind.toNat : Int)) ++ formN (u64n f.frm) ++ formN (u64n f.dst) ++ formN (u64n (f.gos.kind.toNat : Int)) ++ (formN f.gos.pre.length ++ f.gos.pre)) f.gos.sum W13 hgw5 ⟨by omega, by omega⟩ ow11 (by omega) hI.ok.sum) ?_
   rintro _ W14 ⟨AA6, nn6, cc6, rfl, hgw6, ow12, hle6, ch13⟩
   have lto1 := ow11.lt
   have zz13 := ch13.size
   have hq16 := ow12.nc
   have hq17 := ow12.cm
   have hq18 := ow12.byt.1
   refine eN<|reg<|rP 0 63 (pw W1 0)<|rP 1 64 (pw W4 34)<|rq 2 65 _ rfl (ld 3 64 W4.heap.size 34 (vI f.gos.cnt) (show World.cell? _ ⟨_, 0 + 34, _⟩ = _ from Mur.msg_cnt hI.ok.sum (range_row (Chg.hp ch13 (qO ch12 (qO ch11 (qT ch10 hb6))) ⟨by omega, (off_blk (fun gz hgz => by have := lto1 gz hgz; omega))⟩))))<|nS 3 66 1 #[vI f.gos.cnt] 3 fun W15 hb8 ch14 sz7 => rK 4 67 (Wint1_any W1.heap.size W12.heap.size AA6 nn6 cc6 (([]) ++ formN (u64n (f.kind.toNat : Int)) ++ formN (u64n f.frm) ++ formN (u64n f.dst) ++ formN (u64n (f.gos.kind.toNat : Int)) ++ (formN f.gos.pre.length ++ f.gos.pre) ++ f.gos.sum) W14.heap.size f.gos.cnt W15 (qT ch14 hgw6) ⟨by omega, by omega⟩ (oA ow12 ch14) (by omega) hb8 (by omega)) ?_
   rintro _ W16 ⟨AA7, nn7, cc7, rfl, hgw7, ow14, hle7, ch15⟩
   have zz15 := ch15.size
   have hq19 := ow14.nc
   have hq20 := ow14.cm
   have hq21 := ow14.byt.1
   refine rE<|inN<|nxt<|sR<|rP 0 137 (pw W1 0)<|rP 1 138 (pw W1 0)<|rP 2 139 (pw W1 0)<|rL 3 140 0 (.slice AA7 nn7 cc7) hgw7<|rP 4 2 (.slice AA7 nn7 cc7)<|eN<|wp_ret<|?_
   have hH_ := ow14
   have hgk_ : f.gos.kind = 1 := kI 1
   rw [List.nil_append, Mur.bodyB_2s hm hk_ hgk_] at hH_
   have hbd_ := body_le hm hI.ok
   have hbl_ := hH_.byt.1
   exact rt (.slice AA7 nn7 cc7) ⟨_, _, _, rfl, own8_low hH_ (by omega), by omega, (kB (kA (Chg.step kk16 ch13 (newOr_own (.inr (by omega)) (fun gz hgz => by have := lto1 gz hgz; omega))) ch14) ch15)⟩
  refine eF 2 58 (f.gos.kind.toNat : Int) (1 : Int)<|eN<|cF<|sR<|rP 0 68 (pw W1 0)<|rP 1 69 (pw W4 35)<|rq 2 70 _ rfl (ld 29 69 W4.heap.size 35 (.slice z.i.A z.i.n z.i.c) (show World.cell? _ ⟨_, 0 + 35, _⟩ = _ from Mur.msg_items hI.ok.sum (range_row (qO ch12 (qO ch11 (qT ch10 hb6))))))<|rP 3 71 (pw W1 0)<|rP 4 72 (.func (.func 48) #[pw W1 0] #[])<|rK 5 73 (WListA_any W1.heap.size W12.heap.size AA5 nn5 cc5 (([]) ++ formN (u64n (f.kind.toNat : Int)) ++ formN (u64n f.frm) ++ formN (u64n f.dst) ++ formN (u64n (f.gos.kind.toNat : Int)) ++ (formN f.gos.pre.length ++ f.gos.pre)) f.gos.items z.i.A z.i.n z.i.c W13 hgw5 ⟨by omega, by omega⟩ ow11 (by omega) (LiesF.chg hL kk16 hLin_).its.slR (fun x_ h_ => (hmk_.2.2.2.2.resolve_left (fun q_ => by have h2_ : f.gos.kind.toNat = 1 := congrArg UInt8.toNat q_.1; omega)).2.1 x_ h_ |>.1) (by omega) (fun g2 off e_ hn_ => by have h_ := slr_lt hL.its.slR (by decide) e_ hn_; omega)) ?_
  rintro _ W17 ⟨AA8, nn8, cc8, rfl, hgw8, ow15, hle8, ch16⟩
  have zz16 := ch16.size
  have hq22 := ow15.nc
  have hq23 := ow15.cm
  have hq24 := ow15.byt.1
  refine eN<|reg<|rP 0 74 (pw W1 0)<|rP 1 75 (pw W4 36)<|rq 2 76 _ rfl (ld 4 75 W4.heap.size 36 (.bool f.gos.ans) (show World.cell? _ ⟨_, 0 + 36, _⟩ = _ from Mur.msg_ans hI.ok.sum (range_row (qO ch16 (qO ch12 (qO ch11 (qT ch10 hb6)))))))<|rK 3 77 (Wflag_any W1.heap.size W13.heap.size AA8 nn8 cc8 (([]) ++ formN (u64n (f.kind.toNat : Int)) ++ formN (u64n f.frm) ++ formN (u64n f.dst) ++ formN (u64n (f.gos.kind.toNat : Int)) ++ (formN f.gos.pre.length ++ f.gos.pre) ++ (formN f.gos.items.length ++ (f.gos.items.map Att.raw).flatten)) f.gos.ans W17 hgw8 ⟨by omega, by omega⟩ ow15 (by omega)) ?_
  rintro _ W18 ⟨AA9, nn9, cc9, rfl, hgw9, ow16, hle9, ch17⟩
  have zz17 := ch17.size
  have hq25 := ow16.nc
  have hq26 := ow16.cm
  have hq27 := ow16.byt.1
  refine rE<|inN<|nxt<|sR<|rP 0 137 (pw W1 0)<|rP 1 138 (pw W1 0)<|rP 2 139 (pw W1 0)<|rL 3 140 0 (.slice AA9 nn9 cc9) hgw9<|rP 4 2 (.slice AA9 nn9 cc9)<|eN<|wp_ret<|?_
  have hH_ := ow16
  have hgk_ : ¬ f.gos.kind = 1 := fun e_ => by have h_ : f.gos.kind.toNat = 1 := congrArg UInt8.toNat e_; omega
  rw [List.nil_append, Mur.bodyB_2i hm hk_ hgk_] at hH_
  have hbd_ := body_le hm hI.ok
  have hbl_ := hH_.byt.1
  exact rt (.slice AA9 nn9 cc9) ⟨_, _, _, rfl, own8_low hH_ (by omega), by omega, (kB (kB kk16 ch16) ch17)⟩
 refine eF 0 43 (f.kind.toNat : Int) (2 : Int)<|rP 1 42 vF<|eN<|cF<|sR<|?_
 by_cases hx4 : (f.kind.toNat : Int) = (3 : Int)
 ·refine eT 0 79 (f.kind.toNat : Int) (3 : Int)<|rP 1 78 vT<|eN<|cT<|sR<|?_
  have hk_ : f.kind = 3 := kI 3
  have hmk_ := (Mur.mayFM_3 hH4_ hk_).1 hm
  refine rP 0 80 (pw W1 0)<|rP 1 81 (pw w 45)<|rP 2 82 (pw w 45)<|rq 3 83 _ rfl (lR 45 (b8s f.cKey) (sgW hI.sz (qO ch4 (qT ch3 (qT ch2 hb1))) 14) (by rw [b8s_length, hI.ok.key]; kernel_rfl))<|rK 4 84 (Wdigest_any W1.heap.size W3.heap.size AA1 nn1 cc1 (([]) ++ formN (u64n (f.kind.toNat : Int)) ++ formN (u64n f.frm) ++ formN (u64n f.dst)) f.cKey W4 hgw1 ⟨by omega, by omega⟩ ow3 (by omega) hI.ok.key) ?_
  rintro _ W19 ⟨AA10, nn10, cc10, rfl, hgw10, ow17, hle10, ch18⟩
  have lto2 := ow3.lt
  have zz18 := ch18.size
  have hq28 := ow17.nc
  have hq29 := ow17.cm
  have hq30 := ow17.byt.1
  refine eN<|sR<|rP 0 85 (pw W1 0)<|rP 1 86 (pw w 45)<|rP 2 87 (pw w 78)<|rF 3 88 78 (vU f.cInc) hI.sz (Chg.hp ch18 (qO ch4 (qT ch3 (qT ch2 hb1))) ⟨by omega, (off_blk (fun gz hgz => by have := lto2 gz hgz; omega))⟩) 16<|rP 4 89 (pw w 45)<|rP 5 90 (pw w 79)<|rF 6 91 79 (vU f.cCnt) hI.sz (Chg.hp ch18 (qO ch4 (qT ch3 (qT ch2 hb1))) ⟨by omega, (off_blk (fun gz hgz => by have := lto2 gz hgz; omega))⟩) 17<|nS 7 92 2 #[vU f.cInc, vU f.cCnt] 23 fun W20 hb9 ch19 sz8 => rK 8 93 (Wuint2_any W1.heap.size W3.heap.size AA10 nn10 cc10 (([]) ++ formN (u64n (f.kind.toNat : Int)) ++ formN (u64n f.frm) ++ formN (u64n f.dst) ++ f.cKey) W19.heap.size f.cInc f.cCnt W20 (qT ch19 hgw10) ⟨by omega, by omega⟩ (oA ow17 ch19) (by omega) hb9 (by omega) hI.ok.inc hI.ok.cnt) ?_
  rintro _ W21 ⟨AA11, nn11, cc11, rfl, hgw11, ow19, hle11, ch20⟩
  have zz20 := ch20.size
  have hq31 := ow19.nc
  have hq32 := ow19.cm
  have hq33 := ow19.byt.1
  refine eN<|reg<|rP 0 94 (pw W1 0)<|rP 1 95 (pw w 45)<|rP 2 96 (pw w 80)<|rF 3 97 80 (.bool f.cGone) hI.sz (qO ch20 (qT ch19 (Chg.hp ch18 (qO ch4 (qT ch3 (qT ch2 hb1))) ⟨by omega, (off_blk (fun gz hgz => by have := lto2 gz hgz; omega))⟩))) 18<|rK 4 98 (Wflag_any W1.heap.size W20.heap.size AA11 nn11 cc11 (([]) ++ formN (u64n (f.kind.toNat : Int)) ++ formN (u64n f.frm) ++ formN (u64n f.dst) ++ f.cKey ++ formN f.cInc ++ formN f.cCnt) f.cGone W21 hgw11 ⟨by omega, by omega⟩ ow19 (by omega)) ?_
  rintro _ W22 ⟨AA12, nn12, cc12, rfl, hgw12, ow20, hle12, ch21⟩
  have zz21 := ch21.size
  have hq34 := ow20.nc
  have hq35 := ow20.cm
  have hq36 := ow20.byt.1
  refine rE<|inN<|nxt<|sR<|rP 0 137 (pw W1 0)<|rP 1 138 (pw W1 0)<|rP 2 139 (pw W1 0)<|rL 3 140 0 (.slice AA12 nn12 cc12) hgw12<|rP 4 2 (.slice AA12 nn12 cc12)<|eN<|wp_ret<|?_
  have hH_ := ow20
  rw [List.nil_append, Mur.bodyB_3 hm hk_] at hH_
  have hbd_ := body_le hm hI.ok
  have hbl_ := hH_.byt.1
  exact rt (.slice AA12 nn12 cc12) ⟨_, _, _, rfl, own8_low hH_ (by omega), by omega, (kB (kB (kA (Chg.step (kB (kA (kA (zA ch1 : Chg [] w W1) ch2) ch3) ch4) ch18 (newOr_own (.inr (by omega)) (fun gz hgz => by have := lto2 gz hgz; omega))) ch19) ch20) ch21)⟩
 refine eF 0 79 (f.kind.toNat : Int) (3 : Int)<|rP 1 78 vF<|eN<|cF<|sR<|?_
 by_cases hx5 : (f.kind.toNat : Int) = (4 : Int)
 ·refine eT 0 100 (f.kind.toNat : Int) (4 : Int)<|rP 1 99 vT<|eN<|cT<|reg<|?_
  have hk_ : f.kind = 4 := kI 4
  have hmk_ := (Mur.mayFM_4 hH4_ hk_).1 hm
  refine rP 0 101 (pw W1 0)<|rP 1 102 (pw w 81)<|rq 2 103 _ rfl (lR 81 (Mur.attC f.att.k f.att.r f.att.n f.att.t) (sgR hI.sz (qO ch4 (qT ch3 (qT ch2 hb1))) 19 4 Mur.frmL_att) (by rw [Mur.attC_length f.att.hk f.att.hr f.att.ht]; kernel_rfl))<|rK 3 104 (Wattest_any W1.heap.size W3.heap.size AA1 nn1 cc1 (([]) ++ formN (u64n (f.kind.toNat : Int)) ++ formN (u64n f.frm) ++ formN (u64n f.dst)) f.att W4 hgw1 ⟨by omega, by omega⟩ ow3 (by omega) hmk_) ?_
  rintro _ W23 ⟨AA13, nn13, cc13, rfl, hgw13, ow21, hle13, ch22⟩
  have lto3 := ow3.lt
  have zz22 := ch22.size
  have hq37 := ow21.nc
  have hq38 := ow21.cm
  have hq39 := ow21.byt.1
  refine rE<|inN<|nxt<|sR<|rP 0 137 (pw W1 0)<|rP 1 138 (pw W1 0)<|rP 2 139 (pw W1 0)<|rL 3 140 0 (.slice AA13 nn13 cc13) hgw13<|rP 4 2 (.slice AA13 nn13 cc13)<|eN<|wp_ret<|?_
  have hH_ := ow21
  rw [List.nil_append, Mur.bodyB_4 hm hk_] at hH_
  have hbd_ := body_le hm hI.ok
  have hbl_ := hH_.byt.1
  exact rt (.slice AA13 nn13 cc13) ⟨_, _, _, rfl, own8_low hH_ (by omega), by omega, (Chg.step (kB (kA (kA (zA ch1 : Chg [] w W1) ch2) ch3) ch4) ch22 (newOr_own (.inr (by omega)) (fun gz hgz => by have := lto3 gz hgz; omega)))⟩
 refine eF 0 100 (f.kind.toNat : Int) (4 : Int)<|rP 1 99 vF<|eN<|cF<|sR<|?_
 by_cases hx6 : (f.kind.toNat : Int) = (5 : Int)
 ·refine eT 0 106 (f.kind.toNat : Int) (5 : Int)<|rP 1 105 vT<|eN<|cT<|sR<|?_
  have hk_ : f.kind = 5 := kI 5
  have hmk_ := (Mur.mayFM_5 hH4_ hk_).1 hm
  refine rP 0 107 (pw W1 0)<|rP 1 108 (pw w 178)<|rq 2 109 _ rfl (lR 178 (b8s f.root) (sgW hI.sz (qO ch4 (qT ch3 (qT ch2 hb1))) 23) (by rw [b8s_length, hI.ok.root]; kernel_rfl))<|rK 3 110 (Wdigest_any W1.heap.size W3.heap.size AA1 nn1 cc1 (([]) ++ formN (u64n (f.kind.toNat : Int)) ++ formN (u64n f.frm) ++ formN (u64n f.dst)) f.root W4 hgw1 ⟨by omega, by omega⟩ ow3 (by omega) hI.ok.root) ?_
  rintro _ W24 ⟨AA14, nn14, cc14, rfl, hgw14, ow22, hle14, ch23⟩
  have lto4 := ow3.lt
  have zz23 := ch23.size
  have hq40 := ow22.nc
  have hq41 := ow22.cm
  have hq42 := ow22.byt.1
  refine eN<|reg<|rP 0 111 (pw W1 0)<|rP 1 112 (pw w 210)<|rF 2 113 210 (vI f.chunk) hI.sz (Chg.hp ch23 (qO ch4 (qT ch3 (qT ch2 hb1))) ⟨by omega, (off_blk (fun gz hgz => by have := lto4 gz hgz; omega))⟩) 24<|nS 3 114 1 #[vI f.chunk] 3 fun W25 hb10 ch24 sz9 => rK 4 115 (Wint1_any W1.heap.size W3.heap.size AA14 nn14 cc14 (([]) ++ formN (u64n (f.kind.toNat : Int)) ++ formN (u64n f.frm) ++ formN (u64n f.dst) ++ f.root) W24.heap.size f.chunk W25 (qT ch24 hgw14) ⟨by omega, by omega⟩ (oA ow22 ch24) (by omega) hb10 (by omega)) ?_
  rintro _ W26 ⟨AA15, nn15, cc15, rfl, hgw15, ow24, hle15, ch25⟩
  have zz25 := ch25.size
  have hq43 := ow24.nc
  have hq44 := ow24.cm
  have hq45 := ow24.byt.1
  refine rE<|inN<|nxt<|sR<|rP 0 137 (pw W1 0)<|rP 1 138 (pw W1 0)<|rP 2 139 (pw W1 0)<|rL 3 140 0 (.slice AA15 nn15 cc15) hgw15<|rP 4 2 (.slice AA15 nn15 cc15)<|eN<|wp_ret<|?_
  have hH_ := ow24
  rw [List.nil_append, Mur.bodyB_5 hm hk_] at hH_
  have hbd_ := body_le hm hI.ok
  have hbl_ := hH_.byt.1
  exact rt (.slice AA15 nn15 cc15) ⟨_, _, _, rfl, own8_low hH_ (by omega), by omega, (kB (kA (Chg.step (kB (kA (kA (zA ch1 : Chg [] w W1) ch2) ch3) ch4) ch23 (newOr_own (.inr (by omega)) (fun gz hgz => by have := lto4 gz hgz; omega))) ch24) ch25)⟩
 refine eF 0 106 (f.kind.toNat : Int) (5 : Int)<|rP 1 105 vF<|eN<|cF<|sR<|?_
 by_cases hx7 : (f.kind.toNat : Int) = (6 : Int)
 ·refine eT 0 117 (f.kind.toNat : Int) (6 : Int)<|rP 1 116 vT<|eN<|cT<|sR<|?_
  have hk_ : f.kind = 6 := kI 6
  have hmk_ := (Mur.mayFM_6 hH4_ hk_).1 hm
  have hy6_ := hmk_.2.1
  have hf6_ := hmk_.2.2
  refine rP 0 118 (pw W1 0)<|rP 1 119 (pw w 178)<|rq 2 120 _ rfl (lR 178 (b8s f.root) (sgW hI.sz (qO ch4 (qT ch3 (qT ch2 hb1))) 23) (by rw [b8s_length, hI.ok.root]; kernel_rfl))<|rK 3 121 (Wdigest_any W1.heap.size W3.heap.size AA1 nn1 cc1 (([]) ++ formN (u64n (f.kind.toNat : Int)) ++ formN (u64n f.frm) ++ formN (u64n f.dst)) f.root W4 hgw1 ⟨by omega, by omega⟩ ow3 (by omega) hI.ok.root) ?_
  rintro _ W27 ⟨AA16, nn16, cc16, rfl, hgw16, ow25, hle16, ch26⟩
  have lto5 := ow3.lt
  have zz26 := ch26.size
  have hq46 := ow25.nc
  have hq47 := ow25.cm
  have hq48 := ow25.byt.1
  refine eN<|sR<|rP 0 122 (pw W1 0)<|rP 1 123 (pw w 210)<|rF 2 124 210 (vI f.chunk) hI.sz (Chg.hp ch26 (qO ch4 (qT ch3 (qT ch2 hb1))) ⟨by omega, (off_blk (fun gz hgz => by have := lto5 gz hgz; omega))⟩) 24<|nS 3 125 1 #[vI f.chunk] 3 fun W28 hb11 ch27 sz10 => rK 4 126 (Wint1_any W1.heap.size W3.heap.size AA16 nn16 cc16 (([]) ++ formN (u64n (f.kind.toNat : Int)) ++ formN (u64n f.frm) ++ formN (u64n f.dst) ++ f.root) W27.heap.size f.chunk W28 (qT ch27 hgw16) ⟨by omega, by omega⟩ (oA ow25 ch27) (by omega) hb11 (by omega)) ?_
  rintro _ W29 ⟨AA17, nn17, cc17, rfl, hgw17, ow27, hle17, ch28⟩
  have zz28 := ch28.size
  have hq49 := ow27.nc
  have hq50 := ow27.cm
  have hq51 := ow27.byt.1
  refine eN<|sR<|rP 0 127 (pw W1 0)<|rP 1 128 (pw w 211)<|rF 2 129 211 (.slice z.y.A z.y.n z.y.c) hI.sz (qO ch28 (qT ch27 (Chg.hp ch26 (qO ch4 (qT ch3 (qT ch2 hb1))) ⟨by omega, (off_blk (fun gz hgz => by have := lto5 gz hgz; omega))⟩))) 25 ?_
  have kk48 := kB (kA (Chg.step (kB (kA (kA (zA ch1 : Chg [] w W1) ch2) ch3) ch4) ch26 (newOr_own (.inr (by omega)) (fun gz hgz => by have := lto5 gz hgz; omega))) ch27) ch28
  refine rK 3 130 (Wbytes_any W1.heap.size W28.heap.size AA17 nn17 cc17 (([]) ++ formN (u64n (f.kind.toNat : Int)) ++ formN (u64n f.frm) ++ formN (u64n f.dst) ++ f.root ++ formN (u64n f.chunk)) f.byt z.y.A z.y.n z.y.c W29 hgw17 ⟨by omega, by omega⟩ ow27 (by omega) (byt_chg hL.byt kk48 (fun g off e hl => trivial)) ⟨by omega, by omega⟩ hL.ny.nil (by omega) (fun g2 off e_ hn_ => by have h_ := byt_blt hL.byt e_ hn_; omega)) ?_
  rintro _ W30 ⟨AA18, nn18, cc18, rfl, hgw18, ow28, hle18, ch29⟩
  have zz29 := ch29.size
  have kk49 := kB kk48 ch29
  have hq52 := ow28.nc
  have hq53 := ow28.cm
  have hq54 := ow28.byt.1
  refine eN<|reg<|rP 0 131 (pw W1 0)<|rP 1 132 (pw w 212)<|rF 2 133 212 (.slice z.f.A z.f.n z.f.c) hI.sz (qO ch29 (qO ch28 (qT ch27 (Chg.hp ch26 (qO ch4 (qT ch3 (qT ch2 hb1))) ⟨by omega, (off_blk (fun gz hgz => by have := lto5 gz hgz; omega))⟩)))) 26<|rP 3 134 (pw W1 0)<|rP 4 135 (.func (.func 46) #[pw W1 0] #[])<|rK 5 136 (WListD_any W1.heap.size W29.heap.size AA18 nn18 cc18 (([]) ++ formN (u64n (f.kind.toNat : Int)) ++ formN (u64n f.frm) ++ formN (u64n f.dst) ++ f.root ++ formN (u64n f.chunk) ++ (formN f.byt.length ++ f.byt)) f.prf z.f.A z.f.n z.f.c W30 hgw18 ⟨by omega, by omega⟩ ow28 (by omega) (LiesF.chg hL kk49 hLin_).prf hI.ok.prf (by omega) (fun g2 off e_ hn_ => by have h_ := slr_lt hL.prf (by decide) e_ hn_; omega)) ?_
  rintro _ W31 ⟨AA19, nn19, cc19, rfl, hgw19, ow29, hle19, ch30⟩
  have zz30 := ch30.size
  have hq55 := ow29.nc
  have hq56 := ow29.cm
  have hq57 := ow29.byt.1
  refine rE<|inN<|nxt<|sR<|rP 0 137 (pw W1 0)<|rP 1 138 (pw W1 0)<|rP 2 139 (pw W1 0)<|rL 3 140 0 (.slice AA19 nn19 cc19) hgw19<|rP 4 2 (.slice AA19 nn19 cc19)<|eN<|wp_ret<|?_
  have hH_ := ow29
  rw [List.nil_append, Mur.bodyB_6 hm hk_] at hH_
  have hbd_ := body_le hm hI.ok
  have hbl_ := hH_.byt.1
  exact rt (.slice AA19 nn19 cc19) ⟨_, _, _, rfl, own8_low hH_ (by omega), by omega, (kB kk49 ch30)⟩
 refine eF 0 117 (f.kind.toNat : Int) (6 : Int)<|rP 1 116 vF<|eN<|cF<|wp_skip<|inN<|nxt<|sR<|rP 0 137 (pw W1 0)<|rP 1 138 (pw W1 0)<|rP 2 139 (pw W1 0)<|rL 3 140 0 (.slice AA1 nn1 cc1) hgw1<|rP 4 2 (.slice AA1 nn1 cc1)<|eN<|wp_ret<|?_
 exfalso; omega
theorem BytesF_any (s : List UInt8) (A : Option Addr) (n c : Nat) (T : List UInt8 → List UInt8) (f : Frm) (z : Zs) (w : World) (hv : ShaVars w) (hb : Byt w A n s) (hnc : n ≤ c ∧ c ≤ 9223372036854775807) (ha : A = none → c = 0) (hn : n ≤ 1000000) (hT : ∀ x, T x = Mur.hmac s (18 :: x)) (hTl : ∀ x, (T x).length = 32) (hL : LiesF w z f) (hI : FrmIn f) : Calls Tryz.prog 8 #[.slice A n c, .agg (frmP f z).flatten.toArray] w fun e w' => ∃ A1 n1 c1 er, e = .returned (.tuple #[.slice A1 n1 c1, vI ((er : Nat) : Int)]) ∧ ((mayFM f ∧ er = 0 ∧ Own8 w' w.heap.size 5 A1 n1 c1 (bytesFM T f)) ∨ (¬ mayFM f ∧ er = 2 ∧ A1 = none ∧ n1 = 0 ∧ c1 = 0)) ∧ Chg [] w w' := by
 have HV := Go.Lib.hid hv
 clear hv
 have HBY := Go.Lib.hid hb
 clear hb
 have HA := Go.Lib.hid ha
 clear ha
 have hLin_ : z.In fun g => g < w.heap.size → Wk.Off g [] := ⟨fun _ _ _ _ => trivial, fun _ _ _ _ => trivial, fun _ _ _ _ => trivial, fun _ _ _ _ => trivial, fun _ _ _ _ => trivial⟩
 have hLunc_ := hL.nu.nc
 have hLucm_ := hL.nu.cm
 have hLpnc_ := hL.np.nc
 have hLpcm_ := hL.np.cm
 have hLinc_ := hL.ni.nc
 have hLicm_ := hL.ni.cm
 have hLync_ := hL.ny.nc
 have hLycm_ := hL.ny.cm
 have hLfnc_ := hL.nf.nc
 have hLfcm_ := hL.nf.cm
 have hml_ : Go.maxLen = 9223372036854775807 := rfl
 refine calls_of_wp Tryz.func8 rfl ?_
 refine sR<|nW 0 3 ((frmP f z).flatten.toArray) 38 fun W1 hb1 ch1 sz1 => rP 1 4 (.slice none 0 0)<|rP 2 5 (vI 0)<|eN<|wp_seq<|sR<|rq 0 8 _ rfl (lA hb1 (frmL_size hI.sz)) ?_
 have kk1 : Chg [] w W1 := zA ch1
 refine rK 1 9 (MayF_any f z W1 (LiesF.chg hL kk1 hLin_) hI) ?_
 rintro _ W2 ⟨bv1, rfl, hif1, ch2⟩
 have zz2 := ch2.size
 cases bv1
 ·exact rP 2 10 vT<|eN<|cT<|sR<|rP 0 4 (.slice none 0 0)<|rP 1 5 (vI 2)<|eN<|tR<|rt (.tuple #[.slice none 0 0, vI 2]) ⟨_, _, _, 2, rfl, .inr ⟨(fun q_ => Bool.noConfusion (hif1.2 q_)), rfl, rfl, rfl, rfl⟩, (kA kk1 ch2)⟩
 refine rP 2 10 vF<|eN<|cF<|wp_skip<|nxt<|sR<|rq 0 11 _ rfl (lA (qT ch2 hb1) (frmL_size hI.sz)) ?_
 have kk3 := kA kk1 ch2
 refine rK 1 12 (Body_any f z W2 (LiesF.chg hL kk3 hLin_) hI (hif1.1 rfl)) ?_
 rintro _ W3 ⟨AA1, nn1, cc1, rfl, ow1, hle1, ch3⟩
 have zz3 := ch3.size
 have hq1 := ow1.nc
 have hq2 := ow1.cm
 have hq3 := ow1.byt.1
 refine rP 2 6 (.slice AA1 nn1 cc1)<|eN<|wp_seq<|sR<|rP 0 13 (pw w 0)<|rF 1 14 0 (vB f.kind.toNat) hI.sz (qT ch3 (qT ch2 hb1)) 0<|rK 2 15 (Tagged_any f.kind W3) ?_
 by_cases hpr1 : f.kind.toNat ≤ 4
 ·rw [decide_eq_true hpr1]
  rintro _ W4 ⟨rfl, ch4⟩
  have zz4 := ch4.size
  refine eN<|cT<|sR<|rP 0 16 (.slice A n c)<|rP 1 17 (.slice AA1 nn1 cc1) ?_
  have kk5 := kA (kA kk3 ch3) ch4
  have ow2 := oA ow1 ch4
  refine rK 2 18 (TagF_any s A n c T (bodyFM f) AA1 nn1 cc1 W4 (HV.out.below (Chg.below0 kk5)) (byt_chg HBY.out kk5 (fun g off e hl => trivial)) ⟨by omega, by omega⟩ HA.out (by omega) hT hTl ow2.byt ⟨by omega, by omega⟩ ow2.nil (by omega)) ?_
  rintro _ W5 ⟨rfl, ch5⟩
  have zz5 := ch5.size
  refine nW 3 7 Z32 28 fun W6 hb2 ch6 sz2 => rU 4 rfl (sC (T (bodyFM f)) (hTl (bodyFM f)) hb2) fun W7 hb3 ch7 zz7 => eN<|reg<|rP 0 19 (.slice AA1 nn1 cc1)<|rq 1 20 (.slice (some ⟨W5.heap.size, 0, none⟩) 32 32) rfl (Mur.arr_slice 28 5 (.tmp 7) 32 rfl Tryz.underlying28 (by kernel_rfl) W5.heap.size (by kernel_rfl))<|rX 2 21 rfl rfl (ap8 32 32 (oB (oA (oA ow2 ch5) ch6) ch7 ow1.lt).own (Mur.byt_blk (T (bodyFM f)) (hTl (bodyFM f)) hb3) (fun h => by cases h) (nn1 + 32) ((bodyFM f) ++ (T (bodyFM f)))) ?_
  rintro _ W8 ⟨AA2, nn2, rfl, ow6, ch8, ha1⟩
  have zz8 := ch8.size
  have hq4 := ow6.nc
  have hq5 := ow6.cm
  refine rP 3 6 (.slice AA2 (nn1 + 32) nn2)<|eN<|sR<|rP 0 22 (.slice AA2 (nn1 + 32) nn2)<|rP 1 4 (.slice AA2 (nn1 + 32) nn2)<|rP 2 5 (vI 0)<|eN<|wp_ret<|?_
  have hH_ := ow6
  have hby_ : bytesFM T f = bodyFM f ++ T (bodyFM f) := by unfold bytesFM; rw [if_pos hpr1]
  exact rt (.tuple #[.slice AA2 (nn1 + 32) nn2, vI 0]) ⟨_, _, _, 0, rfl, .inl ⟨(hif1.1 rfl), rfl, by rw [hby_]; exact own8_low hH_ (by omega)⟩, (Chg.step (kB (kA (kA kk5 ch5) ch6) ch7) ch8 (newOr_blk (fun g hg => by have := ow1.lt g hg; omega)))⟩
 rw [decide_eq_false hpr1]
 rintro _ W10 ⟨rfl, ch9⟩
 have zz9 := ch9.size
 refine eN<|cF<|wp_skip<|nxt<|sR<|rP 0 22 (.slice AA1 nn1 cc1)<|rP 1 4 (.slice AA1 nn1 cc1)<|rP 2 5 (vI 0)<|eN<|wp_ret<|?_
 have hH_ := (oA ow1 ch9)
 have hby_ : bytesFM T f = bodyFM f := by unfold bytesFM; rw [if_neg hpr1]; exact List.append_nil _
 exact rt (.tuple #[.slice AA1 nn1 cc1, vI 0]) ⟨_, _, _, 0, rfl, .inl ⟨(hif1.1 rfl), rfl, by rw [hby_]; exact own8_low hH_ (by omega)⟩, (kA (kA kk3 ch3) ch9)⟩
end Go.Proofs.YtgbadghjnpbiaaaGreatDoor
namespace Mur
open Go Go.RowKit Wk
theorem msg_eq {m m2 : Msg} : m = m2 ↔ m.kind = m2.kind ∧ m.pre = m2.pre ∧ m.sum = m2.sum ∧ m.cnt = m2.cnt ∧ m.ans = m2.ans ∧ m.items = m2.items := by
 constructor
 ·rintro rfl
  exact ⟨rfl, rfl, rfl, rfl, rfl, rfl⟩
 ·obtain ⟨a, b, c, d, e, f⟩ := m
  obtain ⟨a2, b2, c2, d2, e2, f2⟩ := m2
  rintro ⟨h1, h2, h3, h4, h5, h6⟩
  simp only at h1 h2 h3 h4 h5 h6
  subst h1 h2 h3 h4 h5 h6
  rfl
theorem frm_eq2 {f g : Frm} (h0 : f.kind = g.kind) (h1 : f.frm = g.frm) (h2 : f.dst = g.dst) (h14 : f.cKey = g.cKey ∧ f.cNode = g.cNode ∧ f.cInc = g.cInc ∧ f.cCnt = g.cCnt ∧ f.cGone = g.cGone) (h15 : f.att = g.att) (h16 : f.root = g.root) (h17 : f.chunk = g.chunk) (h18 : f.byt = g.byt) (h19 : f.prf = g.prf)
  (h3 : f.pTo = g.pTo) (h4 : f.pKind = g.pKind) (h5 : f.pSeq = g.pSeq) (h6 : f.pAbout = g.pAbout) (h7 : f.pUpd = g.pUpd) (h8 : f.gos = g.gos) : f = g := by
 refine frm_eq (by rw [h0]) h1 h2 h3 (by rw [h4]) (by rw [h5]) h6 h7 (by rw [h8]) (by rw [h8]) (by rw [h8]) (by rw [h8]) (by rw [h8]) (by rw [h8]) h14 h15 h16 h17 h18 h19
end Mur
namespace Go.Proofs.YtgbadghjnpbiaaaGreatDoor
open Go.RowKit Wk
theorem msgI : (Tryz.prog.info? 31).map (fun i => (i.zero, i.size, i.bytes)) = some (some (.agg Mur.msgZ.toArray), 37, 104) := by kernel_rfl
end Go.Proofs.YtgbadghjnpbiaaaGreatDoor
namespace Go.Proofs.YtgbadghjnpbiaaaGreatDoor
open Go.RowKit Wk
open Mur (b8s Byt Own8 Seg Segs flat cutA attC Att SlA OwnA rowA msgC attC_length take_sn msgC_size msgC_all msg_kind msg_pre run_str byt_chg b8s_length msg_sum run_neq_dg msg_cnt msg_ans msg_items)
set_option maxRecDepth 100000
set_option maxHeartbeats 4000000
def S20f_F1 (b : Array Value) (u0 u1 u5 : Value) : Act := sg 26 [(0, u0), (1, u1), (5, u5)] b
def S21_J6_1 (b : Array Value) (u0 u1 u5 u6 u7 : Value) : Act := sg 70 [(0, u0), (1, u1), (5, u5), (6, u6), (7, u7)] b
theorem Same20f_any (A : Option Addr) (n c : Nat) (L : List Att) (B : Option Addr) (m d : Nat) (M : List Att) (w : World) (hA_ : SlA w A n L) (hB_ : SlA w B m M) (hn : n ≤ 9223372036854775807) : Calls Tryz.prog 62 #[.slice A n c, .slice B m d] w fun e w' => e = .returned (.bool (decide (L = M))) ∧ Chg [] w w' := by
 have hLl0 := hA_.len
 have hMl0 := hB_.len
 refine calls_of_wp Tryz.func62 rfl ?_
 refine sR<|rP 0 4 vF<|eN<|wp_seq<|sR<|rP 0 6 (.slice A n c)<|rP 1 7 (vI n)<|rP 2 8 (.slice B m d)<|rP 3 9 (vI m) ?_
 by_cases hx1 : (n : Int) ≠ (m : Int)
 ·exact nT 4 10 (n : Int) (m : Int)<|eN<|cT<|sR<|rP 0 4 vF<|eN<|tR<|rt vF ⟨by rw [decide_eq_false (fun q => by have h1 := congrArg List.length q; omega)], (Chg.refl _)⟩
 refine nF 4 10 (n : Int) (m : Int)<|eN<|cF<|wp_skip<|nxt<|wp_seq<|sR<|rP 0 5 (vI 0)<|eN<|wp_block<|?_
 refine Wk.loop (fun m_ a wr => ∃ (i : Nat), m_ = n - i ∧ a = S20f_F1 a.tmps (.slice A n c) (.slice B m d) (vI i) ∧ i ≤ n ∧ L.take i = M.take i ∧ Chg [] w wr) (n - 0) ?_ ?_
 ·refine ⟨0, rfl, by kernel_rfl, Nat.zero_le _, by simp, (Chg.refl _)⟩
 rintro mm1 aa1 W1 ⟨i, hmm1, hF1, hi, htk, HB⟩
 generalize aa1.tmps = bb1 at hF1
 subst hF1
 have hzB := HB.size
 have hLl := hA_.len
 have hMl := hB_.len
 by_cases hlt : i < n
 ·obtain ⟨g1, o1, rfl, _⟩ := hA_.ex (by omega)
  obtain ⟨g2, o2, rfl, _⟩ := hB_.ex (by omega)
  obtain ⟨x, hx⟩ : ∃ x, L[i]? = some x := ⟨_, List.getElem?_eq_getElem (by omega)⟩
  obtain ⟨y, hy⟩ : ∃ y, M[i]? = some y := ⟨_, List.getElem?_eq_getElem (by omega)⟩
  refine wp_seq<|sR<|rP 0 11 (vI i)<|rP 1 12 (.slice (some ⟨g1, o1, none⟩) n c)<|rP 2 13 (vI n)<|bT 3 14 ((i : Int) < (n : Int))<|eN<|cT<|wp_skip<|nxt<|wp_seq<|wp_block<|wp_seq<|?_
  refine dReg ([]) (by kernel_rfl) ?_
  intro W2 ch1 sz1
  have zz1 := ch1.size
  have sS1 : Chg ([]) W2 W2 := (Chg.refl _).more (by simp)
  refine dW 0 17 (.slice (some ⟨g1, o1, none⟩) n c) sS1<|dW 1 18 (vI i) sS1<|dV 2 19 (pt g1 (o1 + i * 97)) rfl rfl (fun w' hw' => iS 97 g1 o1 n c i) sS1 ?_
  have kk1 := kA HB ch1
  refine dV 3 20 _ rfl rfl (fun w' hw' => lR (o1 + i * 97) (Mur.attC x.k x.r x.n x.t) ((Mur.SlA.chg (Mur.SlA.chg hA_ kk1 (fun g off e hl => trivial)) hw' (fun g off e hl => trivial)).elem hx) (by rw [attC_length x.hk x.hr x.ht]; kernel_rfl)) sS1<|dW 4 21 (.slice (some ⟨g2, o2, none⟩) m d) sS1<|dW 5 22 (vI i) sS1<|dV 6 23 (pt g2 (o2 + i * 97)) rfl rfl (fun w' hw' => iS 97 g2 o2 m d i) sS1<|dV 7 24 _ rfl rfl (fun w' hw' => lR (o2 + i * 97) (Mur.attC y.k y.r y.n y.t) ((Mur.SlA.chg (Mur.SlA.chg hB_ kk1 (fun g off e hl => trivial)) hw' (fun g off e hl => trivial)).elem hy) (by rw [attC_length y.hk y.hr y.ht]; kernel_rfl)) sS1 ?_
  by_cases hatt1 : x.k = y.k ∧ x.r = y.r ∧ x.n = y.n ∧ x.t = y.t
  ·refine dV 8 25 vF rfl rfl (fun w' hw' => boolF (b := !decide (x.k = y.k ∧ x.r = y.r ∧ x.n = y.n ∧ x.t = y.t)) ((by rw [decide_eq_true (hatt1)]; rfl)) (run_neq_att (.tmp 20) (.tmp 24) 35 rfl x.hk x.hr x.ht y.hk y.hr y.ht x.hn y.hn (by kernel_rfl) (by kernel_rfl))) sS1<|dN<|cF<|wp_skip<|inN<|nxt<|reg<|rP 0 15 (vI i)<|rI 1 16 ((i : Int) + 1) (((i + 1 : Nat) : Int))<|rP 2 5 (vI (i + 1 : Nat))<|eN<|?_
   refine ⟨_, ?_, i + 1, rfl, by kernel_rfl, (by omega), (by rw [take_sn hx, take_sn hy, htk, (Mur.Att.eq_iff x y).2 hatt1]), kk1⟩
   omega
  exact dV 8 25 vT rfl rfl (fun w' hw' => boolT (b := !decide (x.k = y.k ∧ x.r = y.r ∧ x.n = y.n ∧ x.t = y.t)) ((by rw [decide_eq_false (hatt1)]; rfl)) (run_neq_att (.tmp 20) (.tmp 24) 35 rfl x.hk x.hr x.ht y.hk y.hr y.ht x.hn y.hn (by kernel_rfl) (by kernel_rfl))) sS1<|dN<|cT<|sR<|rP 0 4 vF<|eN<|tI<|thR<|inR<|thR<|rt vF ⟨by rw [decide_eq_false (fun q => hatt1 ((Mur.Att.eq_iff x y).1 (Option.some.inj (by rw [← hx, ← hy, q]))))], kk1⟩
 rw [List.take_of_length_le (show L.length ≤ i by omega), List.take_of_length_le (show M.length ≤ i by omega)] at htk
 exact wp_seq<|sR<|rP 0 11 (vI i)<|rP 1 12 (.slice A n c)<|rP 2 13 (vI n)<|bF 3 14 ((i : Int) < (n : Int))<|eN<|cF<|xX<|nxt<|sR<|rP 0 4 vT<|eN<|wp_ret<|rt vT ⟨by rw [decide_eq_true htk], HB⟩
theorem Same21_any (g1 g2 : Nat) (kd : UInt8) (PA : Option Addr) (pn pc : Nat) (s : List UInt8) (m : Int) (A : Option Addr) (n c : Nat) (b : Bool) (p : List UInt8) (I : List Att) (kd2 : UInt8) (PB : Option Addr) (pn2 pc2 : Nat) (s2 : List UInt8) (m2 : Int) (B : Option Addr) (n2 c2 : Nat) (b2 : Bool) (p2 : List UInt8) (I2 : List Att) (w : World) (hs : s.length = 32) (hs2 : s2.length = 32) (hg1 : w.heap[g1]? = some (.cells (Mur.msgC kd PA pn pc s m A n c b).toArray 31 (0, 0))) (hg2 : w.heap[g2]? = some (.cells (Mur.msgC kd2 PB pn2 pc2 s2 m2 B n2 c2 b2).toArray 31 (0, 0))) (hb : Byt w PA pn p) (hb2 : Byt w PB pn2 p2) (hl : SlA w A n I) (hl2 : SlA w B n2 I2) (hn : n ≤ 9223372036854775807) : Calls Tryz.prog 33 #[.slice (some ⟨g1, 0, none⟩) 1 1, .slice (some ⟨g2, 0, none⟩) 1 1] w fun e w' => ∃ v, e = .returned (.bool v) ∧ (v = true ↔ kd = kd2 ∧ p = p2 ∧ s = s2 ∧ m = m2 ∧ b = b2 ∧ I = I2) ∧ Chg [] w w' := by
 have hg1_ := (Array.getElem?_eq_some_iff.1 hg1).1
 have hg2_ := (Array.getElem?_eq_some_iff.1 hg2).1
 refine calls_of_wp Tryz.func33 rfl ?_
 refine sR<|rP 0 4 vF<|eN<|wp_seq<|sR<|rP 0 8 (.slice (some ⟨g1, 0, none⟩) 1 1)<|rP 1 9 (vI 1)<|rP 2 10 (.slice (some ⟨g2, 0, none⟩) 1 1)<|rP 3 11 (vI 1)<|nF 4 12 (1 : Int) (1 : Int)<|eN<|cF<|wp_skip<|nxt<|wp_seq<|sR<|rP 0 5 (vI 0)<|eN<|wp_block<|?_
 refine Wk.loopN 3 ?_
 refine Wk.rdS<|wp_seq<|sR<|?_
 refine rP 0 13 (vI 0)<|rP 1 14 (.slice (some ⟨g1, 0, none⟩) 1 1)<|rP 2 15 (vI 1)<|bT 3 16 ((0 : Int) < (1 : Int))<|eN<|cT<|wp_skip<|nxt<|wp_seq<|wp_block<|wp_seq<|?_
 refine Wk.cut (fun a wj => ∃ (q6 : Nat) (q7 : Nat), a = S21_J6_1 a.tmps (.slice (some ⟨g1, 0, none⟩) 1 1) (.slice (some ⟨g2, 0, none⟩) 1 1) (vI 0) (pt q6 0) (pt q7 0) ∧ Chg [] w wj ∧ wj.heap[q6]? = some (.cells (Mur.msgC kd PA pn pc s m A n c b).toArray 31 (0, 0)) ∧ wj.heap[q7]? = some (.cells (Mur.msgC kd2 PB pn2 pc2 s2 m2 B n2 c2 b2).toArray 31 (0, 0))) ?_ ?_
 ·refine dReg ([]) (by kernel_rfl) ?_
  intro W1 ch1 sz1
  have zz1 := ch1.size
  have sS1 : Chg ([]) W1 W1 := (Chg.refl _).more (by simp)
  refine dW 0 19 (.slice (some ⟨g1, 0, none⟩) 1 1) sS1<|dW 1 20 (vI 0) sS1<|dV 2 21 (pt g1 0) rfl rfl (fun w' hw' => iS 37 g1 0 1 1 0) sS1 ?_
  have kk1 : Chg [] w W1 := zA ch1
  refine dV 3 22 _ rfl rfl (fun w' hw' => lA (qT hw' (qT kk1 hg1)) (msgC_size hs)) sS1<|dW 4 23 (.slice (some ⟨g2, 0, none⟩) 1 1) sS1<|dW 5 24 (vI 0) sS1<|dV 6 25 (pt g2 0) rfl rfl (fun w' hw' => iS 37 g2 0 1 1 0) sS1<|dV 7 26 _ rfl rfl (fun w' hw' => lA (qT hw' (qT kk1 hg2)) (msgC_size hs2)) sS1 ?_
  refine dOp2 8 9 (by kernel_rfl) ?_ ?_
  ·refine oN 6 ZM 31 fun W2 hb1 ch2 sz2 => ?_
   have sS2 := kA sS1 ch2
   refine aN sS2<|dO 9<|oN 7 ZM 31 fun W3 hb2 ch3 sz3 => ?_
   have sS3 := kA sS2 ch3
   refine aN sS3<|dO 10<|oU rfl (sB (Mur.msgC kd PA pn pc s m A n c b).toArray (msgC_size hs) msgC_all (qT ch3 hb1) (by kernel_rfl)) fun W4 hb3 ch4 zz4 => ?_
   have sS4 := kB sS3 ch4
   refine aN sS4<|dO 11<|oU rfl (sB (Mur.msgC kd2 PB pn2 pc2 s2 m2 B n2 c2 b2).toArray (msgC_size hs2) msgC_all (qO ch4 hb2) (by kernel_rfl)) fun W5 hb4 ch5 zz5 => ?_
   have sS5 := kB sS4 ch5
   refine aN sS5<|dN<|?_
   exact ⟨W1.heap.size, W2.heap.size, by kernel_rfl, (Chg.step (Chg.step (Chg.step (Chg.step (Chg.step ((Chg.refl _).more (by simp) : Chg [] w w) ch1 trivial) ch2 trivial) ch3 trivial) ch4 ⟨.inr (by omega), trivial⟩) ch5 ⟨.inr (by omega), trivial⟩), (qO ch5 hb3), hb4⟩
  refine oN 7 ZM 31 fun W6 hb5 ch6 sz4 => ?_
  have sS6 := kA sS1 ch6
  refine aN sS6<|dO 8<|oN 6 ZM 31 fun W7 hb6 ch7 sz5 => ?_
  have sS7 := kA sS6 ch7
  refine aN sS7<|dO 10<|oU rfl (sB (Mur.msgC kd PA pn pc s m A n c b).toArray (msgC_size hs) msgC_all hb6 (by kernel_rfl)) fun W8 hb7 ch8 zz8 => ?_
  have sS8 := kB sS7 ch8
  refine aN sS8<|dO 11<|oU rfl (sB (Mur.msgC kd2 PB pn2 pc2 s2 m2 B n2 c2 b2).toArray (msgC_size hs2) msgC_all (qO ch8 (qT ch7 hb5)) (by kernel_rfl)) fun W10 hb8 ch9 zz9 => ?_
  have sS9 := kB sS8 ch9
  refine aN sS9<|dN<|?_
  exact ⟨W6.heap.size, W1.heap.size, by kernel_rfl, (Chg.step (Chg.step (Chg.step (Chg.step (Chg.step ((Chg.refl _).more (by simp) : Chg [] w w) ch1 trivial) ch6 trivial) ch7 trivial) ch8 ⟨.inr (by omega), trivial⟩) ch9 ⟨.inr (by omega), trivial⟩), (qO ch9 hb7), hb8⟩
 rintro aa1 W11 ⟨q6, q7, hF1, ch10, hq6, hq7⟩
 have zz10 := ch10.size
 generalize aa1.tmps = bb1 at hF1
 subst hF1
 refine nxt<|sR<|rP 0 27 (pt q6 0)<|rq 1 28 _ rfl (ld 5 27 q6 0 (vB kd.toNat) (show World.cell? _ ⟨_, 0 + 0, _⟩ = _ from msg_kind (range_row hq6)))<|rP 2 29 (pt q7 0)<|rq 3 30 _ rfl (ld 5 29 q7 0 (vB kd2.toNat) (show World.cell? _ ⟨_, 0 + 0, _⟩ = _ from msg_kind (range_row hq7))) ?_
 by_cases hx1 : (kd.toNat : Int) ≠ (kd2.toNat : Int)
 ·exact nT 4 31 (kd.toNat : Int) (kd2.toNat : Int)<|rP 5 32 vT<|rZ 6 33<|rZ 7 34<|rZ 8 35<|rZ 9 36<|rZ 10 37<|rZ 11 38<|rZ 12 39<|rP 13 40 vT<|rP 14 41 vT<|rZ 15 42<|rZ 16 43<|rZ 17 44<|rZ 18 45<|rZ 19 46<|rP 20 47 vT<|rP 21 48 vT<|rZ 22 49<|rZ 23 50<|rZ 24 51<|rZ 25 52<|rZ 26 53<|rP 27 54 vT<|rP 28 55 vT<|rZ 29 56<|rZ 30 57<|rZ 31 58<|rZ 32 59<|rZ 33 60<|rP 34 61 vT<|rP 35 62 vT<|rZ 36 63<|rZ 37 64<|rZ 38 65<|rZ 39 66<|rZ 40 67<|rZ 41 68<|rP 42 69 vT<|eN<|cT<|sR<|rP 0 4 vF<|eN<|tI<|thR<|inR<|thR<|rt vF (noB (fun ⟨h1_, h2_, h3_, h4_, h5_, h6_⟩ => (by have h_ := congrArg UInt8.toNat h1_; omega)) (zA ch10 : Chg [] w W11))
 refine nF 4 31 (kd.toNat : Int) (kd2.toNat : Int)<|rP 5 32 vF<|rP 6 33 (pt q6 1)<|rq 7 34 _ rfl (ld 22 33 q6 1 (.slice PA pn pc) (show World.cell? _ ⟨_, 0 + 1, _⟩ = _ from msg_pre (range_row hq6))) ?_
 have kk3 : Chg [] w W11 := zA ch10
 refine rq 8 35 (.string (Mur.str p)) rfl (run_str 22 9 (.tmp 34) 5 rfl Tryz.underlying22 Tryz.underlying5 Tryz.underlying9 PA pn pc p (by kernel_rfl) (byt_chg hb kk3 (fun g off e hl => trivial)))<|rP 9 36 (pt q7 1)<|rq 10 37 _ rfl (ld 22 36 q7 1 (.slice PB pn2 pc2) (show World.cell? _ ⟨_, 0 + 1, _⟩ = _ from msg_pre (range_row hq7)))<|rq 11 38 (.string (Mur.str p2)) rfl (run_str 22 9 (.tmp 37) 5 rfl Tryz.underlying22 Tryz.underlying5 Tryz.underlying9 PB pn2 pc2 p2 (by kernel_rfl) (byt_chg hb2 kk3 (fun g off e hl => trivial))) ?_
 by_cases hx2 : p ≠ p2
 ·exact rq 12 39 _ rfl (dqT (hx2) (Mur.strne 9 9 (.tmp 35) (.tmp 38) rfl p p2 (by kernel_rfl) (by kernel_rfl)))<|rP 13 40 vT<|rP 14 41 vT<|rZ 15 42<|rZ 16 43<|rZ 17 44<|rZ 18 45<|rZ 19 46<|rP 20 47 vT<|rP 21 48 vT<|rZ 22 49<|rZ 23 50<|rZ 24 51<|rZ 25 52<|rZ 26 53<|rP 27 54 vT<|rP 28 55 vT<|rZ 29 56<|rZ 30 57<|rZ 31 58<|rZ 32 59<|rZ 33 60<|rP 34 61 vT<|rP 35 62 vT<|rZ 36 63<|rZ 37 64<|rZ 38 65<|rZ 39 66<|rZ 40 67<|rZ 41 68<|rP 42 69 vT<|eN<|cT<|sR<|rP 0 4 vF<|eN<|tI<|thR<|inR<|thR<|rt vF (noB (fun ⟨h1_, h2_, h3_, h4_, h5_, h6_⟩ => (absurd h2_ (hx2))) kk3)
 refine rq 12 39 _ rfl (dqF (hx2) (Mur.strne 9 9 (.tmp 35) (.tmp 38) rfl p p2 (by kernel_rfl) (by kernel_rfl)))<|rP 13 40 vF<|rP 14 41 vF<|rP 15 42 (pt q6 2)<|rq 16 43 _ rfl (lR 2 (b8s s) (show World.rangeAt _ _ (0 + 2) _ from msg_sum (range_row hq6)) (by rw [b8s_length, hs]; kernel_rfl))<|rP 17 44 (pt q7 2)<|rq 18 45 _ rfl (lR 2 (b8s s2) (show World.rangeAt _ _ (0 + 2) _ from msg_sum (range_row hq7)) (by rw [b8s_length, hs2]; kernel_rfl)) ?_
 by_cases hpr1 : s = s2
 ·refine rq 19 46 _ rfl (nqF hpr1 (run_neq_dg digT s s2 hs hs2 _ (.tmp 43) (.tmp 45) 28 rfl (by kernel_rfl) (by kernel_rfl)))<|rP 20 47 vF<|rP 21 48 vF<|rP 22 49 (pt q6 34)<|rq 23 50 _ rfl (ld 3 49 q6 34 (vI m) (show World.cell? _ ⟨_, 0 + 34, _⟩ = _ from msg_cnt hs (range_row hq6)))<|rP 24 51 (pt q7 34)<|rq 25 52 _ rfl (ld 3 51 q7 34 (vI m2) (show World.cell? _ ⟨_, 0 + 34, _⟩ = _ from msg_cnt hs2 (range_row hq7))) ?_
  by_cases hx3 : m ≠ m2
  ·exact nT 26 53 m m2<|rP 27 54 vT<|rP 28 55 vT<|rZ 29 56<|rZ 30 57<|rZ 31 58<|rZ 32 59<|rZ 33 60<|rP 34 61 vT<|rP 35 62 vT<|rZ 36 63<|rZ 37 64<|rZ 38 65<|rZ 39 66<|rZ 40 67<|rZ 41 68<|rP 42 69 vT<|eN<|cT<|sR<|rP 0 4 vF<|eN<|tI<|thR<|inR<|thR<|rt vF (noB (fun ⟨h1_, h2_, h3_, h4_, h5_, h6_⟩ => (by omega)) kk3)
  refine nF 26 53 m m2<|rP 27 54 vF<|rP 28 55 vF<|rP 29 56 (pt q6 36)<|rq 30 57 _ rfl (ld 4 56 q6 36 (.bool b) (show World.cell? _ ⟨_, 0 + 36, _⟩ = _ from msg_ans hs (range_row hq6)))<|rP 31 58 (pt q7 36)<|rq 32 59 _ rfl (ld 4 58 q7 36 (.bool b2) (show World.cell? _ ⟨_, 0 + 36, _⟩ = _ from msg_ans hs2 (range_row hq7))) ?_
  cases b
  ·cases b2
   ·refine rP 33 60 vF<|rP 34 61 vF<|rP 35 62 vF<|rP 36 63 (pt q6 35)<|rq 37 64 _ rfl (ld 29 63 q6 35 (.slice A n c) (show World.cell? _ ⟨_, 0 + 35, _⟩ = _ from msg_items hs (range_row hq6)))<|rP 38 65 (pt q7 35)<|rq 39 66 _ rfl (ld 29 65 q7 35 (.slice B n2 c2) (show World.cell? _ ⟨_, 0 + 35, _⟩ = _ from msg_items hs2 (range_row hq7)))<|rK 40 67 (Same20f_any A n c I B n2 c2 I2 W11 (Mur.SlA.chg hl kk3 (fun g off e hl => trivial)) (Mur.SlA.chg hl2 kk3 (fun g off e hl => trivial)) (by omega)) ?_
    by_cases hpr2 : I = I2
    ·rw [decide_eq_true hpr2]
     rintro _ W12 ⟨rfl, ch11⟩
     have zz11 := ch11.size
     exact rP 41 68 vF<|rP 42 69 vF<|eN<|cF<|wp_skip<|inN<|nxt<|reg<|rP 0 17 (vI 0)<|rI 1 18 (0 + 1) (1)<|rP 2 5 (vI 1)<|eN<|Wk.rdS<|wp_seq<|sR<|rP 0 13 (vI 1)<|rP 1 14 (.slice (some ⟨g1, 0, none⟩) 1 1)<|rP 2 15 (vI 1)<|bF 3 16 ((1 : Int) < (1 : Int))<|eN<|cF<|xX<|nxt<|sR<|rP 0 4 vT<|eN<|wp_ret<|rt vT (yesB ⟨UInt8.toNat_inj.1 (by omega), Classical.not_not.1 (hx2), hpr1, by omega, rfl, hpr2⟩ (kA kk3 ch11))
    rw [decide_eq_false hpr2]
    rintro _ W13 ⟨rfl, ch12⟩
    have zz12 := ch12.size
    exact rP 41 68 vT<|rP 42 69 vT<|eN<|cT<|sR<|rP 0 4 vF<|eN<|tI<|thR<|inR<|thR<|rt vF (noB (fun ⟨h1_, h2_, h3_, h4_, h5_, h6_⟩ => (absurd h6_ hpr2)) (kA kk3 ch12))
   exact rP 33 60 vT<|rP 34 61 vT<|rP 35 62 vT<|rZ 36 63<|rZ 37 64<|rZ 38 65<|rZ 39 66<|rZ 40 67<|rZ 41 68<|rP 42 69 vT<|eN<|cT<|sR<|rP 0 4 vF<|eN<|tI<|thR<|inR<|thR<|rt vF (noB (fun ⟨h1_, h2_, h3_, h4_, h5_, h6_⟩ => (by cases h5_)) kk3)
  cases b2
  ·exact rP 33 60 vT<|rP 34 61 vT<|rP 35 62 vT<|rZ 36 63<|rZ 37 64<|rZ 38 65<|rZ 39 66<|rZ 40 67<|rZ 41 68<|rP 42 69 vT<|eN<|cT<|sR<|rP 0 4 vF<|eN<|tI<|thR<|inR<|thR<|rt vF (noB (fun ⟨h1_, h2_, h3_, h4_, h5_, h6_⟩ => (by cases h5_)) kk3)
  refine rP 33 60 vF<|rP 34 61 vF<|rP 35 62 vF<|rP 36 63 (pt q6 35)<|rq 37 64 _ rfl (ld 29 63 q6 35 (.slice A n c) (show World.cell? _ ⟨_, 0 + 35, _⟩ = _ from msg_items hs (range_row hq6)))<|rP 38 65 (pt q7 35)<|rq 39 66 _ rfl (ld 29 65 q7 35 (.slice B n2 c2) (show World.cell? _ ⟨_, 0 + 35, _⟩ = _ from msg_items hs2 (range_row hq7)))<|rK 40 67 (Same20f_any A n c I B n2 c2 I2 W11 (Mur.SlA.chg hl kk3 (fun g off e hl => trivial)) (Mur.SlA.chg hl2 kk3 (fun g off e hl => trivial)) (by omega)) ?_
  by_cases hpr3 : I = I2
  ·rw [decide_eq_true hpr3]
   rintro _ W14 ⟨rfl, ch13⟩
   have zz13 := ch13.size
   exact rP 41 68 vF<|rP 42 69 vF<|eN<|cF<|wp_skip<|inN<|nxt<|reg<|rP 0 17 (vI 0)<|rI 1 18 (0 + 1) (1)<|rP 2 5 (vI 1)<|eN<|Wk.rdS<|wp_seq<|sR<|rP 0 13 (vI 1)<|rP 1 14 (.slice (some ⟨g1, 0, none⟩) 1 1)<|rP 2 15 (vI 1)<|bF 3 16 ((1 : Int) < (1 : Int))<|eN<|cF<|xX<|nxt<|sR<|rP 0 4 vT<|eN<|wp_ret<|rt vT (yesB ⟨UInt8.toNat_inj.1 (by omega), Classical.not_not.1 (hx2), hpr1, by omega, rfl, hpr3⟩ (kA kk3 ch13))
  rw [decide_eq_false hpr3]
  rintro _ W15 ⟨rfl, ch14⟩
  have zz14 := ch14.size
  exact rP 41 68 vT<|rP 42 69 vT<|eN<|cT<|sR<|rP 0 4 vF<|eN<|tI<|thR<|inR<|thR<|rt vF (noB (fun ⟨h1_, h2_, h3_, h4_, h5_, h6_⟩ => (absurd h6_ hpr3)) (kA kk3 ch14))
 exact rq 19 46 _ rfl (nqT hpr1 (run_neq_dg digT s s2 hs hs2 _ (.tmp 43) (.tmp 45) 28 rfl (by kernel_rfl) (by kernel_rfl)))<|rP 20 47 vT<|rP 21 48 vT<|rZ 22 49<|rZ 23 50<|rZ 24 51<|rZ 25 52<|rZ 26 53<|rP 27 54 vT<|rP 28 55 vT<|rZ 29 56<|rZ 30 57<|rZ 31 58<|rZ 32 59<|rZ 33 60<|rP 34 61 vT<|rP 35 62 vT<|rZ 36 63<|rZ 37 64<|rZ 38 65<|rZ 39 66<|rZ 40 67<|rZ 41 68<|rP 42 69 vT<|eN<|cT<|sR<|rP 0 4 vF<|eN<|tI<|thR<|inR<|thR<|rt vF (noB (fun ⟨h1_, h2_, h3_, h4_, h5_, h6_⟩ => (absurd h3_ hpr1)) kk3)
end Go.Proofs.YtgbadghjnpbiaaaGreatDoor
namespace Go.Proofs.YtgbadghjnpbiaaaGreatDoor
open Go.RowKit Wk
open Mur (b8s Byt Own8 Seg Segs flat cutA attC Att SlA OwnA rowA msgC Frm Zs LiesF FrmIn frmP segs_cell frmL_sz claimC_length segs_rng attC_length frmL_att b8s_length segs_row run_neq_dg run_str byt_chg map_at take_sn updC msgC_length msg_eq)
set_option maxRecDepth 100000
set_option maxHeartbeats 4000000
def S25_F1 (b : Array Value) (u2 u3 u5 : Value) : Act := sg 156 [(2, u2), (3, u3), (5, u5)] b
def S25_J8_1 (b : Array Value) (u2 u3 u6 u7 : Value) : Act := sg 156 [(2, u2), (3, u3), (6, u6), (7, u7)] b
def S25_F2 (b : Array Value) (u2 u3 u6 u7 u8 : Value) : Act := sg 156 [(2, u2), (3, u3), (6, u6), (7, u7), (8, u8)] b
theorem Same25_any (f : Frm) (z : Zs) (g : Frm) (y : Zs) (w : World) (hL : LiesF w z f) (hI : FrmIn f) (hM : LiesF w y g) (hJ : FrmIn g) : Calls Tryz.prog 12 #[.agg (frmP f z).flatten.toArray, .agg (frmP g y).flatten.toArray] w fun e w' => ∃ v, e = .returned (.bool v) ∧ (v = true ↔ f = g) ∧ Chg [] w w' := by
 have hLin_ : z.In fun g => g < w.heap.size → Wk.Off g [] := ⟨fun _ _ _ _ => trivial, fun _ _ _ _ => trivial, fun _ _ _ _ => trivial, fun _ _ _ _ => trivial, fun _ _ _ _ => trivial⟩
 have hLunc_ := hL.nu.nc
 have hLucm_ := hL.nu.cm
 have hLpnc_ := hL.np.nc
 have hLpcm_ := hL.np.cm
 have hLinc_ := hL.ni.nc
 have hLicm_ := hL.ni.cm
 have hLync_ := hL.ny.nc
 have hLycm_ := hL.ny.cm
 have hLfnc_ := hL.nf.nc
 have hLfcm_ := hL.nf.cm
 have hMin_ : y.In fun g => g < w.heap.size → Wk.Off g [] := ⟨fun _ _ _ _ => trivial, fun _ _ _ _ => trivial, fun _ _ _ _ => trivial, fun _ _ _ _ => trivial, fun _ _ _ _ => trivial⟩
 have hMunc_ := hM.nu.nc
 have hMucm_ := hM.nu.cm
 have hMpnc_ := hM.np.nc
 have hMpcm_ := hM.np.cm
 have hMinc_ := hM.ni.nc
 have hMicm_ := hM.ni.cm
 have hMync_ := hM.ny.nc
 have hMycm_ := hM.ny.cm
 have hMfnc_ := hM.nf.nc
 have hMfcm_ := hM.nf.cm
 have hLul_ := hL.upd.len
 rw [List.length_map] at hLul_
 have hLfl_ := hL.prf.len
 rw [List.length_map] at hLfl_
 have hMul_ := hM.upd.len
 rw [List.length_map] at hMul_
 have hMfl_ := hM.prf.len
 rw [List.length_map] at hMfl_
 refine calls_of_wp Tryz.func12 rfl ?_
 refine sR<|nW 0 2 ((frmP f z).flatten.toArray) 38 fun W1 hb1 ch1 sz1 => nW 1 3 ((frmP g y).flatten.toArray) 38 fun W2 hb2 ch2 sz2 => rP 2 4 vF<|eN<|wp_seq<|sR<|rP 0 9 (pw w 0)<|rF 1 10 0 (vB f.kind.toNat) hI.sz (qT ch2 hb1) 0<|rP 2 11 (pw W1 0)<|rF 3 12 0 (vB g.kind.toNat) hJ.sz hb2 0 ?_
 by_cases hx1 : (f.kind.toNat : Int) ≠ (g.kind.toNat : Int)
 ·exact nT 4 13 (f.kind.toNat : Int) (g.kind.toNat : Int)<|mV 156 60 5 [(13, vT)] 73 vT fun _ => eN<|cT<|sR<|rP 0 4 vF<|eN<|tR<|rt vF (noB (fun e_ => absurd (congrArg (fun x_ : Frm => (x_.kind.toNat : Int)) e_) (by first | exact hx1 | omega)) (kA (zA ch1 : Chg [] w W1) ch2))
 refine nF 4 13 (f.kind.toNat : Int) (g.kind.toNat : Int)<|rP 5 14 vF<|rP 6 15 (pw w 1)<|rF 7 16 1 (vI f.frm) hI.sz (qT ch2 hb1) 1<|rP 8 17 (pw W1 1)<|rF 9 18 1 (vI g.frm) hJ.sz hb2 1 ?_
 by_cases hx2 : f.frm ≠ g.frm
 ·exact nT 10 19 f.frm g.frm<|mV 156 54 11 [(14, vF), (19, vT)] 73 vT fun _ => eN<|cT<|sR<|rP 0 4 vF<|eN<|tR<|rt vF (noB (fun e_ => absurd (congrArg (fun x_ : Frm => x_.frm) e_) (by first | exact hx2 | omega)) (kA (zA ch1 : Chg [] w W1) ch2))
 refine nF 10 19 f.frm g.frm<|rP 11 20 vF<|rP 12 21 vF<|rP 13 22 (pw w 2)<|mN 156 [(2, pw w 0), (3, pw W1 0), (21, vF), (22, pw w 2)] fun _ => rF 14 23 2 (vI f.dst) hI.sz (qT ch2 hb1) 2<|rP 15 24 (pw W1 2)<|rF 16 25 2 (vI g.dst) hJ.sz hb2 2 ?_
 by_cases hx3 : f.dst ≠ g.dst
 ·exact nT 17 26 f.dst g.dst<|mV 156 47 18 [(21, vF), (26, vT)] 73 vT fun _ => eN<|cT<|sR<|rP 0 4 vF<|eN<|tR<|rt vF (noB (fun e_ => absurd (congrArg (fun x_ : Frm => x_.dst) e_) (by first | exact hx3 | omega)) (kA (zA ch1 : Chg [] w W1) ch2))
 refine nF 17 26 f.dst g.dst<|rP 18 27 vF<|rP 19 28 vF<|rP 20 29 (pw w 45)<|rq 21 30 _ rfl (lR 45 (Mur.claimC f.cKey f.cNode f.cInc f.cCnt f.cGone) (sgR hI.sz (qT ch2 hb1) 14 5 rfl) (by rw [claimC_length hI.ok.key]; kernel_rfl))<|rP 22 31 (pw W1 45)<|rq 23 32 _ rfl (lR 45 (Mur.claimC g.cKey g.cNode g.cInc g.cCnt g.cGone) (sgR hJ.sz hb2 14 5 rfl) (by rw [claimC_length hJ.ok.key]; kernel_rfl)) ?_
 by_cases hpr1 : f.cKey = g.cKey ∧ f.cNode = g.cNode ∧ f.cInc = g.cInc ∧ f.cCnt = g.cCnt ∧ f.cGone = g.cGone
 ·refine rq 24 33 _ rfl (nqF hpr1 (run_neq_claim (.tmp 30) (.tmp 32) 33 rfl hI.ok.key hJ.ok.key (wf64 hI.cNo.1 hI.cNo.2) (wf64 hJ.cNo.1 hJ.cNo.2) hI.ok.inc hJ.ok.inc hI.ok.cnt hJ.ok.cnt (by kernel_rfl) (by kernel_rfl)))<|rP 25 34 vF<|rP 26 35 vF<|rP 27 36 (pw w 81)<|mN 156 [(2, pw w 0), (3, pw W1 0), (35, vF), (36, pw w 81)] fun _ => rq 28 37 _ rfl (lR 81 (Mur.attC f.att.k f.att.r f.att.n f.att.t) (sgR hI.sz (qT ch2 hb1) 19 4 frmL_att) (by rw [attC_length f.att.hk f.att.hr f.att.ht]; kernel_rfl))<|rP 29 38 (pw W1 81)<|rq 30 39 _ rfl (lR 81 (Mur.attC g.att.k g.att.r g.att.n g.att.t) (sgR hJ.sz hb2 19 4 frmL_att) (by rw [attC_length g.att.hk g.att.hr g.att.ht]; kernel_rfl)) ?_
  by_cases hpr2 : f.att = g.att
  ·refine rq 31 40 _ rfl (nqF ((Mur.Att.eq_iff f.att g.att).1 hpr2) (run_neq_att (.tmp 37) (.tmp 39) 35 rfl f.att.hk f.att.hr f.att.ht g.att.hk g.att.hr g.att.ht f.att.hn g.att.hn (by kernel_rfl) (by kernel_rfl)))<|rP 32 41 vF<|rP 33 42 vF<|rP 34 43 (pw w 178)<|rq 35 44 _ rfl (lR 178 (b8s f.root) (sgW hI.sz (qT ch2 hb1) 23) (by rw [b8s_length, hI.ok.root]; kernel_rfl))<|rP 36 45 (pw W1 178)<|rq 37 46 _ rfl (lR 178 (b8s g.root) (sgW hJ.sz hb2 23) (by rw [b8s_length, hJ.ok.root]; kernel_rfl)) ?_
   by_cases hpr3 : f.root = g.root
   ·refine rq 38 47 _ rfl (nqF hpr3 (run_neq_dg digT f.root g.root hI.ok.root hJ.ok.root _ (.tmp 44) (.tmp 46) 28 rfl (by kernel_rfl) (by kernel_rfl)))<|rP 39 48 vF<|rP 40 49 vF<|rP 41 50 (pw w 210)<|mN 156 [(2, pw w 0), (3, pw W1 0), (49, vF), (50, pw w 210)] fun _ => rF 42 51 210 (vI f.chunk) hI.sz (qT ch2 hb1) 24<|rP 43 52 (pw W1 210)<|rF 44 53 210 (vI g.chunk) hJ.sz hb2 24 ?_
    by_cases hx4 : f.chunk ≠ g.chunk
    ·exact nT 45 54 f.chunk g.chunk<|mV 156 19 46 [(49, vF), (54, vT)] 73 vT fun _ => eN<|cT<|sR<|rP 0 4 vF<|eN<|tR<|rt vF (noB (fun e_ => absurd (congrArg (fun x_ : Frm => x_.chunk) e_) (by first | exact hx4 | omega)) (kA (zA ch1 : Chg [] w W1) ch2))
    refine nF 45 54 f.chunk g.chunk<|rP 46 55 vF<|rP 47 56 vF<|rP 48 57 (pw w 211)<|rF 49 58 211 (.slice z.y.A z.y.n z.y.c) hI.sz (qT ch2 hb1) 25 ?_
    have kk10 := kA (zA ch1 : Chg [] w W1) ch2
    refine rq 50 59 (.string (Mur.str f.byt)) rfl (run_str 22 9 (.tmp 58) 5 rfl Tryz.underlying22 Tryz.underlying5 Tryz.underlying9 z.y.A z.y.n z.y.c f.byt (by kernel_rfl) (byt_chg hL.byt kk10 (fun g off e hl => trivial)))<|rP 51 60 (pw W1 211)<|rF 52 61 211 (.slice y.y.A y.y.n y.y.c) hJ.sz hb2 25<|rq 53 62 (.string (Mur.str g.byt)) rfl (run_str 22 9 (.tmp 61) 5 rfl Tryz.underlying22 Tryz.underlying5 Tryz.underlying9 y.y.A y.y.n y.y.c g.byt (by kernel_rfl) (byt_chg hM.byt kk10 (fun g off e hl => trivial))) ?_
    by_cases hx5 : f.byt ≠ g.byt
    ·exact rq 54 63 _ rfl (dqT (hx5) (Mur.strne 9 9 (.tmp 59) (.tmp 62) rfl f.byt g.byt (by kernel_rfl) (by kernel_rfl)))<|mV 156 10 55 [(56, vF), (63, vT)] 73 vT fun _ => eN<|cT<|sR<|rP 0 4 vF<|eN<|tR<|rt vF (noB (fun e_ => absurd (congrArg (fun x_ : Frm => x_.byt) e_) (hx5)) kk10)
    refine rq 54 63 _ rfl (dqF (hx5) (Mur.strne 9 9 (.tmp 59) (.tmp 62) rfl f.byt g.byt (by kernel_rfl) (by kernel_rfl)))<|rP 55 64 vF<|mN 156 [(2, pw w 0), (3, pw W1 0), (64, vF)] fun _ => rP 56 65 vF<|rP 57 66 (pw w 212)<|rF 58 67 212 (.slice z.f.A z.f.n z.f.c) hI.sz (qT ch2 hb1) 26<|rP 59 68 (vI z.f.n)<|rP 60 69 (pw W1 212)<|rF 61 70 212 (.slice y.f.A y.f.n y.f.c) hJ.sz hb2 26<|rP 62 71 (vI y.f.n) ?_
    by_cases hx6 : (z.f.n : Int) ≠ (y.f.n : Int)
    ·exact nT 63 72 (z.f.n : Int) (y.f.n : Int)<|rP 64 73 vT<|eN<|cT<|sR<|rP 0 4 vF<|eN<|tR<|rt vF (noB (fun e_ => by have h1_ : f.prf.length = g.prf.length := congrArg (fun x_ : Frm => x_.prf.length) e_; have h2_ : f.pUpd.length = g.pUpd.length := congrArg (fun x_ : Frm => x_.pUpd.length) e_; omega) kk10)
    refine nF 63 72 (z.f.n : Int) (y.f.n : Int)<|rP 64 73 vF<|eN<|cF<|wp_skip<|nxt<|wp_seq<|sR<|rP 0 5 (vI 0)<|eN<|wp_block<|?_
    have hne_A : z.f.n = y.f.n := by omega
    refine Wk.loop (fun m_ a wr => ∃ (iA : Nat), m_ = z.f.n - iA ∧ a = S25_F1 a.tmps (pw w 0) (pw W1 0) (vI iA) ∧ iA ≤ z.f.n ∧ f.prf.take iA = g.prf.take iA ∧ wr.heap[w.heap.size]? = some (.cells (frmP f z).flatten.toArray 38 (0, 0)) ∧ wr.heap[W1.heap.size]? = some (.cells (frmP g y).flatten.toArray 38 (0, 0)) ∧ Chg [] w wr) (z.f.n - 0) ?_ ?_
    ·refine ⟨0, rfl, by kernel_rfl, (by omega), rfl, (qT ch2 hb1), hb2, kk10⟩
    rintro mm1 aa1 W3 ⟨iA, hmm1, hF1, hi_A, htkA, hbxA0, hbxA1, HB⟩
    generalize aa1.tmps = bb10 at hF1
    subst hF1
    have hzB := HB.size
    have hbs0_ := (Array.getElem?_eq_some_iff.1 hbxA0).1
    have hbs1_ := (Array.getElem?_eq_some_iff.1 hbxA1).1
    by_cases hlt : iA < z.f.n
    ·obtain ⟨xa, hxa⟩ : ∃ x_, f.prf[iA]? = some x_ := ⟨_, List.getElem?_eq_getElem (by omega)⟩
     obtain ⟨g1, o1, hAxa_, hr1⟩ := hL.prf.row (map_at b8s hxa) (by decide)
     obtain ⟨xb, hxb⟩ : ∃ x_, g.prf[iA]? = some x_ := ⟨_, List.getElem?_eq_getElem (by omega)⟩
     obtain ⟨g2, o2, hAxb_, hr2⟩ := hM.prf.row (map_at b8s hxb) (by decide)
     refine wp_seq<|sR<|rP 0 74 (vI iA)<|rP 1 75 (pw w 212)<|rF 2 76 212 (.slice z.f.A z.f.n z.f.c) hI.sz hbxA0 26<|rP 3 77 (vI z.f.n)<|bT 4 78 ((iA : Int) < (z.f.n : Int))<|eN<|cT<|wp_skip<|nxt<|wp_seq<|wp_block<|wp_seq<|?_
     refine dReg ([]) (by kernel_rfl) ?_
     intro W4 ch3 sz3
     have zz3 := ch3.size
     have sS1 : Chg ([]) W4 W4 := (Chg.refl _).more (by simp)
     refine dW 0 81 (pw w 212) sS1<|dV 1 82 (.slice z.f.A z.f.n z.f.c) rfl rfl (fun w' hw' => fl 36 81 w.heap.size 212 (.slice z.f.A z.f.n z.f.c) hI.sz (qT hw' (qT ch3 hbxA0)) 26) sS1<|dW 2 83 (vI iA) sS1<|dV 3 84 (pt g1 (o1 + iA * 32)) rfl rfl (fun w' hw' => index_sl 36 28 (.tmp 82) (.tmp 83) rfl Tryz.underlying36 32 (by kernel_rfl) g1 o1 z.f.n z.f.c iA .i64 (by rw [← hAxa_]; kernel_rfl) (by kernel_rfl) (by omega)) sS1 ?_
     have kk11 := kA HB ch3
     refine dV 4 85 _ rfl rfl (fun w' hw' => lR (o1 + iA * 32) (b8s xa) (Chg.range hw' (Chg.range kk11 hr1 trivial) trivial) (by rw [b8s_length, hI.ok.prf xa (List.mem_of_getElem? hxa)]; kernel_rfl)) sS1<|dW 5 86 (pw W1 212) sS1<|dV 6 87 (.slice y.f.A y.f.n y.f.c) rfl rfl (fun w' hw' => fl 36 86 W1.heap.size 212 (.slice y.f.A y.f.n y.f.c) hJ.sz (qT hw' (qT ch3 hbxA1)) 26) sS1<|dW 7 88 (vI iA) sS1<|dV 8 89 (pt g2 (o2 + iA * 32)) rfl rfl (fun w' hw' => index_sl 36 28 (.tmp 87) (.tmp 88) rfl Tryz.underlying36 32 (by kernel_rfl) g2 o2 y.f.n y.f.c iA .i64 (by rw [← hAxb_]; kernel_rfl) (by kernel_rfl) (by omega)) sS1<|dV 9 90 _ rfl rfl (fun w' hw' => lR (o2 + iA * 32) (b8s xb) (Chg.range hw' (Chg.range kk11 hr2 trivial) trivial) (by rw [b8s_length, hJ.ok.prf xb (List.mem_of_getElem? hxb)]; kernel_rfl)) sS1 ?_
     by_cases hpr4 : xa = xb
     ·refine dV 10 91 vF rfl rfl (fun w' hw' => nqF hpr4 (run_neq_dg digT xa xb (hI.ok.prf xa (List.mem_of_getElem? hxa)) (hJ.ok.prf xb (List.mem_of_getElem? hxb)) _ (.tmp 85) (.tmp 90) 28 rfl (by kernel_rfl) (by kernel_rfl))) sS1<|dN<|cF<|wp_skip<|inN<|nxt<|reg<|rP 0 79 (vI iA)<|rI 1 80 ((iA : Int) + 1) (((iA + 1 : Nat) : Int))<|rP 2 5 (vI (iA + 1 : Nat))<|eN<|?_
      refine ⟨_, ?_, iA + 1, rfl, by kernel_rfl, (by omega), (by rw [take_sn hxa, take_sn hxb, htkA, hpr4]), (qT ch3 hbxA0), (qT ch3 hbxA1), kk11⟩
      omega
     exact dV 10 91 vT rfl rfl (fun w' hw' => nqT hpr4 (run_neq_dg digT xa xb (hI.ok.prf xa (List.mem_of_getElem? hxa)) (hJ.ok.prf xb (List.mem_of_getElem? hxb)) _ (.tmp 85) (.tmp 90) 28 rfl (by kernel_rfl) (by kernel_rfl))) sS1<|dN<|cT<|sR<|rP 0 4 vF<|eN<|tI<|thR<|inR<|thR<|rt vF (noB (fun e_ => absurd (Option.some.inj (by rw [← hxa, ← hxb, e_])) hpr4) kk11)
    rw [List.take_of_length_le (show f.prf.length ≤ iA by omega), List.take_of_length_le (show g.prf.length ≤ iA by omega)] at htkA
    refine wp_seq<|sR<|rP 0 74 (vI iA)<|rP 1 75 (pw w 212)<|rF 2 76 212 (.slice z.f.A z.f.n z.f.c) hI.sz hbxA0 26<|rP 3 77 (vI z.f.n)<|bF 4 78 ((iA : Int) < (z.f.n : Int))<|eN<|cF<|xX<|nxt<|wp_seq<|?_
    refine Wk.cut (fun a wj => ∃ (q6 : Nat) (q7 : Nat), a = S25_J8_1 a.tmps (pw w 0) (pw W1 0) (pt q6 0) (pt q7 0) ∧ Chg [] W3 wj ∧ wj.heap[q6]? = some (.cells #[vI f.pTo, vB f.pKind.toNat, vU f.pSeq, vI f.pAbout, .slice z.u.A z.u.n z.u.c] 26 (0, 0)) ∧ wj.heap[q7]? = some (.cells #[vI g.pTo, vB g.pKind.toNat, vU g.pSeq, vI g.pAbout, .slice y.u.A y.u.n y.u.c] 26 (0, 0))) ?_ ?_
    ·refine dReg ([]) (by kernel_rfl) ?_
     intro W5 ch4 sz4
     have zz4 := ch4.size
     have sS2 : Chg ([]) W5 W5 := (Chg.refl _).more (by simp)
     refine dW 0 92 (pw w 3) sS2<|dV 1 93 _ rfl rfl (fun w' hw' => lR 3 [vI f.pTo, vB f.pKind.toNat, vU f.pSeq, vI f.pAbout, .slice z.u.A z.u.n z.u.c] (sgR hI.sz (qT hw' (qT ch4 hbxA0)) 3 5 rfl)) sS2<|dW 2 94 (pw W1 3) sS2<|dV 3 95 _ rfl rfl (fun w' hw' => lR 3 [vI g.pTo, vB g.pKind.toNat, vU g.pSeq, vI g.pAbout, .slice y.u.A y.u.n y.u.c] (sgR hJ.sz (qT hw' (qT ch4 hbxA1)) 3 5 rfl)) sS2 ?_
     refine dOp2 4 5 (by kernel_rfl) ?_ ?_
     ·refine oN 6 #[vI 0, vB 0, vU 0, vI 0, .slice none 0 0] 26 fun W6 hb3 ch5 sz5 => ?_
      have sS3 := kA sS2 ch5
      refine aN sS3<|dO 5<|oN 7 #[vI 0, vB 0, vU 0, vI 0, .slice none 0 0] 26 fun W7 hb4 ch6 sz6 => ?_
      have sS4 := kA sS3 ch6
      refine aN sS4<|dO 6<|oU rfl (Wk.storeR 26 (.tmp 6) (.tmp 93) rfl W5.heap.size 0 (by kernel_rfl) ([vI f.pTo, vB f.pKind.toNat, vU f.pSeq, vI f.pAbout, .slice z.u.A z.u.n z.u.c]) (by kernel_rfl) (by kernel_rfl) (by intro v hv; simp at hv; rcases hv with h | h | h | h | h <;> (subst h; rfl)) 26 ([vI 0, vB 0, vU 0, vI 0, .slice none 0 0]) (qT ch6 hb3) (by simp)) fun W8 hb5 ch7 _ => ?_
      replace hb5 : W8.heap[W5.heap.size]? = some (.cells #[vI f.pTo, vB f.pKind.toNat, vU f.pSeq, vI f.pAbout, .slice z.u.A z.u.n z.u.c] 26 (0, 0)) := hb5
      have zz7 := ch7.size
      have sS5 := kB sS4 ch7
      refine aN sS5<|dO 7<|oU rfl (Wk.storeR 26 (.tmp 7) (.tmp 95) rfl W6.heap.size 0 (by kernel_rfl) ([vI g.pTo, vB g.pKind.toNat, vU g.pSeq, vI g.pAbout, .slice y.u.A y.u.n y.u.c]) (by kernel_rfl) (by kernel_rfl) (by intro v hv; simp at hv; rcases hv with h | h | h | h | h <;> (subst h; rfl)) 26 ([vI 0, vB 0, vU 0, vI 0, .slice none 0 0]) (qO ch7 hb4) (by simp)) fun W10 hb6 ch8 _ => ?_
      replace hb6 : W10.heap[W6.heap.size]? = some (.cells #[vI g.pTo, vB g.pKind.toNat, vU g.pSeq, vI g.pAbout, .slice y.u.A y.u.n y.u.c] 26 (0, 0)) := hb6
      have zz8 := ch8.size
      have sS6 := kB sS5 ch8
      refine aN sS6<|dN<|?_
      exact ⟨W5.heap.size, W6.heap.size, by kernel_rfl, (Chg.step (Chg.step (Chg.step (Chg.step (Chg.step ((Chg.refl _).more (by simp) : Chg [] W3 W3) ch4 trivial) ch5 trivial) ch6 trivial) ch7 ⟨.inr (by omega), trivial⟩) ch8 ⟨.inr (by omega), trivial⟩), (qO ch8 hb5), hb6⟩
     refine oN 7 #[vI 0, vB 0, vU 0, vI 0, .slice none 0 0] 26 fun W11 hb7 ch9 sz7 => ?_
     have sS7 := kA sS2 ch9
     refine aN sS7<|dO 4<|oN 6 #[vI 0, vB 0, vU 0, vI 0, .slice none 0 0] 26 fun W12 hb8 ch10 sz8 => ?_
     have sS8 := kA sS7 ch10
     refine aN sS8<|dO 6<|oU rfl (Wk.storeR 26 (.tmp 6) (.tmp 93) rfl W11.heap.size 0 (by kernel_rfl) ([vI f.pTo, vB f.pKind.toNat, vU f.pSeq, vI f.pAbout, .slice z.u.A z.u.n z.u.c]) (by kernel_rfl) (by kernel_rfl) (by intro v hv; simp at hv; rcases hv with h | h | h | h | h <;> (subst h; rfl)) 26 ([vI 0, vB 0, vU 0, vI 0, .slice none 0 0]) hb8 (by simp)) fun W13 hb9 ch11 _ => ?_
     replace hb9 : W13.heap[W11.heap.size]? = some (.cells #[vI f.pTo, vB f.pKind.toNat, vU f.pSeq, vI f.pAbout, .slice z.u.A z.u.n z.u.c] 26 (0, 0)) := hb9
     have zz11 := ch11.size
     have sS9 := kB sS8 ch11
     refine aN sS9<|dO 7<|oU rfl (Wk.storeR 26 (.tmp 7) (.tmp 95) rfl W5.heap.size 0 (by kernel_rfl) ([vI g.pTo, vB g.pKind.toNat, vU g.pSeq, vI g.pAbout, .slice y.u.A y.u.n y.u.c]) (by kernel_rfl) (by kernel_rfl) (by intro v hv; simp at hv; rcases hv with h | h | h | h | h <;> (subst h; rfl)) 26 ([vI 0, vB 0, vU 0, vI 0, .slice none 0 0]) (qO ch11 (qT ch10 hb7)) (by simp)) fun W14 hb10 ch12 _ => ?_
     replace hb10 : W14.heap[W5.heap.size]? = some (.cells #[vI g.pTo, vB g.pKind.toNat, vU g.pSeq, vI g.pAbout, .slice y.u.A y.u.n y.u.c] 26 (0, 0)) := hb10
     have zz12 := ch12.size
     have sS10 := kB sS9 ch12
     refine aN sS10<|dN<|?_
     exact ⟨W11.heap.size, W5.heap.size, by kernel_rfl, (Chg.step (Chg.step (Chg.step (Chg.step (Chg.step ((Chg.refl _).more (by simp) : Chg [] W3 W3) ch4 trivial) ch9 trivial) ch10 trivial) ch11 ⟨.inr (by omega), trivial⟩) ch12 ⟨.inr (by omega), trivial⟩), (qO ch12 hb9), hb10⟩
    rintro aa2 W15 ⟨q6, q7, hF2, ch13, hq6, hq7⟩
    have zz13 := ch13.size
    generalize aa2.tmps = bb11 at hF2
    subst hF2
    refine nxt<|wp_seq<|sR<|rP 0 96 (pt q6 0)<|rL 1 97 0 (vI f.pTo) hq6<|rP 2 98 (pt q7 0)<|rL 3 99 0 (vI g.pTo) hq7 ?_
    by_cases hx7 : f.pTo ≠ g.pTo
    ·exact nT 4 100 f.pTo g.pTo<|mV 156 30 5 [(100, vT)] 130 vT fun _ => eN<|cT<|sR<|rP 0 4 vF<|eN<|tR<|rt vF (noB (fun e_ => absurd (congrArg (fun x_ : Frm => x_.pTo) e_) (by first | exact hx7 | omega)) (kA HB ch13))
    refine nF 4 100 f.pTo g.pTo<|rP 5 101 vF<|rP 6 102 (pt q6 1)<|rL 7 103 1 (vB f.pKind.toNat) hq6<|rP 8 104 (pt q7 1)<|rL 9 105 1 (vB g.pKind.toNat) hq7 ?_
    by_cases hx8 : (f.pKind.toNat : Int) ≠ (g.pKind.toNat : Int)
    ·exact nT 10 106 (f.pKind.toNat : Int) (g.pKind.toNat : Int)<|mV 156 24 11 [(101, vF), (106, vT)] 130 vT fun _ => eN<|cT<|sR<|rP 0 4 vF<|eN<|tR<|rt vF (noB (fun e_ => absurd (congrArg (fun x_ : Frm => (x_.pKind.toNat : Int)) e_) (by first | exact hx8 | omega)) (kA HB ch13))
    refine nF 10 106 (f.pKind.toNat : Int) (g.pKind.toNat : Int)<|rP 11 107 vF<|rP 12 108 vF<|rP 13 109 (pt q6 2)<|mN 156 [(2, pw w 0), (3, pw W1 0), (6, pt q6 0), (7, pt q7 0), (108, vF), (109, pt q6 2)] fun _ => rL 14 110 2 (vU f.pSeq) hq6<|rP 15 111 (pt q7 2)<|rL 16 112 2 (vU g.pSeq) hq7 ?_
    by_cases hx9 : (f.pSeq : Int) ≠ (g.pSeq : Int)
    ·exact nT 17 113 (f.pSeq : Int) (g.pSeq : Int)<|mV 156 17 18 [(108, vF), (113, vT)] 130 vT fun _ => eN<|cT<|sR<|rP 0 4 vF<|eN<|tR<|rt vF (noB (fun e_ => absurd (congrArg (fun x_ : Frm => (x_.pSeq : Int)) e_) (by first | exact hx9 | omega)) (kA HB ch13))
    refine nF 17 113 (f.pSeq : Int) (g.pSeq : Int)<|rP 18 114 vF<|rP 19 115 vF<|rP 20 116 (pt q6 3)<|rL 21 117 3 (vI f.pAbout) hq6<|rP 22 118 (pt q7 3)<|rL 23 119 3 (vI g.pAbout) hq7 ?_
    by_cases hx10 : f.pAbout ≠ g.pAbout
    ·exact nT 24 120 f.pAbout g.pAbout<|mV 156 10 25 [(115, vF), (120, vT)] 130 vT fun _ => eN<|cT<|sR<|rP 0 4 vF<|eN<|tR<|rt vF (noB (fun e_ => absurd (congrArg (fun x_ : Frm => x_.pAbout) e_) (by first | exact hx10 | omega)) (kA HB ch13))
    refine nF 24 120 f.pAbout g.pAbout<|rP 25 121 vF<|rP 26 122 vF<|rP 27 123 (pt q6 4)<|mN 156 [(2, pw w 0), (3, pw W1 0), (6, pt q6 0), (7, pt q7 0), (122, vF), (123, pt q6 4)] fun _ => rL 28 124 4 (.slice z.u.A z.u.n z.u.c) hq6<|rP 29 125 (vI z.u.n)<|rP 30 126 (pt q7 4)<|rL 31 127 4 (.slice y.u.A y.u.n y.u.c) hq7<|rP 32 128 (vI y.u.n) ?_
    by_cases hx11 : (z.u.n : Int) ≠ (y.u.n : Int)
    ·exact nT 33 129 (z.u.n : Int) (y.u.n : Int)<|rP 34 130 vT<|eN<|cT<|sR<|rP 0 4 vF<|eN<|tR<|rt vF (noB (fun e_ => by have h1_ : f.prf.length = g.prf.length := congrArg (fun x_ : Frm => x_.prf.length) e_; have h2_ : f.pUpd.length = g.pUpd.length := congrArg (fun x_ : Frm => x_.pUpd.length) e_; omega) (kA HB ch13))
    refine nF 33 129 (z.u.n : Int) (y.u.n : Int)<|rP 34 130 vF<|eN<|cF<|wp_skip<|nxt<|wp_seq<|sR<|rP 0 8 (vI 0)<|eN<|wp_block<|?_
    have hne_B : z.u.n = y.u.n := by omega
    refine Wk.loop (fun m_ a wr => ∃ (iB : Nat), m_ = z.u.n - iB ∧ a = S25_F2 a.tmps (pw w 0) (pw W1 0) (pt q6 0) (pt q7 0) (vI iB) ∧ iB ≤ z.u.n ∧ f.pUpd.take iB = g.pUpd.take iB ∧ wr.heap[w.heap.size]? = some (.cells (frmP f z).flatten.toArray 38 (0, 0)) ∧ wr.heap[W1.heap.size]? = some (.cells (frmP g y).flatten.toArray 38 (0, 0)) ∧ wr.heap[q6]? = some (.cells #[vI f.pTo, vB f.pKind.toNat, vU f.pSeq, vI f.pAbout, .slice z.u.A z.u.n z.u.c] 26 (0, 0)) ∧ wr.heap[q7]? = some (.cells #[vI g.pTo, vB g.pKind.toNat, vU g.pSeq, vI g.pAbout, .slice y.u.A y.u.n y.u.c] 26 (0, 0)) ∧ Chg [] w wr) (z.u.n - 0) ?_ ?_
    ·have kk17 := kA HB ch13
     refine ⟨0, rfl, by kernel_rfl, (by omega), rfl, (qT ch13 hbxA0), (qT ch13 hbxA1), hq6, hq7, kk17⟩
    rintro mm2 aa3 W16 ⟨iB, hmm2, hF3, hi_B, htkB, hbxB0, hbxB1, hbxB2, hbxB3, HB⟩
    generalize aa3.tmps = bb18 at hF3
    subst hF3
    have hzB := HB.size
    have hbs0_ := (Array.getElem?_eq_some_iff.1 hbxB0).1
    have hbs1_ := (Array.getElem?_eq_some_iff.1 hbxB1).1
    have hbs2_ := (Array.getElem?_eq_some_iff.1 hbxB2).1
    have hbs3_ := (Array.getElem?_eq_some_iff.1 hbxB3).1
    by_cases hlt : iB < z.u.n
    ·obtain ⟨xa, hxa⟩ : ∃ x_, f.pUpd[iB]? = some x_ := ⟨_, List.getElem?_eq_getElem (by omega)⟩
     obtain ⟨g1, o1, hAxa_, hr1⟩ := hL.upd.row (map_at updC hxa) (by decide)
     obtain ⟨xb, hxb⟩ : ∃ x_, g.pUpd[iB]? = some x_ := ⟨_, List.getElem?_eq_getElem (by omega)⟩
     obtain ⟨g2, o2, hAxb_, hr2⟩ := hM.upd.row (map_at updC hxb) (by decide)
     refine wp_seq<|sR<|rP 0 131 (vI iB)<|rP 1 132 (pt q6 4)<|rL 2 133 4 (.slice z.u.A z.u.n z.u.c) hbxB2<|rP 3 134 (vI z.u.n)<|bT 4 135 ((iB : Int) < (z.u.n : Int))<|eN<|cT<|wp_skip<|nxt<|wp_seq<|wp_block<|wp_seq<|?_
     refine dReg ([]) (by kernel_rfl) ?_
     intro W17 ch14 sz9
     have zz14 := ch14.size
     have sS11 : Chg ([]) W17 W17 := (Chg.refl _).more (by simp)
     refine dW 0 138 (pt q6 4) sS11<|dV 1 139 (.slice z.u.A z.u.n z.u.c) rfl rfl (fun w' hw' => ld 24 138 q6 4 (.slice z.u.A z.u.n z.u.c) ((cell_of_row _ _ 4 _ _ _ (qT hw' (qT ch14 hbxB2))).trans rfl)) sS11<|dW 2 140 (vI iB) sS11<|dV 3 141 (pt g1 (o1 + iB * 3)) rfl rfl (fun w' hw' => index_sl 24 61 (.tmp 139) (.tmp 140) rfl Tryz.underlying24 3 (by kernel_rfl) g1 o1 z.u.n z.u.c iB .i64 (by rw [← hAxa_]; kernel_rfl) (by kernel_rfl) (by omega)) sS11 ?_
     have kk18 := kA HB ch14
     refine dV 4 142 _ rfl rfl (fun w' hw' => lR (o1 + iB * 3) (updC xa) (Chg.range hw' (Chg.range kk18 hr1 trivial) trivial)) sS11<|dW 5 143 (pt q7 4) sS11<|dV 6 144 (.slice y.u.A y.u.n y.u.c) rfl rfl (fun w' hw' => ld 24 143 q7 4 (.slice y.u.A y.u.n y.u.c) ((cell_of_row _ _ 4 _ _ _ (qT hw' (qT ch14 hbxB3))).trans rfl)) sS11<|dW 7 145 (vI iB) sS11<|dV 8 146 (pt g2 (o2 + iB * 3)) rfl rfl (fun w' hw' => index_sl 24 61 (.tmp 144) (.tmp 145) rfl Tryz.underlying24 3 (by kernel_rfl) g2 o2 y.u.n y.u.c iB .i64 (by rw [← hAxb_]; kernel_rfl) (by kernel_rfl) (by omega)) sS11<|dV 9 147 _ rfl rfl (fun w' hw' => lR (o2 + iB * 3) (updC xb) (Chg.range hw' (Chg.range kk18 hr2 trivial) trivial)) sS11 ?_
     by_cases hpr5 : xa = xb
     ·refine dV 10 148 vF rfl rfl (fun w' hw' => nqF hpr5 (run_neq_upd (.tmp 142) (.tmp 147) 61 rfl (wf64 (hI.upd xa (List.mem_of_getElem? hxa)).1 (hI.upd xa (List.mem_of_getElem? hxa)).2) (wf64 (hJ.upd xb (List.mem_of_getElem? hxb)).1 (hJ.upd xb (List.mem_of_getElem? hxb)).2) (hI.ok.upd xa (List.mem_of_getElem? hxa)) (hJ.ok.upd xb (List.mem_of_getElem? hxb)) (by kernel_rfl) (by kernel_rfl))) sS11<|dN<|cF<|wp_skip<|inN<|nxt<|reg<|rP 0 136 (vI iB)<|rI 1 137 ((iB : Int) + 1) (((iB + 1 : Nat) : Int))<|rP 2 8 (vI (iB + 1 : Nat))<|eN<|?_
      refine ⟨_, ?_, iB + 1, rfl, by kernel_rfl, (by omega), (by rw [take_sn hxa, take_sn hxb, htkB, hpr5]), (qT ch14 hbxB0), (qT ch14 hbxB1), (qT ch14 hbxB2), (qT ch14 hbxB3), kk18⟩
      omega
     exact dV 10 148 vT rfl rfl (fun w' hw' => nqT hpr5 (run_neq_upd (.tmp 142) (.tmp 147) 61 rfl (wf64 (hI.upd xa (List.mem_of_getElem? hxa)).1 (hI.upd xa (List.mem_of_getElem? hxa)).2) (wf64 (hJ.upd xb (List.mem_of_getElem? hxb)).1 (hJ.upd xb (List.mem_of_getElem? hxb)).2) (hI.ok.upd xa (List.mem_of_getElem? hxa)) (hJ.ok.upd xb (List.mem_of_getElem? hxb)) (by kernel_rfl) (by kernel_rfl))) sS11<|dN<|cT<|sR<|rP 0 4 vF<|eN<|tI<|thR<|inR<|thR<|rt vF (noB (fun e_ => absurd (Option.some.inj (by rw [← hxa, ← hxb, e_])) hpr5) kk18)
    rw [List.take_of_length_le (show f.pUpd.length ≤ iB by omega), List.take_of_length_le (show g.pUpd.length ≤ iB by omega)] at htkB
    refine wp_seq<|sR<|rP 0 131 (vI iB)<|rP 1 132 (pt q6 4)<|rL 2 133 4 (.slice z.u.A z.u.n z.u.c) hbxB2<|rP 3 134 (vI z.u.n)<|bF 4 135 ((iB : Int) < (z.u.n : Int))<|eN<|cF<|xX<|nxt<|sR<|rP 0 149 (pw w 8)<|rq 1 150 _ rfl (lR 8 (Mur.msgC f.gos.kind z.p.A z.p.n z.p.c f.gos.sum f.gos.cnt z.i.A z.i.n z.i.c f.gos.ans) (sgR hI.sz hbxB0 8 6 rfl) (by rw [msgC_length hI.ok.sum]; kernel_rfl))<|rX 2 151 rfl rfl (Mur.buildR1 67 31 (.tmp 150) rfl Tryz.underlying67 Mur.msgZ 37 104 msgI (msgC_length rfl) (by decide) (by decide) (Mur.msgC f.gos.kind z.p.A z.p.n z.p.c f.gos.sum f.gos.cnt z.i.A z.i.n z.i.c f.gos.ans) (msgC_length hI.ok.sum) (by kernel_rfl)) ?_
    rintro _ W18 ⟨rfl, hb11, ch15, sz10⟩
    have zz15 := ch15.size
    refine rP 3 152 (pw W1 8)<|rq 4 153 _ rfl (lR 8 (Mur.msgC g.gos.kind y.p.A y.p.n y.p.c g.gos.sum g.gos.cnt y.i.A y.i.n y.i.c g.gos.ans) (sgR hJ.sz (qT ch15 hbxB1) 8 6 rfl) (by rw [msgC_length hJ.ok.sum]; kernel_rfl))<|rX 5 154 rfl rfl (Mur.buildR1 67 31 (.tmp 153) rfl Tryz.underlying67 Mur.msgZ 37 104 msgI (msgC_length rfl) (by decide) (by decide) (Mur.msgC g.gos.kind y.p.A y.p.n y.p.c g.gos.sum g.gos.cnt y.i.A y.i.n y.i.c g.gos.ans) (msgC_length hJ.ok.sum) (by kernel_rfl)) ?_
    rintro _ W19 ⟨rfl, hb12, ch16, sz11⟩
    have zz16 := ch16.size
    have kk20 := kA (kA HB ch15) ch16
    refine rK 6 155 (Same21_any W16.heap.size W18.heap.size f.gos.kind z.p.A z.p.n z.p.c f.gos.sum f.gos.cnt z.i.A z.i.n z.i.c f.gos.ans f.gos.pre f.gos.items g.gos.kind y.p.A y.p.n y.p.c g.gos.sum g.gos.cnt y.i.A y.i.n y.i.c g.gos.ans g.gos.pre g.gos.items W19 hI.ok.sum hJ.ok.sum (qT ch16 hb11) hb12 (LiesF.chg hL kk20 hLin_).pre (LiesF.chg hM kk20 hMin_).pre (LiesF.chg hL kk20 hLin_).its (LiesF.chg hM kk20 hMin_).its (by omega)) ?_
    rintro _ W20 ⟨bv1, rfl, hif1, ch17⟩
    have zz17 := ch17.size
    cases bv1
    ·exact rP 7 4 vF<|eN<|wp_ret<|rt vF (noB (fun e_ => absurd (msg_eq.1 (congrArg (fun x_ : Frm => x_.gos) e_)) (fun q_ => Bool.noConfusion (hif1.2 q_))) (kA kk20 ch17))
    exact rP 7 4 vT<|eN<|wp_ret<|rt vT (yesB (Mur.frm_eq2 (UInt8.toNat_inj.1 (by have h_ := (Classical.not_not.1 (by first | exact hx1 | omega)); omega)) (Classical.not_not.1 (by first | exact hx2 | omega)) (Classical.not_not.1 (by first | exact hx3 | omega)) hpr1 hpr2 hpr3 (Classical.not_not.1 (by first | exact hx4 | omega)) (Classical.not_not.1 (hx5)) htkA (Classical.not_not.1 (by first | exact hx7 | omega)) (UInt8.toNat_inj.1 (by have h_ := (Classical.not_not.1 (by first | exact hx8 | omega)); omega)) (by have h_ := (Classical.not_not.1 (by first | exact hx9 | omega)); omega) (Classical.not_not.1 (by first | exact hx10 | omega)) htkB (msg_eq.2 (hif1.1 rfl))) (kA kk20 ch17))
   exact rq 38 47 _ rfl (nqT hpr3 (run_neq_dg digT f.root g.root hI.ok.root hJ.ok.root _ (.tmp 44) (.tmp 46) 28 rfl (by kernel_rfl) (by kernel_rfl)))<|mV 156 26 39 [(42, vF), (47, vT)] 73 vT fun _ => eN<|cT<|sR<|rP 0 4 vF<|eN<|tR<|rt vF (noB (fun e_ => absurd (congrArg (fun x_ : Frm => x_.root) e_) hpr3) (kA (zA ch1 : Chg [] w W1) ch2))
  exact rq 31 40 _ rfl (nqT (fun q_ => hpr2 ((Mur.Att.eq_iff f.att g.att).2 q_)) (run_neq_att (.tmp 37) (.tmp 39) 35 rfl f.att.hk f.att.hr f.att.ht g.att.hk g.att.hr g.att.ht f.att.hn g.att.hn (by kernel_rfl) (by kernel_rfl)))<|mV 156 33 32 [(35, vF), (40, vT)] 73 vT fun _ => eN<|cT<|sR<|rP 0 4 vF<|eN<|tR<|rt vF (noB (fun e_ => absurd (congrArg (fun x_ : Frm => x_.att) e_) hpr2) (kA (zA ch1 : Chg [] w W1) ch2))
 exact rq 24 33 _ rfl (nqT hpr1 (run_neq_claim (.tmp 30) (.tmp 32) 33 rfl hI.ok.key hJ.ok.key (wf64 hI.cNo.1 hI.cNo.2) (wf64 hJ.cNo.1 hJ.cNo.2) hI.ok.inc hJ.ok.inc hI.ok.cnt hJ.ok.cnt (by kernel_rfl) (by kernel_rfl)))<|mV 156 40 25 [(28, vF), (33, vT)] 73 vT fun _ => eN<|cT<|sR<|rP 0 4 vF<|eN<|tR<|rt vF (noB (fun e_ => absurd ⟨(congrArg (fun x_ : Frm => x_.cKey) e_), (congrArg (fun x_ : Frm => x_.cNode) e_), (congrArg (fun x_ : Frm => x_.cInc) e_), (congrArg (fun x_ : Frm => x_.cCnt) e_), (congrArg (fun x_ : Frm => x_.cGone) e_)⟩ hpr1) (kA (zA ch1 : Chg [] w W1) ch2))
end Go.Proofs.YtgbadghjnpbiaaaGreatDoor
