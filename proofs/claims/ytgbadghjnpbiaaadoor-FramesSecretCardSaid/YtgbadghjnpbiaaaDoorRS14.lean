/- What the row rests on, part 14. -/
import Derived.Test.YtgbadghjnpbiaaaDoorRS8
import Derived.Test.YtgbadghjnpbiaaaDoorRS13
import Derived.Test.YtgbadghjnpbiaaaDoorRS9
import Derived.Test.YtgbadghjnpbiaaaDoorRS7
namespace Go.Proofs.YtgbadghjnpbiaaaDoor
open Go.RowKit Wk
open Mur (b8s Byt Own8 Seg Segs flat cutA attC Att SlA OwnA rowA msgC frmP zs0 frmL sl0 z32 run_built frmL_size frmL_sz frmL_all hmac_length byt_row lies_none want_in bytesFM want_bytes want_read clm_read headM frmIn_head run_str byt_chg)
set_option maxRecDepth 100000
set_option maxHeartbeats 4000000
theorem Want_any (b : Int) (w : World) : Calls Tryd.prog 14 #[.int .i64 b] w fun e w' => e = .returned (.agg (frmP (Mur.wantM b) zs0).flatten.toArray) ∧ Chg [] w w' := by
 refine calls_of_wp Tryd.func14 rfl ?_
 refine sR<|nW 0 2 ((frmh 0 0 0).flatten.toArray) 39 fun W1 hb1 ch1 sz1 => eN<|sR<|rP 0 3 (.int .i64 b)<|rq 1 4 (.agg ((frmL 5 1 b 0 0 0 0 sl0 0 sl0 z32 0 sl0 false z32 0 0 0 false z32 z32 0 z32 z32 3 sl0 sl0).flatten.toArray)) rfl (run_built 39 _ rfl [(0, .int .u8 5), (1, .int .i64 1), (2, .int .i64 b), (8, .int .i64 3)] (by kernel_rfl) _ (built_want b))<|rU 2 rfl (sA (frmL 5 1 b 0 0 0 0 sl0 0 sl0 z32 0 sl0 false z32 0 0 0 false z32 z32 0 z32 z32 3 sl0 sl0).flatten.toArray (frmL_size (frmL_sz rfl rfl rfl rfl rfl rfl)) hb1 (frmL_size (frmL_sz rfl rfl rfl rfl rfl rfl))) fun W2 hb2 ch2 zz2 => eN<|wp_ret<|?_
 have kk1 : Chg [] w W1 := zA ch1
 have kk2 := kB kk1 ch2
 refine Wk.ret (.agg (frmL 5 1 b 0 0 0 0 sl0 0 sl0 z32 0 sl0 false z32 0 0 0 false z32 z32 0 z32 z32 3 sl0 sl0).flatten.toArray) rfl (results_cell_row rfl _ _ w.heap.size 39 (frmL 5 1 b 0 0 0 0 sl0 0 sl0 z32 0 sl0 false z32 0 0 0 false z32 z32 0 z32 z32 3 sl0 sl0).flatten.toArray (0, 0) _ (by kernel_rfl) hb2 Tryd.underlying39 rfl (by rw [(frmL_size (frmL_sz rfl rfl rfl rfl rfl rfl))]; kernel_rfl)) ?_
 exact ⟨rfl, kk2⟩
theorem Known25_any (w : World) (hv : ShaVars w) : Calls Tryd.prog 6 #[] w fun e w' => e = .returned (.bool true) ∧ Chg [] w w' := by
 have HV := Go.Lib.hid hv
 clear hv
 have hml_ : Go.maxLen = 9223372036854775807 := rfl
 obtain ⟨Ts, hTs⟩ : ∃ T : List UInt8 → List UInt8, ∀ x, T x = Mur.hmac [115] (18 :: x) := ⟨_, fun _ => rfl⟩
 have hTsl : ∀ x, (Ts x).length = 32 := fun x => by rw [hTs]; exact hmac_length _ _
 obtain ⟨Tt, hTt⟩ : ∃ T : List UInt8 → List UInt8, ∀ x, T x = Mur.hmac [116] (18 :: x) := ⟨_, fun _ => rfl⟩
 have hTtl : ∀ x, (Tt x).length = 32 := fun x => by rw [hTt]; exact hmac_length _ _
 refine calls_of_wp Tryd.func6 rfl ?_
 refine sR<|rP 0 0 (.bool false)<|eN<|sR<|rX 0 13 rfl rfl (new_ex (.slice (some ⟨w.heap.size, 0, none⟩) 1 1) #[.int .u8 115] 5 (by kernel_rfl)) ?_
 rintro _ W1 ⟨rfl, hb1, ch1, sz1⟩
 have zz1 := ch1.size
 refine rX 1 14 rfl rfl (Mur.run_mark 22 (.tmp 13) 5 rfl Tryd.underlying22 Tryd.underlying5 w.heap.size 1 1 #[.int .u8 115] (by kernel_rfl) hb1) ?_
 rintro _ W2 ⟨rfl, hb2, ch2⟩
 have zz2 := ch2.size
 refine rK 2 15 (Want_any 2 W2) ?_
 rintro _ W3 ⟨rfl, ch3⟩
 have zz3 := ch3.size
 have kk1 : Chg [] w W1 := zA ch1
 have kk2 := kB kk1 ch2
 have kk3 := kA kk2 ch3
 refine rK 3 16 (BytesF_any ([115]) (some ⟨w.heap.size, 0, none⟩) 1 1 Ts (Mur.wantM 2) zs0 W3 (HV.out.below (Chg.below0 kk3)) (byt_row [115] (qT ch3 hb2)) ⟨by omega, by omega⟩ (fun h => by cases h) (by omega) hTs hTsl (lies_none rfl rfl rfl rfl rfl) (want_in 2 (by omega))) ?_
 rintro _ W4 ⟨AA1, nn1, cc1, er1, rfl, hc1, ch4⟩
 have zz4 := ch4.size
 rcases hc1 with ⟨hmy1, rfl, ow1⟩ | ⟨hmy1, rfl, rfl, rfl, rfl⟩
 ·have hq1 := ow1.nc
  have hq2 := ow1.cm
  have hq3 := ow1.byt.1
  have hlb1 : (bytesFM Ts (Mur.wantM 2)).length = 40 := (congrArg List.length (want_bytes Ts)).trans rfl
  refine rP 4 12 (.tuple #[.slice AA1 nn1 cc1, .int .i64 0])<|rP 5 17 (.slice AA1 nn1 cc1)<|rP 6 18 (.int .i64 0)<|rP 7 1 (.slice AA1 nn1 cc1)<|rP 8 2 (.int .i64 0)<|eN<|sR<|rX 0 20 rfl rfl (new_ex (.slice (some ⟨W4.heap.size, 0, none⟩) 1 1) #[.int .u8 115] 5 (by kernel_rfl)) ?_
  rintro _ W5 ⟨rfl, hb3, ch5, sz2⟩
  have zz5 := ch5.size
  refine rX 1 21 rfl rfl (Mur.run_mark 22 (.tmp 20) 5 rfl Tryd.underlying22 Tryd.underlying5 W4.heap.size 1 1 #[.int .u8 115] (by kernel_rfl) hb3) ?_
  rintro _ W6 ⟨rfl, hb4, ch6⟩
  have zz6 := ch6.size
  refine rK 2 22 (Want_any 1 W6) ?_
  rintro _ W7 ⟨rfl, ch7⟩
  have zz7 := ch7.size
  have kk4 := kA kk3 ch4
  have kk5 := kA kk4 ch5
  have kk6 := kB kk5 ch6
  have kk7 := kA kk6 ch7
  refine rK 3 23 (BytesF_any ([115]) (some ⟨W4.heap.size, 0, none⟩) 1 1 Ts (Mur.wantM 1) zs0 W7 (HV.out.below (Chg.below0 kk7)) (byt_row [115] (qT ch7 hb4)) ⟨by omega, by omega⟩ (fun h => by cases h) (by omega) hTs hTsl (lies_none rfl rfl rfl rfl rfl) (want_in 1 (by omega))) ?_
  rintro _ W8 ⟨AA2, nn2, cc2, er2, rfl, hc2, ch8⟩
  have zz8 := ch8.size
  rcases hc2 with ⟨hmy2, rfl, ow2⟩ | ⟨hmy2, rfl, rfl, rfl, rfl⟩
  ·exact absurd hmy2 Mur.want_no
  refine rP 4 19 (.tuple #[.slice none 0 0, .int .i64 2])<|rP 5 24 (.slice none 0 0)<|rP 6 25 (.int .i64 2)<|rP 7 3 (.slice none 0 0)<|rP 8 4 (.int .i64 2)<|eN<|sR<|rX 0 27 rfl rfl (new_ex (.slice (some ⟨W8.heap.size, 0, none⟩) 1 1) #[.int .u8 116] 5 (by kernel_rfl)) ?_
  rintro _ W10 ⟨rfl, hb5, ch9, sz3⟩
  have zz9 := ch9.size
  refine rX 1 28 rfl rfl (Mur.run_mark 22 (.tmp 27) 5 rfl Tryd.underlying22 Tryd.underlying5 W8.heap.size 1 1 #[.int .u8 116] (by kernel_rfl) hb5) ?_
  rintro _ W11 ⟨rfl, hb6, ch10⟩
  have zz10 := ch10.size
  refine rP 2 29 (.slice AA1 nn1 cc1) ?_
  have ow3 := Mur.own8 (own_chg ow1.own ch5 (fun q e _ _ => trivial))
  have ow4 := Mur.own8 (own_chg ow3.own ch6 (fun q e _ _ => ⟨by have := ow1.lt q e; omega, trivial⟩))
  have ow5 := Mur.own8 (own_chg ow4.own ch7 (fun q e _ _ => trivial))
  have ow6 := Mur.own8 (own_chg ow5.own ch8 (fun q e _ _ => trivial))
  have ow7 := Mur.own8 (own_chg ow6.own ch9 (fun q e _ _ => trivial))
  have ow8 := Mur.own8 (own_chg ow7.own ch10 (fun q e _ _ => ⟨by have := ow1.lt q e; omega, trivial⟩))
  have kk8 := kA kk7 ch8
  have kk9 := kA kk8 ch9
  have kk10 := kB kk9 ch10
  refine rK 3 30 (ReadF_any ([116]) (some ⟨W8.heap.size, 0, none⟩) 1 1 Tt (bytesFM Ts (Mur.wantM 2)) AA1 nn1 cc1 W11 (HV.out.below (Chg.below0 kk10)) (byt_row [116] hb6) ⟨by omega, by omega⟩ (fun h => by cases h) (by omega) hTt hTtl ow8.byt ⟨by omega, by omega⟩ ow8.nil) ?_
  rintro _ W12 ⟨FF1, ZZ1, er3, rfl, hLs1, hZin1, hc3, ch11⟩
  have zz11 := ch11.size
  rcases hc3 with ⟨rfl, htd1, hIn1⟩ | ⟨rfl, htd1, rfl⟩ | ⟨rfl, htd1, rfl⟩ | ⟨rfl, htd1, rfl⟩
  ·obtain rfl : FF1 = Mur.wantM 2 := by have h_ := htd1.symm.trans (want_read Ts Tt hTsl); injection h_
   refine rP 4 26 (.tuple #[.agg ((frmP (Mur.wantM 2) ZZ1).flatten.toArray), .int .i64 0])<|rP 5 31 (.agg ((frmP (Mur.wantM 2) ZZ1).flatten.toArray))<|rP 6 32 (.int .i64 0)<|nW 7 5 ((frmh 0 0 0).flatten.toArray) 39 fun W13 hb7 ch12 sz4 => rU 8 rfl (sA (frmP (Mur.wantM 2) ZZ1).flatten.toArray (frmL_size (frmL_sz (want_in 2 (by omega)).ok.sum (want_in 2 (by omega)).ok.key (Mur.wantM 2).att.hk (Mur.wantM 2).att.hr (Mur.wantM 2).att.ht (want_in 2 (by omega)).ok.root)) hb7 (frmL_size (frmL_sz rfl rfl rfl rfl rfl rfl))) fun W14 hb8 ch13 zz13 => rP 9 6 (.int .i64 0)<|eN<|sR<|rq 0 33 (.agg ((Mur.claimC z32 1 0 0 false).toArray)) rfl (run_built 34 _ rfl [(1, .int .i64 1)] (by kernel_rfl) _ built_claim1)<|rq 1 34 (.agg ((frmL 3 1 2 0 0 0 0 sl0 0 sl0 z32 0 sl0 false z32 1 0 0 false z32 z32 0 z32 z32 0 sl0 sl0).flatten.toArray)) rfl (run_built 39 _ rfl [(0, .int .u8 3), (1, .int .i64 1), (2, .int .i64 2), (5, .agg ((Mur.claimC z32 1 0 0 false).toArray))] (by kernel_rfl) _ built_frmc)<|nW 2 7 ((frmh 0 0 0).flatten.toArray) 39 fun W15 hb9 ch14 sz5 => rU 3 rfl (sA (frmL 3 1 2 0 0 0 0 sl0 0 sl0 z32 0 sl0 false z32 1 0 0 false z32 z32 0 z32 z32 0 sl0 sl0).flatten.toArray (frmL_size (frmL_sz rfl rfl rfl rfl rfl rfl)) hb9 (frmL_size (frmL_sz rfl rfl rfl rfl rfl rfl))) fun W16 hb10 ch15 zz15 => eN<|sR<|rX 0 36 rfl rfl (new_ex (.slice (some ⟨W16.heap.size, 0, none⟩) 1 1) #[.int .u8 115] 5 (by kernel_rfl)) ?_
   rintro _ W17 ⟨rfl, hb11, ch16, sz6⟩
   have zz16 := ch16.size
   refine rX 1 37 rfl rfl (Mur.run_mark 22 (.tmp 36) 5 rfl Tryd.underlying22 Tryd.underlying5 W16.heap.size 1 1 #[.int .u8 115] (by kernel_rfl) hb11) ?_
   rintro _ W18 ⟨rfl, hb12, ch17⟩
   have zz17 := ch17.size
   refine rq 2 38 (.agg ((frmL 3 1 2 0 0 0 0 sl0 0 sl0 z32 0 sl0 false z32 1 0 0 false z32 z32 0 z32 z32 0 sl0 sl0).flatten.toArray)) rfl (lA (qO ch17 (qT ch16 hb10)) (frmL_size (frmL_sz rfl rfl rfl rfl rfl rfl))) ?_
   have kk11 := kA kk10 ch11
   have kk12 := kA kk11 ch12
   have kk13 := kB kk12 ch13
   have kk14 := kA kk13 ch14
   have kk15 := kB kk14 ch15
   have kk16 := kA kk15 ch16
   have kk17 := kB kk16 ch17
   refine rK 3 39 (BytesF_any ([115]) (some ⟨W16.heap.size, 0, none⟩) 1 1 Ts Mur.clmM zs0 W18 (HV.out.below (Chg.below0 kk17)) (byt_row [115] hb12) ⟨by omega, by omega⟩ (fun h => by cases h) (by omega) hTs hTsl (lies_none rfl rfl rfl rfl rfl) Mur.clm_in) ?_
   rintro _ W19 ⟨AA3, nn3, cc3, er4, rfl, hc4, ch18⟩
   have zz18 := ch18.size
   rcases hc4 with ⟨hmy3, rfl, ow9⟩ | ⟨hmy3, rfl, rfl, rfl, rfl⟩
   ·have hq4 := ow9.nc
    have hq5 := ow9.cm
    have hq6 := ow9.byt.1
    have hlb2 : (bytesFM Ts Mur.clmM).length = 73 := Mur.clm_len Ts hTsl
    refine rP 4 35 (.tuple #[.slice AA3 nn3 cc3, .int .i64 0])<|rP 5 40 (.slice AA3 nn3 cc3)<|rP 6 41 (.int .i64 0)<|rP 7 8 (.slice AA3 nn3 cc3)<|rP 8 9 (.int .i64 0)<|eN<|sR<|rX 0 43 rfl rfl (new_ex (.slice (some ⟨W19.heap.size, 0, none⟩) 1 1) #[.int .u8 116] 5 (by kernel_rfl)) ?_
    rintro _ W20 ⟨rfl, hb13, ch19, sz7⟩
    have zz19 := ch19.size
    refine rX 1 44 rfl rfl (Mur.run_mark 22 (.tmp 43) 5 rfl Tryd.underlying22 Tryd.underlying5 W19.heap.size 1 1 #[.int .u8 116] (by kernel_rfl) hb13) ?_
    rintro _ W21 ⟨rfl, hb14, ch20⟩
    have zz20 := ch20.size
    refine rP 2 45 (.slice AA3 nn3 cc3) ?_
    have ow10 := Mur.own8 (own_chg ow9.own ch19 (fun q e _ _ => trivial))
    have ow11 := Mur.own8 (own_chg ow10.own ch20 (fun q e _ _ => ⟨by have := ow9.lt q e; omega, trivial⟩))
    have kk18 := kA kk17 ch18
    have kk19 := kA kk18 ch19
    have kk20 := kB kk19 ch20
    refine rK 3 46 (ReadF_any ([116]) (some ⟨W19.heap.size, 0, none⟩) 1 1 Tt (bytesFM Ts Mur.clmM) AA3 nn3 cc3 W21 (HV.out.below (Chg.below0 kk20)) (byt_row [116] hb14) ⟨by omega, by omega⟩ (fun h => by cases h) (by omega) hTt hTtl ow11.byt ⟨by omega, by omega⟩ ow11.nil) ?_
    rintro _ W22 ⟨FF2, ZZ2, er5, rfl, hLs2, hZin2, hc5, ch21⟩
    have zz21 := ch21.size
    rcases hc5 with ⟨rfl, htd2, hIn2⟩ | ⟨rfl, htd2, rfl⟩ | ⟨rfl, htd2, rfl⟩ | ⟨rfl, htd2, rfl⟩
    ·exact absurd (htd2.symm.trans (clm_read Ts Tt hTs hTt hTsl)) (by intro h_; cases h_)
    ·exact absurd (htd2.symm.trans (clm_read Ts Tt hTs hTt hTsl)) (by intro h_; cases h_)
    ·exact absurd (htd2.symm.trans (clm_read Ts Tt hTs hTt hTsl)) (by intro h_; cases h_)
    refine rP 4 42 (.tuple #[.agg ((frmP (headM 0 0 0) ZZ2).flatten.toArray), .int .i64 250])<|rP 5 47 (.agg ((frmP (headM 0 0 0) ZZ2).flatten.toArray))<|rP 6 48 (.int .i64 250)<|nW 7 10 ((frmh 0 0 0).flatten.toArray) 39 fun W23 hb15 ch22 sz8 => rU 8 rfl (sA (frmP (headM 0 0 0) ZZ2).flatten.toArray (frmL_size (frmL_sz (frmIn_head 0 (by decide) (by decide)).ok.sum (frmIn_head 0 (by decide) (by decide)).ok.key (headM 0 0 0).att.hk (headM 0 0 0).att.hr (headM 0 0 0).att.ht (frmIn_head 0 (by decide) (by decide)).ok.root)) hb15 (frmL_size (frmL_sz rfl rfl rfl rfl rfl rfl))) fun W24 hb16 ch23 zz23 => rP 9 11 (.int .i64 250)<|eN<|wp_seq<|?_
    refine dReg ([]) (by kernel_rfl) ?_
    intro W25 ch24 sz9
    have zz24 := ch24.size
    have sS1 : Chg ([]) W25 W25 := (Chg.refl _).more (by simp)
    refine dW 0 49 (.int .i64 0) sS1 ?_
    refine dV 1 50 (.bool true) rfl rfl (fun w' hw' => boolT (b := ((0 : Int) == (0 : Int))) (beq_iff_eq.2 (by decide)) (by kernel_rfl)) sS1 ?_
    refine dW 2 51 (.bool true) sS1<|dW 3 52 (.int .i64 2) sS1 ?_
    refine dV 4 53 (.bool true) rfl rfl (fun w' hw' => boolT (b := ((2 : Int) == (2 : Int))) (beq_iff_eq.2 (by decide)) (by kernel_rfl)) sS1 ?_
    refine dW 5 54 (.bool true) sS1<|dW 6 55 (.bool true) sS1<|dW 7 56 (.slice AA1 nn1 cc1) sS1 ?_
    refine dV 8 57 (.string (Mur.str (bytesFM Ts (Mur.wantM 2)))) rfl rfl (fun w' hw' => run_str 22 9 (.tmp 56) 5 rfl Tryd.underlying22 Tryd.underlying5 Tryd.underlying9 AA1 nn1 cc1 (bytesFM Ts (Mur.wantM 2)) (by kernel_rfl) (byt_chg (byt_chg (byt_chg (byt_chg (byt_chg (byt_chg (byt_chg (byt_chg (byt_chg (byt_chg (byt_chg (byt_chg (byt_chg (byt_chg (byt_chg ow8.byt ch11 (fun g off e hl => trivial)) ch12 (fun g off e hl => trivial)) ch13 (fun g off e hl => ⟨by have := ow8.at_ g off e; omega, trivial⟩)) ch14 (fun g off e hl => trivial)) ch15 (fun g off e hl => ⟨by have := ow8.at_ g off e; omega, trivial⟩)) ch16 (fun g off e hl => trivial)) ch17 (fun g off e hl => ⟨by have := ow8.at_ g off e; omega, trivial⟩)) ch18 (fun g off e hl => trivial)) ch19 (fun g off e hl => trivial)) ch20 (fun g off e hl => ⟨by have := ow8.at_ g off e; omega, trivial⟩)) ch21 (fun g off e hl => trivial)) ch22 (fun g off e hl => trivial)) ch23 (fun g off e hl => ⟨by have := ow8.at_ g off e; omega, trivial⟩)) ch24 (fun g off e hl => trivial)) hw' (fun g off e hl => trivial))) sS1 ?_
    refine dOp 9 (by kernel_rfl) ?_
    refine oEx (some 58) _ rfl rfl (by kernel_rfl) (new_ex (.slice (some ⟨W25.heap.size, 0, none⟩) 32 32) Z32 5 (by kernel_rfl)) ?_
    rintro _ W26 ⟨rfl, hb17, ch25, sz10⟩
    have zz25 := ch25.size
    have sS2 := kA sS1 ch25
    refine ⟨sS2, ?_⟩
    refine dOp 10 (by kernel_rfl) ?_
    refine Wk.oVal (some 59) (.string (Mur.str ([0, 0, 0, 0, 0, 0, 0, 0, 0, 0, 0, 0, 0, 0, 0, 0, 0, 0, 0, 0, 0, 0, 0, 0, 0, 0, 0, 0, 0, 0, 0, 0]))) rfl rfl (by kernel_rfl) (run_str 22 9 (.tmp 58) 5 rfl Tryd.underlying22 Tryd.underlying5 Tryd.underlying9 (some ⟨W25.heap.size, 0, none⟩) 32 32 ([0, 0, 0, 0, 0, 0, 0, 0, 0, 0, 0, 0, 0, 0, 0, 0, 0, 0, 0, 0, 0, 0, 0, 0, 0, 0, 0, 0, 0, 0, 0, 0]) (by kernel_rfl) (byt_row [0, 0, 0, 0, 0, 0, 0, 0, 0, 0, 0, 0, 0, 0, 0, 0, 0, 0, 0, 0, 0, 0, 0, 0, 0, 0, 0, 0, 0, 0, 0, 0] hb17)) ?_
    refine ⟨sS2, ?_⟩
    refine dV 11 60 (.string (Mur.str (([1, 5, 1, 1, 1, 2]) ++ ([0, 0, 0, 0, 0, 0, 0, 0, 0, 0, 0, 0, 0, 0, 0, 0, 0, 0, 0, 0, 0, 0, 0, 0, 0, 0, 0, 0, 0, 0, 0, 0])))) rfl rfl (fun w' hw' => Mur.stradd 9 9 (.const (.string ({ data := #[1, 5, 1, 1, 1, 2] }))) (.tmp 59) rfl ([1, 5, 1, 1, 1, 2]) ([0, 0, 0, 0, 0, 0, 0, 0, 0, 0, 0, 0, 0, 0, 0, 0, 0, 0, 0, 0, 0, 0, 0, 0, 0, 0, 0, 0, 0, 0, 0, 0]) (by kernel_rfl) (by kernel_rfl) (by decide) (by decide)) sS2 ?_
    refine dV 12 61 (.string (Mur.str ((([1, 5, 1, 1, 1, 2]) ++ ([0, 0, 0, 0, 0, 0, 0, 0, 0, 0, 0, 0, 0, 0, 0, 0, 0, 0, 0, 0, 0, 0, 0, 0, 0, 0, 0, 0, 0, 0, 0, 0])) ++ ([1, 3])))) rfl rfl (fun w' hw' => Mur.stradd 9 9 (.tmp 60) (.const (.string ({ data := #[1, 3] }))) rfl (([1, 5, 1, 1, 1, 2]) ++ ([0, 0, 0, 0, 0, 0, 0, 0, 0, 0, 0, 0, 0, 0, 0, 0, 0, 0, 0, 0, 0, 0, 0, 0, 0, 0, 0, 0, 0, 0, 0, 0])) ([1, 3]) (by kernel_rfl) (by kernel_rfl) (by decide) (by decide)) sS2 ?_
    refine dV 13 62 (.bool true) rfl rfl (fun w' hw' => boolT (b := decide ((bytesFM Ts (Mur.wantM 2)) = ((([1, 5, 1, 1, 1, 2]) ++ ([0, 0, 0, 0, 0, 0, 0, 0, 0, 0, 0, 0, 0, 0, 0, 0, 0, 0, 0, 0, 0, 0, 0, 0, 0, 0, 0, 0, 0, 0, 0, 0])) ++ ([1, 3])))) (decide_eq_true ((want_bytes Ts).trans rfl)) (Mur.streq 9 9 (.tmp 57) (.tmp 61) rfl (bytesFM Ts (Mur.wantM 2)) ((([1, 5, 1, 1, 1, 2]) ++ ([0, 0, 0, 0, 0, 0, 0, 0, 0, 0, 0, 0, 0, 0, 0, 0, 0, 0, 0, 0, 0, 0, 0, 0, 0, 0, 0, 0, 0, 0, 0, 0])) ++ ([1, 3])) (by kernel_rfl) (by kernel_rfl))) sS2 ?_
    refine dW 14 63 (.bool true) sS2<|dW 15 64 (.bool true) sS2<|dW 16 65 (.int .i64 0) sS2 ?_
    refine dV 17 66 (.bool true) rfl rfl (fun w' hw' => boolT (b := ((0 : Int) == (0 : Int))) (beq_iff_eq.2 (by decide)) (by kernel_rfl)) sS2 ?_
    refine dW 18 67 (.bool true) sS2<|dW 19 68 (.bool true) sS2 ?_
    refine dV 20 69 (.agg ((frmP (Mur.wantM 2) ZZ1).flatten.toArray)) rfl rfl (fun w' hw' => lA (qT hw' (qT ch24 (qO ch23 (qT ch22 (qT ch21 (qO ch20 (qT ch19 (qT ch18 (qO ch17 (qT ch16 (qO ch15 (qT ch14 hb8)))))))))))) (frmL_size (frmL_sz (want_in 2 (by omega)).ok.sum (want_in 2 (by omega)).ok.key (Mur.wantM 2).att.hk (Mur.wantM 2).att.hr (Mur.wantM 2).att.ht (want_in 2 (by omega)).ok.root))) sS2 ?_
    refine dOp 21 (by kernel_rfl) ?_
    refine oK 70 (Want_any 2 W26) ?_
    rintro _ W27 ⟨rfl, ch26⟩
    have zz26 := ch26.size
    have sS3 := kA sS2 ch26
    refine ⟨sS3, ?_⟩
    refine dOp 22 (by kernel_rfl) ?_
    have kk21 : Chg [] (W12) W13 := zA ch12
    have kk22 := kB kk21 ch13
    have kk23 := kA kk22 ch14
    have kk24 := kB kk23 ch15
    have kk25 := kA kk24 ch16
    have kk26 := kB kk25 ch17
    have kk27 := kA kk26 ch18
    have kk28 := kA kk27 ch19
    have kk29 := kB kk28 ch20
    have kk30 := kA kk29 ch21
    have kk31 := kA kk30 ch22
    have kk32 := kB kk31 ch23
    have kk33 := kA kk32 ch24
    have kk34 := kA kk33 ch25
    have kk35 := kA kk34 ch26
    refine oK 71 (Same25_any (Mur.wantM 2) ZZ1 (Mur.wantM 2) zs0 W27 (Mur.LiesF.chg hLs1 kk35 ⟨fun _ _ _ _ => trivial, fun _ _ _ _ => trivial, fun _ _ _ _ => trivial, fun _ _ _ _ => trivial, fun _ _ _ _ => trivial⟩) (want_in 2 (by omega)) (lies_none rfl rfl rfl rfl rfl) (want_in 2 (by omega))) ?_
    rintro _ W28 ⟨bv1, rfl, hif1, ch27⟩
    have zz27 := ch27.size
    cases bv1
    ·have sS4 := kA sS3 ch27
     refine ⟨sS4, ?_⟩
     refine dW 23 72 (.bool false) sS4<|dW 24 73 (.bool false) sS4<|dZ 25 74 sS4<|dZ 26 75 sS4<|dW 27 76 (.bool false) sS4<|dW 28 77 (.bool false) sS4<|dZ 29 78 sS4<|dZ 30 79 sS4<|dZ 31 80 sS4<|dW 32 81 (.bool false) sS4<|dW 33 82 (.bool false) sS4<|dZ 34 83 sS4<|dZ 35 84 sS4<|dW 36 85 (.bool false) sS4<|dW 37 0 (.bool false) sS4 ?_
     refine dN<|wp_ret<|?_
     exact absurd rfl (fun q_ => Bool.noConfusion (hif1.2 q_))
    have sS5 := kA sS3 ch27
    refine ⟨sS5, ?_⟩
    refine dW 23 72 (.bool true) sS5<|dW 24 73 (.bool true) sS5<|dW 25 74 (.int .i64 0) sS5 ?_
    refine dV 26 75 (.bool true) rfl rfl (fun w' hw' => boolT (b := ((0 : Int) == (0 : Int))) (beq_iff_eq.2 (by decide)) (by kernel_rfl)) sS5 ?_
    refine dW 27 76 (.bool true) sS5<|dW 28 77 (.bool true) sS5<|dW 29 78 (.slice AA3 nn3 cc3) sS5<|dW 30 79 (.int .i64 nn3) sS5 ?_
    refine dV 31 80 (.bool true) rfl rfl (fun w' hw' => boolT (b := ((nn3 : Int) == (73 : Int))) (beq_iff_eq.2 (by omega)) (by kernel_rfl)) sS5 ?_
    refine dW 32 81 (.bool true) sS5<|dW 33 82 (.bool true) sS5<|dW 34 83 (.int .i64 250) sS5 ?_
    refine dV 35 84 (.bool true) rfl rfl (fun w' hw' => boolT (b := ((250 : Int) == (250 : Int))) (beq_iff_eq.2 (by decide)) (by kernel_rfl)) sS5 ?_
    refine dW 36 85 (.bool true) sS5<|dW 37 0 (.bool true) sS5 ?_
    refine dN<|wp_ret<|?_
    have kk36 := kA kk20 ch21
    have kk37 := kA kk36 ch22
    have kk38 := kB kk37 ch23
    have kk39 := kA kk38 ch24
    have kk40 := kA kk39 ch25
    have kk41 := kA kk40 ch26
    have kk42 := kA kk41 ch27
    refine rt (.bool true) ?_
    exact ⟨rfl, kk42⟩
   exact absurd Mur.clm_may hmy3
  ·exact absurd (htd1.symm.trans (want_read Ts Tt hTsl)) (by intro h_; cases h_)
  ·exact absurd (htd1.symm.trans (want_read Ts Tt hTsl)) (by intro h_; cases h_)
  exact absurd (htd1.symm.trans (want_read Ts Tt hTsl)) (by intro h_; cases h_)
 exact absurd Mur.want_may hmy1
end Go.Proofs.YtgbadghjnpbiaaaDoor
namespace Go.Proofs.YtgbadghjnpbiaaaDoor
open Go.RowKit Wk
open Mur (b8s Byt Own8 Seg Segs flat cutA attC Att SlA OwnA rowA msgC frmP segs_cell frmL_sz)
set_option maxRecDepth 100000
set_option maxHeartbeats 4000000
theorem Great_any (f : Mur.Frm) (z : Mur.Zs) (w : World) (hI : Mur.FrmIn f) : Calls Tryd.prog 9 #[.agg (frmP f z).flatten.toArray] w fun e w' => ∃ v, e = .returned (.bool v) ∧ Chg [] w w' := by
 refine calls_of_wp Tryd.func9 rfl ?_
 refine sR<|nW 0 1 ((frmP f z).flatten.toArray) 39 fun W1 hb1 ch1 sz1 => rP 1 2 (.bool false)<|eN<|sR<|rP 0 3 (pt w.heap.size 3)<|rP 1 4 (pt w.heap.size 7)<|rF 2 5 7 (.slice z.u.A z.u.n z.u.c) hI.sz hb1 7<|rP 3 6 (.int .i64 z.u.n) ?_
 by_cases hx1 : (z.u.n : Int) > (50 : Int)
 ·refine bT 4 7 ((z.u.n : Int) > (50 : Int)) ?_
  refine Wk.many 34 26 5 [(7, .bool true)] 33 (.bool true) (by kernel_rfl) (by kernel_rfl) (by kernel_rfl) (by kernel_rfl) ?_
  intro bb1
  refine rP 31 2 (.bool true)<|eN<|wp_ret<|?_
  have kk1 : Chg [] w W1 := zA ch1
  refine rt (.bool true) ?_
  exact ⟨_, rfl, kk1⟩
 refine bF 4 7 ((z.u.n : Int) > (50 : Int))<|rP 5 8 (.bool false)<|rP 6 9 (pt w.heap.size 8)<|rP 7 10 (pt w.heap.size 9)<|rF 8 11 9 (.slice z.p.A z.p.n z.p.c) hI.sz hb1 9<|rP 9 12 (.int .i64 z.p.n) ?_
 by_cases hx2 : (z.p.n : Int) > (50 : Int)
 ·refine bT 10 13 ((z.p.n : Int) > (50 : Int)) ?_
  refine Wk.many 34 20 11 [(8, .bool false), (13, .bool true)] 33 (.bool true) (by kernel_rfl) (by kernel_rfl) (by kernel_rfl) (by kernel_rfl) ?_
  intro bb2
  refine rP 31 2 (.bool true)<|eN<|wp_ret<|?_
  have kk2 : Chg [] w W1 := zA ch1
  refine rt (.bool true) ?_
  exact ⟨_, rfl, kk2⟩
 refine bF 10 13 ((z.p.n : Int) > (50 : Int))<|rP 11 14 (.bool false)<|rP 12 15 (.bool false)<|rP 13 16 (pt w.heap.size 8)<|rP 14 17 (pt w.heap.size 43)<|rF 15 18 43 (.slice z.i.A z.i.n z.i.c) hI.sz hb1 12<|rP 16 19 (.int .i64 z.i.n) ?_
 by_cases hx3 : (z.i.n : Int) > (50 : Int)
 ·refine bT 17 20 ((z.i.n : Int) > (50 : Int)) ?_
  refine Wk.many 34 13 18 [(15, .bool false), (20, .bool true)] 33 (.bool true) (by kernel_rfl) (by kernel_rfl) (by kernel_rfl) (by kernel_rfl) ?_
  intro bb3
  refine rP 31 2 (.bool true)<|eN<|wp_ret<|?_
  have kk3 : Chg [] w W1 := zA ch1
  refine rt (.bool true) ?_
  exact ⟨_, rfl, kk3⟩
 refine bF 17 20 ((z.i.n : Int) > (50 : Int))<|rP 18 21 (.bool false)<|rP 19 22 (.bool false)<|rP 20 23 (pt w.heap.size 211)<|rF 21 24 211 (.slice z.y.A z.y.n z.y.c) hI.sz hb1 25<|rP 22 25 (.int .i64 z.y.n) ?_
 by_cases hx4 : (z.y.n : Int) > (500 : Int)
 ·refine bT 23 26 ((z.y.n : Int) > (500 : Int)) ?_
  refine Wk.many 34 7 24 [(22, .bool false), (26, .bool true)] 33 (.bool true) (by kernel_rfl) (by kernel_rfl) (by kernel_rfl) (by kernel_rfl) ?_
  intro bb4
  refine rP 31 2 (.bool true)<|eN<|wp_ret<|?_
  have kk4 : Chg [] w W1 := zA ch1
  refine rt (.bool true) ?_
  exact ⟨_, rfl, kk4⟩
 refine bF 23 26 ((z.y.n : Int) > (500 : Int))<|rP 24 27 (.bool false)<|rP 25 28 (.bool false)<|rP 26 29 (pt w.heap.size 212)<|rF 27 30 212 (.slice z.f.A z.f.n z.f.c) hI.sz hb1 26<|rP 28 31 (.int .i64 z.f.n) ?_
 by_cases hx5 : (z.f.n : Int) > (50 : Int)
 ·refine bT 29 32 ((z.f.n : Int) > (50 : Int))<|rP 30 33 (.bool true)<|rP 31 2 (.bool true)<|eN<|wp_ret<|?_
  have kk5 : Chg [] w W1 := zA ch1
  refine rt (.bool true) ?_
  exact ⟨_, rfl, kk5⟩
 refine bF 29 32 ((z.f.n : Int) > (50 : Int))<|rP 30 33 (.bool false)<|rP 31 2 (.bool false)<|eN<|wp_ret<|?_
 have kk6 : Chg [] w W1 := zA ch1
 refine rt (.bool false) ?_
 exact ⟨_, rfl, kk6⟩
end Go.Proofs.YtgbadghjnpbiaaaDoor
namespace Go.Proofs.YtgbadghjnpbiaaaDoor
open Go.RowKit Wk
open Mur (b8s Byt Own8 Seg Segs flat cutA attC Att SlA OwnA rowA msgC formN own8_nil conv_u8o own8_lit own8_low formN_len)
set_option maxRecDepth 100000
set_option maxHeartbeats 4000000
def RForm_F1 (b : Array Value) (u0 : Value) (u3 : Value) : Act := ⟨#[u0, gd b 1, gd b 2, u3, gd b 4, gd b 5, gd b 6, gd b 7, gd b 8, gd b 9, gd b 10, gd b 11, gd b 12, gd b 13, gd b 14, gd b 15, gd b 16, gd b 17, gd b 18, gd b 19], []⟩
theorem RForm_any (N : Nat) (w : World) (hN : N < 18446744073709551616) : Calls Tryd.prog 59 #[.int .u64 N] w fun e w' => ∃ A1 n1 c1, e = .returned (.slice A1 n1 c1) ∧ Own8 w' w.heap.size 5 A1 n1 c1 (formN N) ∧ Chg [] w w' := by
 refine calls_of_wp Tryd.func59 rfl ?_
 refine sR<|rP 0 2 (.slice none 0 0)<|eN<|sR<|rP 0 3 (.slice none 0 0)<|eN<|wp_seq<|wp_block<|?_
 refine Wk.loop (fun m_ a wr => ∃ (m : Nat) (k : Nat) (tl : List UInt8) (A1 : Option Addr) (N1 : Nat) (c1 : Nat), m_ = m ∧ a = RForm_F1 a.tmps (.int .u64 m) (.slice A1 N1 c1) ∧ Mur.FormAt N m k tl ∧ Own8 wr w.heap.size 5 A1 N1 c1 tl ∧ m < 18446744073709551616 ∧ Chg [] w wr) (N) ?_ ?_
 ·refine ⟨N, 0, [], none, 0, 0, rfl, by kernel_rfl, (by rw [show (0 : Nat) = 0 from rfl]; exact Mur.formAt_zero N), own8_nil _ _ _, (by omega), (Chg.refl _)⟩
 rintro mm1 aa1 W1 ⟨m, k, tl, A1, N1, c1, hmm1, hF1, hF, hO, hmN, HB⟩
 generalize aa1.tmps = bb1 at hF1
 subst hF1
 have hzB := HB.size
 have hOn := hO.nc
 have hOc := hO.cm
 have hOl := hO.byt.1
 have hFl_ := hF.2
 have hF0_ := Mur.formAt_le hF hN
 refine wp_seq<|sR<|rP 0 4 (.int .u64 m) ?_
 by_cases hx1 : (m : Int) > (0 : Int)
 ·refine bT 1 5 ((m : Int) > (0 : Int))<|eN<|cT<|wp_skip<|nxt<|wp_block<|sR<|rP 0 6 (.int .u64 m)<|rq 1 7 (.int .u64 (m % 256 : Nat)) rfl (Mur.rem_u64 24 24 (.tmp 6) (.const (.int .u64 256)) rfl m 256 (by kernel_rfl) (by kernel_rfl) (by omega))<|rq 2 8 (.int .u8 ((UInt8.ofNat (m % 256)).toNat : Nat)) rfl (conv_u8o 24 5 (.tmp 7) rfl (by kernel_rfl) Tryd.underlying5 .u64 (m % 256) (by kernel_rfl))<|rX 3 9 rfl rfl (new_ex (.slice (some ⟨W1.heap.size, 0, none⟩) 1 1) #[.int .u8 ((UInt8.ofNat (m % 256)).toNat : Nat)] 5 (by kernel_rfl)) ?_
  rintro _ W2 ⟨rfl, hb1, ch1, sz1⟩
  have zz1 := ch1.size
  refine rP 4 10 (.slice A1 N1 c1) ?_
  have ow1 : Mur.Own8 W2 W1.heap.size 5 (some ⟨W1.heap.size, 0, none⟩) 1 1 [(UInt8.ofNat (m % 256))] := own8_lit hb1 (Nat.le_refl _) rfl (by omega)
  have ow2 := Mur.own8 (own_chg hO.own ch1 (fun q e _ _ => trivial))
  refine rX 5 11 rfl rfl (Mur.append8 (.tmp 9) (.tmp 10) 22 5 rfl Tryd.underlying22 (by kernel_rfl) W1.heap.size (some ⟨W1.heap.size, 0, none⟩) 1 1 ([(UInt8.ofNat (m % 256))]) A1 N1 c1 tl (by kernel_rfl) (by kernel_rfl) ow1.own ow2.byt ow2.nil (by omega) (by omega) (1 + N1) (by omega) (([(UInt8.ofNat (m % 256))]) ++ tl) rfl) ?_
  rintro _ W3 ⟨AA1, nn1, rfl, ow3, ch2, ha1⟩
  have zz2 := ch2.size
  have hq1 := ow3.nc
  have hq2 := ow3.cm
  refine rP 6 3 (.slice AA1 (1 + N1) nn1)<|eN<|reg<|rP 0 12 (.int .u64 m)<|rq 1 13 (.int .u64 (m / 256 : Nat)) rfl (Mur.quo_u64 24 24 (.tmp 12) (.const (.int .u64 256)) rfl m 256 (by kernel_rfl) (by kernel_rfl) (by omega) (by omega))<|rP 2 0 (.int .u64 (m / 256 : Nat))<|rE<|inN<|nxt<|?_
  have kk1 := kA HB ch1
  have kk2 := Chg.step kk1 ch2 (newOr_blk (fun g hg => by have := ow1.lt g hg; omega))
  refine ⟨_, ?_, m / 256, k + 1, UInt8.ofNat (m % 256) :: tl, AA1, 1 + N1, nn1, rfl, by kernel_rfl, (Mur.formAt_step hF (by omega)), (own8_low ow3 (by omega)), (by omega), kk2⟩
  omega
 refine bF 1 5 ((m : Int) > (0 : Int))<|eN<|cF<|xX<|nxt<|sR<|rP 0 14 (.slice A1 N1 c1)<|rP 1 15 (.int .i64 N1)<|rq 2 16 (.int .u8 ((UInt8.ofNat N1).toNat : Nat)) rfl (conv_u8o 3 5 (.tmp 15) rfl (by kernel_rfl) Tryd.underlying5 .i64 N1 (by kernel_rfl))<|rX 3 17 rfl rfl (new_ex (.slice (some ⟨W1.heap.size, 0, none⟩) 1 1) #[.int .u8 ((UInt8.ofNat N1).toNat : Nat)] 5 (by kernel_rfl)) ?_
 rintro _ W4 ⟨rfl, hb2, ch3, sz2⟩
 have zz3 := ch3.size
 refine rP 4 18 (.slice A1 N1 c1) ?_
 have ow4 : Mur.Own8 W4 W1.heap.size 5 (some ⟨W1.heap.size, 0, none⟩) 1 1 [(UInt8.ofNat N1)] := own8_lit hb2 (Nat.le_refl _) rfl (by omega)
 have ow5 := Mur.own8 (own_chg hO.own ch3 (fun q e _ _ => trivial))
 refine rX 5 19 rfl rfl (Mur.append8 (.tmp 17) (.tmp 18) 22 5 rfl Tryd.underlying22 (by kernel_rfl) W1.heap.size (some ⟨W1.heap.size, 0, none⟩) 1 1 ([(UInt8.ofNat N1)]) A1 N1 c1 tl (by kernel_rfl) (by kernel_rfl) ow4.own ow5.byt ow5.nil (by omega) (by omega) (1 + N1) (by omega) (([(UInt8.ofNat N1)]) ++ tl) rfl) ?_
 rintro _ W5 ⟨AA2, nn2, rfl, ow6, ch4, ha2⟩
 have zz4 := ch4.size
 have hq3 := ow6.nc
 have hq4 := ow6.cm
 refine rP 6 2 (.slice AA2 (1 + N1) nn2)<|eN<|wp_ret<|?_
 obtain rfl : m = 0 := by omega
 have kk3 := kA HB ch3
 have kk4 := Chg.step kk3 ch4 (newOr_blk (fun g hg => by have := ow4.lt g hg; omega))
 refine rt (.slice AA2 (1 + N1) nn2) ?_
 exact ⟨_, _, _, rfl, (by rw [Mur.formAt_end hF, ← hFl_, hOl]; exact own8_low ow6 (by omega)), kk4⟩
theorem RNat1_any (q N1 : Nat) (w : World) (hq : w.heap[q]? = some (.cells #[.int .u64 N1] 24 (0, 0))) (hN1 : N1 < 18446744073709551616) : Calls Tryd.prog 28 #[.slice (some ⟨q, 0, none⟩) 1 1] w fun e w' => ∃ A1 n1 c1, e = .returned (.slice A1 n1 c1) ∧ Own8 w' w.heap.size 5 A1 n1 c1 (formN N1) ∧ n1 ≤ 9 ∧ Chg [] w w' := by
 have hql_ := (Array.getElem?_eq_some_iff.1 hq).1
 refine calls_of_wp Tryd.func28 rfl ?_
 refine sR<|rP 0 2 (.slice none 0 0)<|eN<|sR<|rP 0 3 (.slice none 0 0)<|eN<|wp_seq<|sR<|rP 0 4 (.int .i64 0)<|eN<|wp_block<|?_
 refine Wk.loopN 2 ?_
 refine Wk.rdS<|wp_seq<|sR<|?_
 refine rP 0 5 (.int .i64 0)<|rP 1 6 (.slice (some ⟨q, 0, none⟩) 1 1)<|rP 2 7 (.int .i64 1)<|bT 3 8 ((0 : Int) < (1 : Int))<|eN<|cT<|wp_skip<|nxt<|wp_seq<|wp_block<|reg<|rP 0 11 (.slice none 0 0)<|rP 1 12 (.slice (some ⟨q, 0, none⟩) 1 1)<|rP 2 13 (.int .i64 0)<|rq 3 14 (pt q 0) rfl (iS 1 q 0 1 1 0)<|rL 4 15 0 (.int .u64 N1) hq<|rK 5 16 (RForm_any N1 w hN1) ?_
 rintro _ W1 ⟨AA1, nn1, cc1, rfl, ow1, ch1⟩
 have zz1 := ch1.size
 have hq1 := ow1.nc
 have hq2 := ow1.cm
 have hq3 := ow1.byt.1
 have hfl1 := formN_len hN1
 have ow2 := own8_nil W1 W1.heap.size 5
 refine rX 6 17 rfl rfl (Mur.append8 (.tmp 11) (.tmp 16) 22 5 rfl Tryd.underlying22 (by kernel_rfl) W1.heap.size none 0 0 ([]) AA1 nn1 cc1 (formN N1) (by kernel_rfl) (by kernel_rfl) ow2.own ow1.byt ow1.nil (by omega) (by omega) nn1 (by omega) (formN N1) rfl) ?_
 rintro _ W2 ⟨AA2, nn2, rfl, ow3, ch2, ha1⟩
 have zz2 := ch2.size
 have hq4 := ow3.nc
 have hq5 := ow3.cm
 refine rP 7 3 (.slice AA2 nn1 nn2)<|rE<|inN<|nxt<|reg<|rP 0 9 (.int .i64 0)<|rI 1 10 (0 + 1) (1)<|rP 2 4 (.int .i64 1)<|eN<|Wk.rdS<|wp_seq<|sR<|rP 0 5 (.int .i64 1)<|rP 1 6 (.slice (some ⟨q, 0, none⟩) 1 1)<|rP 2 7 (.int .i64 1)<|bF 3 8 ((1 : Int) < (1 : Int))<|eN<|cF<|xX<|nxt<|sR<|rP 0 18 (.slice AA2 nn1 nn2)<|rP 1 2 (.slice AA2 nn1 nn2)<|eN<|wp_ret<|?_
 have kk1 : Chg [] w W1 := zA ch1
 have kk2 := Chg.step kk1 ch2 (newOr_blk (fun g hg => by have := ow2.lt g hg; omega))
 refine rt (.slice AA2 nn1 nn2) ?_
 exact ⟨_, _, _, rfl, own8_low ow3 (by omega), by omega, kk2⟩
theorem RNat2_any (q N1 N2 : Nat) (w : World) (hq : w.heap[q]? = some (.cells #[.int .u64 N1, .int .u64 N2] 24 (0, 0))) (hN1 : N1 < 18446744073709551616) (hN2 : N2 < 18446744073709551616) : Calls Tryd.prog 28 #[.slice (some ⟨q, 0, none⟩) 2 2] w fun e w' => ∃ A1 n1 c1, e = .returned (.slice A1 n1 c1) ∧ Own8 w' w.heap.size 5 A1 n1 c1 (formN N1 ++ formN N2) ∧ n1 ≤ 18 ∧ Chg [] w w' := by
 have hql_ := (Array.getElem?_eq_some_iff.1 hq).1
 refine calls_of_wp Tryd.func28 rfl ?_
 refine sR<|rP 0 2 (.slice none 0 0)<|eN<|sR<|rP 0 3 (.slice none 0 0)<|eN<|wp_seq<|sR<|rP 0 4 (.int .i64 0)<|eN<|wp_block<|?_
 refine Wk.loopN 3 ?_
 refine Wk.rdS<|wp_seq<|sR<|?_
 refine rP 0 5 (.int .i64 0)<|rP 1 6 (.slice (some ⟨q, 0, none⟩) 2 2)<|rP 2 7 (.int .i64 2)<|bT 3 8 ((0 : Int) < (2 : Int))<|eN<|cT<|wp_skip<|nxt<|wp_seq<|wp_block<|reg<|rP 0 11 (.slice none 0 0)<|rP 1 12 (.slice (some ⟨q, 0, none⟩) 2 2)<|rP 2 13 (.int .i64 0)<|rq 3 14 (pt q 0) rfl (iS 1 q 0 2 2 0)<|rL 4 15 0 (.int .u64 N1) hq<|rK 5 16 (RForm_any N1 w hN1) ?_
 rintro _ W1 ⟨AA1, nn1, cc1, rfl, ow1, ch1⟩
 have zz1 := ch1.size
 have hq1 := ow1.nc
 have hq2 := ow1.cm
 have hq3 := ow1.byt.1
 have hfl1 := formN_len hN1
 have ow2 := own8_nil W1 W1.heap.size 5
 refine rX 6 17 rfl rfl (Mur.append8 (.tmp 11) (.tmp 16) 22 5 rfl Tryd.underlying22 (by kernel_rfl) W1.heap.size none 0 0 ([]) AA1 nn1 cc1 (formN N1) (by kernel_rfl) (by kernel_rfl) ow2.own ow1.byt ow1.nil (by omega) (by omega) nn1 (by omega) (formN N1) rfl) ?_
 rintro _ W2 ⟨AA2, nn2, rfl, ow3, ch2, ha1⟩
 have zz2 := ch2.size
 have hq4 := ow3.nc
 have hq5 := ow3.cm
 refine rP 7 3 (.slice AA2 nn1 nn2)<|rE<|inN<|nxt<|reg<|rP 0 9 (.int .i64 0)<|rI 1 10 (0 + 1) (1)<|rP 2 4 (.int .i64 1)<|eN<|Wk.rdS<|wp_seq<|sR<|rP 0 5 (.int .i64 1)<|rP 1 6 (.slice (some ⟨q, 0, none⟩) 2 2)<|rP 2 7 (.int .i64 2)<|bT 3 8 ((1 : Int) < (2 : Int))<|eN<|cT<|wp_skip<|nxt<|wp_seq<|wp_block<|reg<|rP 0 11 (.slice AA2 nn1 nn2)<|rP 1 12 (.slice (some ⟨q, 0, none⟩) 2 2)<|rP 2 13 (.int .i64 1)<|rq 3 14 (pt q 1) rfl (iS 1 q 0 2 2 1) ?_
 have kk1 : Chg [] w W1 := zA ch1
 have kk2 := Chg.step kk1 ch2 (newOr_blk (fun g hg => by have := ow2.lt g hg; omega))
 refine rL 4 15 1 (.int .u64 N2) (qT kk2 hq)<|rK 5 16 (RForm_any N2 W2 hN2) ?_
 rintro _ W3 ⟨AA3, nn3, cc2, rfl, ow4, ch3⟩
 have zz3 := ch3.size
 have hq6 := ow4.nc
 have hq7 := ow4.cm
 have hq8 := ow4.byt.1
 have hfl2 := formN_len hN2
 have ow5 := Mur.own8 (own_chg ow3.own ch3 (fun q e _ _ => trivial))
 refine rX 6 17 rfl rfl (Mur.append8 (.tmp 11) (.tmp 16) 22 5 rfl Tryd.underlying22 (by kernel_rfl) W1.heap.size AA2 nn1 nn2 (formN N1) AA3 nn3 cc2 (formN N2) (by kernel_rfl) (by kernel_rfl) ow5.own ow4.byt ow4.nil (by omega) (by omega) (nn1 + nn3) (by omega) ((formN N1) ++ (formN N2)) rfl) ?_
 rintro _ W4 ⟨AA4, nn4, rfl, ow6, ch4, ha2⟩
 have zz4 := ch4.size
 have hq9 := ow6.nc
 have hq10 := ow6.cm
 refine rP 7 3 (.slice AA4 (nn1 + nn3) nn4)<|rE<|inN<|nxt<|reg<|rP 0 9 (.int .i64 1)<|rI 1 10 (1 + 1) (2)<|rP 2 4 (.int .i64 2)<|eN<|Wk.rdS<|wp_seq<|sR<|rP 0 5 (.int .i64 2)<|rP 1 6 (.slice (some ⟨q, 0, none⟩) 2 2)<|rP 2 7 (.int .i64 2)<|bF 3 8 ((2 : Int) < (2 : Int))<|eN<|cF<|xX<|nxt<|sR<|rP 0 18 (.slice AA4 (nn1 + nn3) nn4)<|rP 1 2 (.slice AA4 (nn1 + nn3) nn4)<|eN<|wp_ret<|?_
 have kk3 := kA kk2 ch3
 have kk4 := Chg.step kk3 ch4 (newOr_blk (fun g hg => by have := ow3.lt g hg; omega))
 refine rt (.slice AA4 (nn1 + nn3) nn4) ?_
 exact ⟨_, _, _, rfl, own8_low ow6 (by omega), by omega, kk4⟩
theorem RNat3_any (q N1 N2 N3 : Nat) (w : World) (hq : w.heap[q]? = some (.cells #[.int .u64 N1, .int .u64 N2, .int .u64 N3] 24 (0, 0))) (hN1 : N1 < 18446744073709551616) (hN2 : N2 < 18446744073709551616) (hN3 : N3 < 18446744073709551616) : Calls Tryd.prog 28 #[.slice (some ⟨q, 0, none⟩) 3 3] w fun e w' => ∃ A1 n1 c1, e = .returned (.slice A1 n1 c1) ∧ Own8 w' w.heap.size 5 A1 n1 c1 (formN N1 ++ formN N2 ++ formN N3) ∧ n1 ≤ 27 ∧ Chg [] w w' := by
 have hql_ := (Array.getElem?_eq_some_iff.1 hq).1
 refine calls_of_wp Tryd.func28 rfl ?_
 refine sR<|rP 0 2 (.slice none 0 0)<|eN<|sR<|rP 0 3 (.slice none 0 0)<|eN<|wp_seq<|sR<|rP 0 4 (.int .i64 0)<|eN<|wp_block<|?_
 refine Wk.loopN 4 ?_
 refine Wk.rdS<|wp_seq<|sR<|?_
 refine rP 0 5 (.int .i64 0)<|rP 1 6 (.slice (some ⟨q, 0, none⟩) 3 3)<|rP 2 7 (.int .i64 3)<|bT 3 8 ((0 : Int) < (3 : Int))<|eN<|cT<|wp_skip<|nxt<|wp_seq<|wp_block<|reg<|rP 0 11 (.slice none 0 0)<|rP 1 12 (.slice (some ⟨q, 0, none⟩) 3 3)<|rP 2 13 (.int .i64 0)<|rq 3 14 (pt q 0) rfl (iS 1 q 0 3 3 0)<|rL 4 15 0 (.int .u64 N1) hq<|rK 5 16 (RForm_any N1 w hN1) ?_
 rintro _ W1 ⟨AA1, nn1, cc1, rfl, ow1, ch1⟩
 have zz1 := ch1.size
 have hq1 := ow1.nc
 have hq2 := ow1.cm
 have hq3 := ow1.byt.1
 have hfl1 := formN_len hN1
 have ow2 := own8_nil W1 W1.heap.size 5
 refine rX 6 17 rfl rfl (Mur.append8 (.tmp 11) (.tmp 16) 22 5 rfl Tryd.underlying22 (by kernel_rfl) W1.heap.size none 0 0 ([]) AA1 nn1 cc1 (formN N1) (by kernel_rfl) (by kernel_rfl) ow2.own ow1.byt ow1.nil (by omega) (by omega) nn1 (by omega) (formN N1) rfl) ?_
 rintro _ W2 ⟨AA2, nn2, rfl, ow3, ch2, ha1⟩
 have zz2 := ch2.size
 have hq4 := ow3.nc
 have hq5 := ow3.cm
 refine rP 7 3 (.slice AA2 nn1 nn2)<|rE<|inN<|nxt<|reg<|rP 0 9 (.int .i64 0)<|rI 1 10 (0 + 1) (1)<|rP 2 4 (.int .i64 1)<|eN<|Wk.rdS<|wp_seq<|sR<|rP 0 5 (.int .i64 1)<|rP 1 6 (.slice (some ⟨q, 0, none⟩) 3 3)<|rP 2 7 (.int .i64 3)<|bT 3 8 ((1 : Int) < (3 : Int))<|eN<|cT<|wp_skip<|nxt<|wp_seq<|wp_block<|reg<|rP 0 11 (.slice AA2 nn1 nn2)<|rP 1 12 (.slice (some ⟨q, 0, none⟩) 3 3)<|rP 2 13 (.int .i64 1)<|rq 3 14 (pt q 1) rfl (iS 1 q 0 3 3 1) ?_
 have kk1 : Chg [] w W1 := zA ch1
 have kk2 := Chg.step kk1 ch2 (newOr_blk (fun g hg => by have := ow2.lt g hg; omega))
 refine rL 4 15 1 (.int .u64 N2) (qT kk2 hq)<|rK 5 16 (RForm_any N2 W2 hN2) ?_
 rintro _ W3 ⟨AA3, nn3, cc2, rfl, ow4, ch3⟩
 have zz3 := ch3.size
 have hq6 := ow4.nc
 have hq7 := ow4.cm
 have hq8 := ow4.byt.1
 have hfl2 := formN_len hN2
 have ow5 := Mur.own8 (own_chg ow3.own ch3 (fun q e _ _ => trivial))
 refine rX 6 17 rfl rfl (Mur.append8 (.tmp 11) (.tmp 16) 22 5 rfl Tryd.underlying22 (by kernel_rfl) W1.heap.size AA2 nn1 nn2 (formN N1) AA3 nn3 cc2 (formN N2) (by kernel_rfl) (by kernel_rfl) ow5.own ow4.byt ow4.nil (by omega) (by omega) (nn1 + nn3) (by omega) ((formN N1) ++ (formN N2)) rfl) ?_
 rintro _ W4 ⟨AA4, nn4, rfl, ow6, ch4, ha2⟩
 have zz4 := ch4.size
 have hq9 := ow6.nc
 have hq10 := ow6.cm
 refine rP 7 3 (.slice AA4 (nn1 + nn3) nn4)<|rE<|inN<|nxt<|reg<|rP 0 9 (.int .i64 1)<|rI 1 10 (1 + 1) (2)<|rP 2 4 (.int .i64 2)<|eN<|Wk.rdS<|wp_seq<|sR<|rP 0 5 (.int .i64 2)<|rP 1 6 (.slice (some ⟨q, 0, none⟩) 3 3)<|rP 2 7 (.int .i64 3)<|bT 3 8 ((2 : Int) < (3 : Int))<|eN<|cT<|wp_skip<|nxt<|wp_seq<|wp_block<|reg<|rP 0 11 (.slice AA4 (nn1 + nn3) nn4)<|rP 1 12 (.slice (some ⟨q, 0, none⟩) 3 3)<|rP 2 13 (.int .i64 2)<|rq 3 14 (pt q 2) rfl (iS 1 q 0 3 3 2) ?_
 have kk3 := kA kk2 ch3
 have kk4 := Chg.step kk3 ch4 (newOr_blk (fun g hg => by have := ow3.lt g hg; omega))
 refine rL 4 15 2 (.int .u64 N3) (qT kk4 hq)<|rK 5 16 (RForm_any N3 W4 hN3) ?_
 rintro _ W5 ⟨AA5, nn5, cc3, rfl, ow7, ch5⟩
 have zz5 := ch5.size
 have hq11 := ow7.nc
 have hq12 := ow7.cm
 have hq13 := ow7.byt.1
 have hfl3 := formN_len hN3
 have ow8 := Mur.own8 (own_chg ow6.own ch5 (fun q e _ _ => trivial))
 refine rX 6 17 rfl rfl (Mur.append8 (.tmp 11) (.tmp 16) 22 5 rfl Tryd.underlying22 (by kernel_rfl) W1.heap.size AA4 (nn1 + nn3) nn4 ((formN N1) ++ (formN N2)) AA5 nn5 cc3 (formN N3) (by kernel_rfl) (by kernel_rfl) ow8.own ow7.byt ow7.nil (by omega) (by omega) (nn1 + nn3 + nn5) (by omega) (((formN N1) ++ (formN N2)) ++ (formN N3)) rfl) ?_
 rintro _ W6 ⟨AA6, nn6, rfl, ow9, ch6, ha3⟩
 have zz6 := ch6.size
 have hq14 := ow9.nc
 have hq15 := ow9.cm
 refine rP 7 3 (.slice AA6 (nn1 + nn3 + nn5) nn6)<|rE<|inN<|nxt<|reg<|rP 0 9 (.int .i64 2)<|rI 1 10 (2 + 1) (3)<|rP 2 4 (.int .i64 3)<|eN<|Wk.rdS<|wp_seq<|sR<|rP 0 5 (.int .i64 3)<|rP 1 6 (.slice (some ⟨q, 0, none⟩) 3 3)<|rP 2 7 (.int .i64 3)<|bF 3 8 ((3 : Int) < (3 : Int))<|eN<|cF<|xX<|nxt<|sR<|rP 0 18 (.slice AA6 (nn1 + nn3 + nn5) nn6)<|rP 1 2 (.slice AA6 (nn1 + nn3 + nn5) nn6)<|eN<|wp_ret<|?_
 have kk5 := kA kk4 ch5
 have kk6 := Chg.step kk5 ch6 (newOr_blk (fun g hg => by have := ow6.lt g hg; omega))
 refine rt (.slice AA6 (nn1 + nn3 + nn5) nn6) ?_
 exact ⟨_, _, _, rfl, own8_low ow9 (by omega), by omega, kk6⟩
theorem RNat4_any (q N1 N2 N3 N4 : Nat) (w : World) (hq : w.heap[q]? = some (.cells #[.int .u64 N1, .int .u64 N2, .int .u64 N3, .int .u64 N4] 24 (0, 0))) (hN1 : N1 < 18446744073709551616) (hN2 : N2 < 18446744073709551616) (hN3 : N3 < 18446744073709551616) (hN4 : N4 < 18446744073709551616) : Calls Tryd.prog 28 #[.slice (some ⟨q, 0, none⟩) 4 4] w fun e w' => ∃ A1 n1 c1, e = .returned (.slice A1 n1 c1) ∧ Own8 w' w.heap.size 5 A1 n1 c1 (formN N1 ++ formN N2 ++ formN N3 ++ formN N4) ∧ n1 ≤ 36 ∧ Chg [] w w' := by
 have hql_ := (Array.getElem?_eq_some_iff.1 hq).1
 refine calls_of_wp Tryd.func28 rfl ?_
 refine sR<|rP 0 2 (.slice none 0 0)<|eN<|sR<|rP 0 3 (.slice none 0 0)<|eN<|wp_seq<|sR<|rP 0 4 (.int .i64 0)<|eN<|wp_block<|?_
 refine Wk.loopN 5 ?_
 refine Wk.rdS<|wp_seq<|sR<|?_
 refine rP 0 5 (.int .i64 0)<|rP 1 6 (.slice (some ⟨q, 0, none⟩) 4 4)<|rP 2 7 (.int .i64 4)<|bT 3 8 ((0 : Int) < (4 : Int))<|eN<|cT<|wp_skip<|nxt<|wp_seq<|wp_block<|reg<|rP 0 11 (.slice none 0 0)<|rP 1 12 (.slice (some ⟨q, 0, none⟩) 4 4)<|rP 2 13 (.int .i64 0)<|rq 3 14 (pt q 0) rfl (iS 1 q 0 4 4 0)<|rL 4 15 0 (.int .u64 N1) hq<|rK 5 16 (RForm_any N1 w hN1) ?_
 rintro _ W1 ⟨AA1, nn1, cc1, rfl, ow1, ch1⟩
 have zz1 := ch1.size
 have hq1 := ow1.nc
 have hq2 := ow1.cm
 have hq3 := ow1.byt.1
 have hfl1 := formN_len hN1
 have ow2 := own8_nil W1 W1.heap.size 5
 refine rX 6 17 rfl rfl (Mur.append8 (.tmp 11) (.tmp 16) 22 5 rfl Tryd.underlying22 (by kernel_rfl) W1.heap.size none 0 0 ([]) AA1 nn1 cc1 (formN N1) (by kernel_rfl) (by kernel_rfl) ow2.own ow1.byt ow1.nil (by omega) (by omega) nn1 (by omega) (formN N1) rfl) ?_
 rintro _ W2 ⟨AA2, nn2, rfl, ow3, ch2, ha1⟩
 have zz2 := ch2.size
 have hq4 := ow3.nc
 have hq5 := ow3.cm
 refine rP 7 3 (.slice AA2 nn1 nn2)<|rE<|inN<|nxt<|reg<|rP 0 9 (.int .i64 0)<|rI 1 10 (0 + 1) (1)<|rP 2 4 (.int .i64 1)<|eN<|Wk.rdS<|wp_seq<|sR<|rP 0 5 (.int .i64 1)<|rP 1 6 (.slice (some ⟨q, 0, none⟩) 4 4)<|rP 2 7 (.int .i64 4)<|bT 3 8 ((1 : Int) < (4 : Int))<|eN<|cT<|wp_skip<|nxt<|wp_seq<|wp_block<|reg<|rP 0 11 (.slice AA2 nn1 nn2)<|rP 1 12 (.slice (some ⟨q, 0, none⟩) 4 4)<|rP 2 13 (.int .i64 1)<|rq 3 14 (pt q 1) rfl (iS 1 q 0 4 4 1) ?_
 have kk1 : Chg [] w W1 := zA ch1
 have kk2 := Chg.step kk1 ch2 (newOr_blk (fun g hg => by have := ow2.lt g hg; omega))
 refine rL 4 15 1 (.int .u64 N2) (qT kk2 hq)<|rK 5 16 (RForm_any N2 W2 hN2) ?_
 rintro _ W3 ⟨AA3, nn3, cc2, rfl, ow4, ch3⟩
 have zz3 := ch3.size
 have hq6 := ow4.nc
 have hq7 := ow4.cm
 have hq8 := ow4.byt.1
 have hfl2 := formN_len hN2
 have ow5 := Mur.own8 (own_chg ow3.own ch3 (fun q e _ _ => trivial))
 refine rX 6 17 rfl rfl (Mur.append8 (.tmp 11) (.tmp 16) 22 5 rfl Tryd.underlying22 (by kernel_rfl) W1.heap.size AA2 nn1 nn2 (formN N1) AA3 nn3 cc2 (formN N2) (by kernel_rfl) (by kernel_rfl) ow5.own ow4.byt ow4.nil (by omega) (by omega) (nn1 + nn3) (by omega) ((formN N1) ++ (formN N2)) rfl) ?_
 rintro _ W4 ⟨AA4, nn4, rfl, ow6, ch4, ha2⟩
 have zz4 := ch4.size
 have hq9 := ow6.nc
 have hq10 := ow6.cm
 refine rP 7 3 (.slice AA4 (nn1 + nn3) nn4)<|rE<|inN<|nxt<|reg<|rP 0 9 (.int .i64 1)<|rI 1 10 (1 + 1) (2)<|rP 2 4 (.int .i64 2)<|eN<|Wk.rdS<|wp_seq<|sR<|rP 0 5 (.int .i64 2)<|rP 1 6 (.slice (some ⟨q, 0, none⟩) 4 4)<|rP 2 7 (.int .i64 4)<|bT 3 8 ((2 : Int) < (4 : Int))<|eN<|cT<|wp_skip<|nxt<|wp_seq<|wp_block<|reg<|rP 0 11 (.slice AA4 (nn1 + nn3) nn4)<|rP 1 12 (.slice (some ⟨q, 0, none⟩) 4 4)<|rP 2 13 (.int .i64 2)<|rq 3 14 (pt q 2) rfl (iS 1 q 0 4 4 2) ?_
 have kk3 := kA kk2 ch3
 have kk4 := Chg.step kk3 ch4 (newOr_blk (fun g hg => by have := ow3.lt g hg; omega))
 refine rL 4 15 2 (.int .u64 N3) (qT kk4 hq)<|rK 5 16 (RForm_any N3 W4 hN3) ?_
 rintro _ W5 ⟨AA5, nn5, cc3, rfl, ow7, ch5⟩
 have zz5 := ch5.size
 have hq11 := ow7.nc
 have hq12 := ow7.cm
 have hq13 := ow7.byt.1
 have hfl3 := formN_len hN3
 have ow8 := Mur.own8 (own_chg ow6.own ch5 (fun q e _ _ => trivial))
 refine rX 6 17 rfl rfl (Mur.append8 (.tmp 11) (.tmp 16) 22 5 rfl Tryd.underlying22 (by kernel_rfl) W1.heap.size AA4 (nn1 + nn3) nn4 ((formN N1) ++ (formN N2)) AA5 nn5 cc3 (formN N3) (by kernel_rfl) (by kernel_rfl) ow8.own ow7.byt ow7.nil (by omega) (by omega) (nn1 + nn3 + nn5) (by omega) (((formN N1) ++ (formN N2)) ++ (formN N3)) rfl) ?_
 rintro _ W6 ⟨AA6, nn6, rfl, ow9, ch6, ha3⟩
 have zz6 := ch6.size
 have hq14 := ow9.nc
 have hq15 := ow9.cm
 refine rP 7 3 (.slice AA6 (nn1 + nn3 + nn5) nn6)<|rE<|inN<|nxt<|reg<|rP 0 9 (.int .i64 2)<|rI 1 10 (2 + 1) (3)<|rP 2 4 (.int .i64 3)<|eN<|Wk.rdS<|wp_seq<|sR<|rP 0 5 (.int .i64 3)<|rP 1 6 (.slice (some ⟨q, 0, none⟩) 4 4)<|rP 2 7 (.int .i64 4)<|bT 3 8 ((3 : Int) < (4 : Int))<|eN<|cT<|wp_skip<|nxt<|wp_seq<|wp_block<|reg<|rP 0 11 (.slice AA6 (nn1 + nn3 + nn5) nn6)<|rP 1 12 (.slice (some ⟨q, 0, none⟩) 4 4)<|rP 2 13 (.int .i64 3)<|rq 3 14 (pt q 3) rfl (iS 1 q 0 4 4 3) ?_
 have kk5 := kA kk4 ch5
 have kk6 := Chg.step kk5 ch6 (newOr_blk (fun g hg => by have := ow6.lt g hg; omega))
 refine rL 4 15 3 (.int .u64 N4) (qT kk6 hq)<|rK 5 16 (RForm_any N4 W6 hN4) ?_
 rintro _ W7 ⟨AA7, nn7, cc4, rfl, ow10, ch7⟩
 have zz7 := ch7.size
 have hq16 := ow10.nc
 have hq17 := ow10.cm
 have hq18 := ow10.byt.1
 have hfl4 := formN_len hN4
 have ow11 := Mur.own8 (own_chg ow9.own ch7 (fun q e _ _ => trivial))
 refine rX 6 17 rfl rfl (Mur.append8 (.tmp 11) (.tmp 16) 22 5 rfl Tryd.underlying22 (by kernel_rfl) W1.heap.size AA6 (nn1 + nn3 + nn5) nn6 (((formN N1) ++ (formN N2)) ++ (formN N3)) AA7 nn7 cc4 (formN N4) (by kernel_rfl) (by kernel_rfl) ow11.own ow10.byt ow10.nil (by omega) (by omega) (nn1 + nn3 + nn5 + nn7) (by omega) ((((formN N1) ++ (formN N2)) ++ (formN N3)) ++ (formN N4)) rfl) ?_
 rintro _ W8 ⟨AA8, nn8, rfl, ow12, ch8, ha4⟩
 have zz8 := ch8.size
 have hq19 := ow12.nc
 have hq20 := ow12.cm
 refine rP 7 3 (.slice AA8 (nn1 + nn3 + nn5 + nn7) nn8)<|rE<|inN<|nxt<|reg<|rP 0 9 (.int .i64 3)<|rI 1 10 (3 + 1) (4)<|rP 2 4 (.int .i64 4)<|eN<|Wk.rdS<|wp_seq<|sR<|rP 0 5 (.int .i64 4)<|rP 1 6 (.slice (some ⟨q, 0, none⟩) 4 4)<|rP 2 7 (.int .i64 4)<|bF 3 8 ((4 : Int) < (4 : Int))<|eN<|cF<|xX<|nxt<|sR<|rP 0 18 (.slice AA8 (nn1 + nn3 + nn5 + nn7) nn8)<|rP 1 2 (.slice AA8 (nn1 + nn3 + nn5 + nn7) nn8)<|eN<|wp_ret<|?_
 have kk7 := kA kk6 ch7
 have kk8 := Chg.step kk7 ch8 (newOr_blk (fun g hg => by have := ow9.lt g hg; omega))
 refine rt (.slice AA8 (nn1 + nn3 + nn5 + nn7) nn8) ?_
 exact ⟨_, _, _, rfl, own8_low ow12 (by omega), by omega, kk8⟩
theorem RFlag_any (b : Bool) (w : World) : Calls Tryd.prog 30 #[.bool b] w fun e w' => e = .returned (.int .u64 (Mur.flagN b : Nat)) ∧ Chg [] w w' := by
 refine calls_of_wp Tryd.func30 rfl ?_
 refine sR<|rP 0 2 (.int .u64 0)<|eN<|wp_seq<|sR<|rP 0 3 (.bool b)<|eN<|?_
 cases b
 ·refine cF<|wp_skip<|nxt<|sR<|rP 0 2 (.int .u64 0)<|eN<|wp_ret<|rt (.int .u64 0) ?_
  exact ⟨rfl, (Chg.refl _)⟩
 refine cT<|sR<|rP 0 2 (.int .u64 1)<|eN<|tR<|rt (.int .u64 1) ?_
 exact ⟨rfl, (Chg.refl _)⟩
theorem RTagged_any (b : List UInt8) (A : Option Addr) (n c : Nat) (w : World) (hb : Byt w A n b) (hnc : n ≤ c ∧ c ≤ 9223372036854775807) (hnil : A = none → c = 0) (hn : n ≤ 1000000) : Calls Tryd.prog 11 #[.slice A n c] w fun e w' => ∃ A1 n1 c1, e = .returned (.slice A1 n1 c1) ∧ Own8 w' w.heap.size 5 A1 n1 c1 (18 :: b) ∧ Chg [] w w' := by
 have hnc_ := hnc
 have hbl_ := hb.1
 refine calls_of_wp Tryd.func11 rfl ?_
 refine sR<|rP 0 2 (.slice none 0 0)<|eN<|sR<|rX 0 3 rfl rfl (new_ex (.slice (some ⟨w.heap.size, 0, none⟩) 1 1) #[.int .u8 18] 5 (by kernel_rfl)) ?_
 rintro _ W1 ⟨rfl, hb1, ch1, sz1⟩
 have zz1 := ch1.size
 refine rP 1 4 (.slice A n c) ?_
 have ow1 : Mur.Own8 W1 w.heap.size 5 (some ⟨w.heap.size, 0, none⟩) 1 1 [18] := own8_lit hb1 (Nat.le_refl _) rfl (by omega)
 have kk1 : Chg [] w W1 := zA ch1
 refine rX 2 5 rfl rfl (Mur.append8 (.tmp 3) (.tmp 4) 22 5 rfl Tryd.underlying22 (by kernel_rfl) w.heap.size (some ⟨w.heap.size, 0, none⟩) 1 1 ([18]) A n c b (by kernel_rfl) (by kernel_rfl) ow1.own (Mur.byt_chg hb kk1 (fun g off e hl => trivial)) hnil (by omega) (by omega) (1 + n) (by omega) (([18]) ++ b) rfl) ?_
 rintro _ W2 ⟨AA1, nn1, rfl, ow2, ch2, ha1⟩
 have zz2 := ch2.size
 have hq1 := ow2.nc
 have hq2 := ow2.cm
 refine rP 3 2 (.slice AA1 (1 + n) nn1)<|eN<|wp_ret<|?_
 have kk2 := Chg.step kk1 ch2 (newOr_blk (fun g hg => by have := ow1.lt g hg; omega))
 refine rt (.slice AA1 (1 + n) nn1) ?_
 exact ⟨_, _, _, rfl, own8_low ow2 (by omega), kk2⟩
end Go.Proofs.YtgbadghjnpbiaaaDoor
