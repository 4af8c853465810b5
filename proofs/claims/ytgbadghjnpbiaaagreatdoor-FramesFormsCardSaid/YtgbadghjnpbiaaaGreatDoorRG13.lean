/- What the row rests on, part 13. -/
import Derived.Test.YtgbadghjnpbiaaaGreatDoorProg
import Derived.Test.YtgbadghjnpbiaaaGreatDoorRG8
import Derived.Test.YtgbadghjnpbiaaaGreatDoorRG12
import Derived.Test.YtgbadghjnpbiaaaGreatDoorRG7
import Derived.Test.YtgbadghjnpbiaaaGreatDoorRG6
import Derived.Test.YtgbadghjnpbiaaaGreatDoorRG9
import Derived.Test.YtgbadghjnpbiaaaGreatDoorRG10
namespace Go.Proofs.YtgbadghjnpbiaaaGreatDoor
open Go.RowKit Wk
open Mur (b8s Byt Own8 Seg Segs flat cutA attC Att SlA OwnA rowA msgC frmP zs0 frmL sl0 z32 run_built frmL_size frmL_sz frmL_all hmac_length byt_row lies_none want_in bytesFM want_bytes want_read clm_read headM frmIn_head run_str byt_chg)
set_option maxRecDepth 100000
set_option maxHeartbeats 4000000
theorem Want_any (b : Int) (w : World) : Calls Tryz.prog 15 #[vI b] w fun e w' => e = .returned (.agg (frmP (Mur.wantM b) zs0).flatten.toArray) ∧ Chg [] w w' := by
 refine calls_of_wp Tryz.func15 rfl ?_
 refine sR<|nW 0 2 ((frmh 0 0 0).flatten.toArray) 38 fun W1 hb1 ch1 sz1 => eN<|sR<|rP 0 3 (vI b)<|rq 1 4 (.agg ((frmL 5 1 b 0 0 0 0 sl0 0 sl0 z32 0 sl0 false z32 0 0 0 false z32 z32 0 z32 z32 3 sl0 sl0).flatten.toArray)) rfl (run_built 38 _ rfl [(0, vB 5), (1, vI 1), (2, vI b), (8, vI 3)] (by kernel_rfl) _ (built_want b))<|rU 2 rfl (sA (frmL 5 1 b 0 0 0 0 sl0 0 sl0 z32 0 sl0 false z32 0 0 0 false z32 z32 0 z32 z32 3 sl0 sl0).flatten.toArray (frmL_size (frmL_sz rfl rfl rfl rfl rfl rfl)) hb1 (frmL_size (frmL_sz rfl rfl rfl rfl rfl rfl))) fun W2 hb2 ch2 zz2 => eN<|wp_ret<|?_
 exact retC rfl hb2 (by rw [(frmL_size (frmL_sz rfl rfl rfl rfl rfl rfl))]; kernel_rfl) ⟨rfl, (kB (zA ch1 : Chg [] w W1) ch2)⟩
theorem Known25_any (w : World) (hv : ShaVars w) : Calls Tryz.prog 6 #[] w fun e w' => e = .returned vT ∧ Chg [] w w' := by
 have HV := Go.Lib.hid hv
 clear hv
 have hml_ : Go.maxLen = 9223372036854775807 := rfl
 obtain ⟨Ts, hTs⟩ : ∃ T : List UInt8 → List UInt8, ∀ x, T x = Mur.hmac [115] (18 :: x) := ⟨_, fun _ => rfl⟩
 have hTsl : ∀ x, (Ts x).length = 32 := fun x => by rw [hTs]; exact hmac_length _ _
 obtain ⟨Tt, hTt⟩ : ∃ T : List UInt8 → List UInt8, ∀ x, T x = Mur.hmac [116] (18 :: x) := ⟨_, fun _ => rfl⟩
 have hTtl : ∀ x, (Tt x).length = 32 := fun x => by rw [hTt]; exact hmac_length _ _
 refine calls_of_wp Tryz.func6 rfl ?_
 refine sR<|rP 0 0 vF<|eN<|sR<|nS 0 13 1 #[vB 115] 5 fun W1 hb1 ch1 sz1 => rX 1 14 rfl rfl (Mur.run_mark 22 (.tmp 13) 5 rfl Tryz.underlying22 Tryz.underlying5 w.heap.size 1 1 #[vB 115] (by kernel_rfl) hb1) ?_
 rintro _ W2 ⟨rfl, hb2, ch2⟩
 have zz2 := ch2.size
 refine rK 2 15 (Want_any 2 W2) ?_
 rintro _ W3 ⟨rfl, ch3⟩
 have zz3 := ch3.size
 have kk3 := kA (kB (zA ch1 : Chg [] w W1) ch2) ch3
 refine rK 3 16 (BytesF_any ([115]) (some ⟨w.heap.size, 0, none⟩) 1 1 Ts (Mur.wantM 2) zs0 W3 (HV.out.below (Chg.below0 kk3)) (byt_row [115] (qT ch3 hb2)) ⟨by omega, by omega⟩ (fun h => by cases h) (by omega) hTs hTsl (lies_none rfl rfl rfl rfl rfl) (want_in 2 (by omega))) ?_
 rintro _ W4 ⟨AA1, nn1, cc1, er1, rfl, hc1, ch4⟩
 have zz4 := ch4.size
 rcases hc1 with ⟨hmy1, rfl, ow1⟩ | ⟨hmy1, rfl, rfl, rfl, rfl⟩
 ·have hq1 := ow1.nc
  have hq2 := ow1.cm
  have hq3 := ow1.byt.1
  have hlb1 : (bytesFM Ts (Mur.wantM 2)).length = 40 := (congrArg List.length (want_bytes Ts)).trans rfl
  refine rP 4 12 (.tuple #[.slice AA1 nn1 cc1, vI 0])<|rP 5 17 (.slice AA1 nn1 cc1)<|rP 6 18 (vI 0)<|rP 7 1 (.slice AA1 nn1 cc1)<|rP 8 2 (vI 0)<|eN<|sR<|nS 0 20 1 #[vB 115] 5 fun W5 hb3 ch5 sz2 => rX 1 21 rfl rfl (Mur.run_mark 22 (.tmp 20) 5 rfl Tryz.underlying22 Tryz.underlying5 W4.heap.size 1 1 #[vB 115] (by kernel_rfl) hb3) ?_
  rintro _ W6 ⟨rfl, hb4, ch6⟩
  have zz6 := ch6.size
  refine rK 2 22 (Want_any 1 W6) ?_
  rintro _ W7 ⟨rfl, ch7⟩
  have zz7 := ch7.size
  have kk7 := kA (kB (kA (kA kk3 ch4) ch5) ch6) ch7
  refine rK 3 23 (BytesF_any ([115]) (some ⟨W4.heap.size, 0, none⟩) 1 1 Ts (Mur.wantM 1) zs0 W7 (HV.out.below (Chg.below0 kk7)) (byt_row [115] (qT ch7 hb4)) ⟨by omega, by omega⟩ (fun h => by cases h) (by omega) hTs hTsl (lies_none rfl rfl rfl rfl rfl) (want_in 1 (by omega))) ?_
  rintro _ W8 ⟨AA2, nn2, cc2, er2, rfl, hc2, ch8⟩
  have zz8 := ch8.size
  rcases hc2 with ⟨hmy2, rfl, ow2⟩ | ⟨hmy2, rfl, rfl, rfl, rfl⟩
  ·exact absurd hmy2 Mur.want_no
  refine rP 4 19 (.tuple #[.slice none 0 0, vI 2])<|rP 5 24 (.slice none 0 0)<|rP 6 25 (vI 2)<|rP 7 3 (.slice none 0 0)<|rP 8 4 (vI 2)<|eN<|sR<|nS 0 27 1 #[vB 116] 5 fun W10 hb5 ch9 sz3 => rX 1 28 rfl rfl (Mur.run_mark 22 (.tmp 27) 5 rfl Tryz.underlying22 Tryz.underlying5 W8.heap.size 1 1 #[vB 116] (by kernel_rfl) hb5) ?_
  rintro _ W11 ⟨rfl, hb6, ch10⟩
  have zz10 := ch10.size
  refine rP 2 29 (.slice AA1 nn1 cc1) ?_
  have ow8 := oB (oA (oA (oA (oB (oA ow1 ch5) ch6 ow1.lt) ch7) ch8) ch9) ch10 ow1.lt
  have kk10 := kB (kA (kA kk7 ch8) ch9) ch10
  refine rK 3 30 (ReadF_any ([116]) (some ⟨W8.heap.size, 0, none⟩) 1 1 Tt (bytesFM Ts (Mur.wantM 2)) AA1 nn1 cc1 W11 (HV.out.below (Chg.below0 kk10)) (byt_row [116] hb6) ⟨by omega, by omega⟩ (fun h => by cases h) (by omega) hTt hTtl ow8.byt ⟨by omega, by omega⟩ ow8.nil) ?_
  rintro _ W12 ⟨FF1, ZZ1, er3, rfl, hLs1, hZin1, hc3, ch11⟩
  have zz11 := ch11.size
  rcases hc3 with ⟨rfl, htd1, hIn1⟩ | ⟨rfl, htd1, rfl⟩ | ⟨rfl, htd1, rfl⟩ | ⟨rfl, htd1, rfl⟩
  ·obtain rfl : FF1 = Mur.wantM 2 := by have h_ := htd1.symm.trans (want_read Ts Tt hTsl); injection h_
   refine rP 4 26 (.tuple #[.agg ((frmP (Mur.wantM 2) ZZ1).flatten.toArray), vI 0])<|rP 5 31 (.agg ((frmP (Mur.wantM 2) ZZ1).flatten.toArray))<|rP 6 32 (vI 0)<|nW 7 5 ((frmh 0 0 0).flatten.toArray) 38 fun W13 hb7 ch12 sz4 => rU 8 rfl (sA (frmP (Mur.wantM 2) ZZ1).flatten.toArray (frmL_size (frmL_sz (want_in 2 (by omega)).ok.sum (want_in 2 (by omega)).ok.key (Mur.wantM 2).att.hk (Mur.wantM 2).att.hr (Mur.wantM 2).att.ht (want_in 2 (by omega)).ok.root)) hb7 (frmL_size (frmL_sz rfl rfl rfl rfl rfl rfl))) fun W14 hb8 ch13 zz13 => rP 9 6 (vI 0)<|eN<|sR<|rq 0 33 (.agg ((Mur.claimC z32 1 0 0 false).toArray)) rfl (run_built 33 _ rfl [(1, vI 1)] (by kernel_rfl) _ built_claim1)<|rq 1 34 (.agg ((frmL 3 1 2 0 0 0 0 sl0 0 sl0 z32 0 sl0 false z32 1 0 0 false z32 z32 0 z32 z32 0 sl0 sl0).flatten.toArray)) rfl (run_built 38 _ rfl [(0, vB 3), (1, vI 1), (2, vI 2), (5, .agg ((Mur.claimC z32 1 0 0 false).toArray))] (by kernel_rfl) _ built_frmc)<|nW 2 7 ((frmh 0 0 0).flatten.toArray) 38 fun W15 hb9 ch14 sz5 => rU 3 rfl (sA (frmL 3 1 2 0 0 0 0 sl0 0 sl0 z32 0 sl0 false z32 1 0 0 false z32 z32 0 z32 z32 0 sl0 sl0).flatten.toArray (frmL_size (frmL_sz rfl rfl rfl rfl rfl rfl)) hb9 (frmL_size (frmL_sz rfl rfl rfl rfl rfl rfl))) fun W16 hb10 ch15 zz15 => eN<|sR<|nS 0 36 1 #[vB 115] 5 fun W17 hb11 ch16 sz6 => rX 1 37 rfl rfl (Mur.run_mark 22 (.tmp 36) 5 rfl Tryz.underlying22 Tryz.underlying5 W16.heap.size 1 1 #[vB 115] (by kernel_rfl) hb11) ?_
   rintro _ W18 ⟨rfl, hb12, ch17⟩
   have zz17 := ch17.size
   refine rq 2 38 _ rfl (lA (qO ch17 (qT ch16 hb10)) (frmL_size (frmL_sz rfl rfl rfl rfl rfl rfl))) ?_
   have kk17 := kB (kA (kB (kA (kB (kA (kA kk10 ch11) ch12) ch13) ch14) ch15) ch16) ch17
   refine rK 3 39 (BytesF_any ([115]) (some ⟨W16.heap.size, 0, none⟩) 1 1 Ts Mur.clmM zs0 W18 (HV.out.below (Chg.below0 kk17)) (byt_row [115] hb12) ⟨by omega, by omega⟩ (fun h => by cases h) (by omega) hTs hTsl (lies_none rfl rfl rfl rfl rfl) Mur.clm_in) ?_
   rintro _ W19 ⟨AA3, nn3, cc3, er4, rfl, hc4, ch18⟩
   have zz18 := ch18.size
   rcases hc4 with ⟨hmy3, rfl, ow9⟩ | ⟨hmy3, rfl, rfl, rfl, rfl⟩
   ·have hq4 := ow9.nc
    have hq5 := ow9.cm
    have hq6 := ow9.byt.1
    have hlb2 : (bytesFM Ts Mur.clmM).length = 73 := Mur.clm_len Ts hTsl
    refine rP 4 35 (.tuple #[.slice AA3 nn3 cc3, vI 0])<|rP 5 40 (.slice AA3 nn3 cc3)<|rP 6 41 (vI 0)<|rP 7 8 (.slice AA3 nn3 cc3)<|rP 8 9 (vI 0)<|eN<|sR<|nS 0 43 1 #[vB 116] 5 fun W20 hb13 ch19 sz7 => rX 1 44 rfl rfl (Mur.run_mark 22 (.tmp 43) 5 rfl Tryz.underlying22 Tryz.underlying5 W19.heap.size 1 1 #[vB 116] (by kernel_rfl) hb13) ?_
    rintro _ W21 ⟨rfl, hb14, ch20⟩
    have zz20 := ch20.size
    refine rP 2 45 (.slice AA3 nn3 cc3) ?_
    have ow11 := oB (oA ow9 ch19) ch20 ow9.lt
    have kk20 := kB (kA (kA kk17 ch18) ch19) ch20
    refine rK 3 46 (ReadF_any ([116]) (some ⟨W19.heap.size, 0, none⟩) 1 1 Tt (bytesFM Ts Mur.clmM) AA3 nn3 cc3 W21 (HV.out.below (Chg.below0 kk20)) (byt_row [116] hb14) ⟨by omega, by omega⟩ (fun h => by cases h) (by omega) hTt hTtl ow11.byt ⟨by omega, by omega⟩ ow11.nil) ?_
    rintro _ W22 ⟨FF2, ZZ2, er5, rfl, hLs2, hZin2, hc5, ch21⟩
    have zz21 := ch21.size
    rcases hc5 with ⟨rfl, htd2, hIn2⟩ | ⟨rfl, htd2, rfl⟩ | ⟨rfl, htd2, rfl⟩ | ⟨rfl, htd2, rfl⟩
    ·exact absurd (htd2.symm.trans (clm_read Ts Tt hTs hTt hTsl)) (by intro h_; cases h_)
    ·exact absurd (htd2.symm.trans (clm_read Ts Tt hTs hTt hTsl)) (by intro h_; cases h_)
    ·exact absurd (htd2.symm.trans (clm_read Ts Tt hTs hTt hTsl)) (by intro h_; cases h_)
    refine rP 4 42 (.tuple #[.agg ((frmP (headM 0 0 0) ZZ2).flatten.toArray), vI 250])<|rP 5 47 (.agg ((frmP (headM 0 0 0) ZZ2).flatten.toArray))<|rP 6 48 (vI 250)<|nW 7 10 ((frmh 0 0 0).flatten.toArray) 38 fun W23 hb15 ch22 sz8 => rU 8 rfl (sA (frmP (headM 0 0 0) ZZ2).flatten.toArray (frmL_size (frmL_sz (frmIn_head 0 (by decide) (by decide)).ok.sum (frmIn_head 0 (by decide) (by decide)).ok.key (headM 0 0 0).att.hk (headM 0 0 0).att.hr (headM 0 0 0).att.ht (frmIn_head 0 (by decide) (by decide)).ok.root)) hb15 (frmL_size (frmL_sz rfl rfl rfl rfl rfl rfl))) fun W24 hb16 ch23 zz23 => rP 9 11 (vI 250)<|eN<|wp_seq<|?_
    refine dReg ([]) (by kernel_rfl) ?_
    intro W25 ch24 sz9
    have zz24 := ch24.size
    have sS1 : Chg ([]) W25 W25 := (Chg.refl _).more (by simp)
    refine dW 0 49 (vI 0) sS1<|dV 1 50 vT rfl rfl (fun w' hw' => boolT (b := ((0 : Int) == (0 : Int))) (beq_iff_eq.2 (by decide)) (by kernel_rfl)) sS1<|dW 2 51 vT sS1<|dW 3 52 (vI 2) sS1<|dV 4 53 vT rfl rfl (fun w' hw' => boolT (b := ((2 : Int) == (2 : Int))) (beq_iff_eq.2 (by decide)) (by kernel_rfl)) sS1<|dW 5 54 vT sS1<|dW 6 55 vT sS1<|dW 7 56 (.slice AA1 nn1 cc1) sS1<|dV 8 57 (.string (Mur.str (bytesFM Ts (Mur.wantM 2)))) rfl rfl (fun w' hw' => run_str 22 9 (.tmp 56) 5 rfl Tryz.underlying22 Tryz.underlying5 Tryz.underlying9 AA1 nn1 cc1 (bytesFM Ts (Mur.wantM 2)) (by kernel_rfl) (byt_chg (byt_chg (byt_chg (byt_chg (byt_chg (byt_chg (byt_chg (byt_chg (byt_chg (byt_chg (byt_chg (byt_chg (byt_chg (byt_chg (byt_chg ow8.byt ch11 (fun g off e hl => trivial)) ch12 (fun g off e hl => trivial)) ch13 (fun g off e hl => ⟨by have := ow8.at_ g off e; omega, trivial⟩)) ch14 (fun g off e hl => trivial)) ch15 (fun g off e hl => ⟨by have := ow8.at_ g off e; omega, trivial⟩)) ch16 (fun g off e hl => trivial)) ch17 (fun g off e hl => ⟨by have := ow8.at_ g off e; omega, trivial⟩)) ch18 (fun g off e hl => trivial)) ch19 (fun g off e hl => trivial)) ch20 (fun g off e hl => ⟨by have := ow8.at_ g off e; omega, trivial⟩)) ch21 (fun g off e hl => trivial)) ch22 (fun g off e hl => trivial)) ch23 (fun g off e hl => ⟨by have := ow8.at_ g off e; omega, trivial⟩)) ch24 (fun g off e hl => trivial)) hw' (fun g off e hl => trivial))) sS1<|dO 9<|oS 58 32 Z32 5 fun W26 hb17 ch25 sz10 => ?_
    have sS2 := kA sS1 ch25
    refine aN sS2<|dO 10 ?_
    refine Wk.oVal (some 59) (.string (Mur.str ([0, 0, 0, 0, 0, 0, 0, 0, 0, 0, 0, 0, 0, 0, 0, 0, 0, 0, 0, 0, 0, 0, 0, 0, 0, 0, 0, 0, 0, 0, 0, 0]))) rfl rfl (by kernel_rfl) (run_str 22 9 (.tmp 58) 5 rfl Tryz.underlying22 Tryz.underlying5 Tryz.underlying9 (some ⟨W25.heap.size, 0, none⟩) 32 32 ([0, 0, 0, 0, 0, 0, 0, 0, 0, 0, 0, 0, 0, 0, 0, 0, 0, 0, 0, 0, 0, 0, 0, 0, 0, 0, 0, 0, 0, 0, 0, 0]) (by kernel_rfl) (byt_row [0, 0, 0, 0, 0, 0, 0, 0, 0, 0, 0, 0, 0, 0, 0, 0, 0, 0, 0, 0, 0, 0, 0, 0, 0, 0, 0, 0, 0, 0, 0, 0] hb17)) ?_
    refine aN sS2<|dV 11 60 (.string (Mur.str (([1, 5, 1, 1, 1, 2]) ++ ([0, 0, 0, 0, 0, 0, 0, 0, 0, 0, 0, 0, 0, 0, 0, 0, 0, 0, 0, 0, 0, 0, 0, 0, 0, 0, 0, 0, 0, 0, 0, 0])))) rfl rfl (fun w' hw' => Mur.stradd 9 9 (.const (.string ({ data := #[1, 5, 1, 1, 1, 2] }))) (.tmp 59) rfl ([1, 5, 1, 1, 1, 2]) ([0, 0, 0, 0, 0, 0, 0, 0, 0, 0, 0, 0, 0, 0, 0, 0, 0, 0, 0, 0, 0, 0, 0, 0, 0, 0, 0, 0, 0, 0, 0, 0]) (by kernel_rfl) (by kernel_rfl) (by decide) (by decide)) sS2<|dV 12 61 (.string (Mur.str ((([1, 5, 1, 1, 1, 2]) ++ ([0, 0, 0, 0, 0, 0, 0, 0, 0, 0, 0, 0, 0, 0, 0, 0, 0, 0, 0, 0, 0, 0, 0, 0, 0, 0, 0, 0, 0, 0, 0, 0])) ++ ([1, 3])))) rfl rfl (fun w' hw' => Mur.stradd 9 9 (.tmp 60) (.const (.string ({ data := #[1, 3] }))) rfl (([1, 5, 1, 1, 1, 2]) ++ ([0, 0, 0, 0, 0, 0, 0, 0, 0, 0, 0, 0, 0, 0, 0, 0, 0, 0, 0, 0, 0, 0, 0, 0, 0, 0, 0, 0, 0, 0, 0, 0])) ([1, 3]) (by kernel_rfl) (by kernel_rfl) (by decide) (by decide)) sS2<|dV 13 62 vT rfl rfl (fun w' hw' => dqT ((want_bytes Ts).trans rfl) (Mur.streq 9 9 (.tmp 57) (.tmp 61) rfl (bytesFM Ts (Mur.wantM 2)) ((([1, 5, 1, 1, 1, 2]) ++ ([0, 0, 0, 0, 0, 0, 0, 0, 0, 0, 0, 0, 0, 0, 0, 0, 0, 0, 0, 0, 0, 0, 0, 0, 0, 0, 0, 0, 0, 0, 0, 0])) ++ ([1, 3])) (by kernel_rfl) (by kernel_rfl))) sS2<|dW 14 63 vT sS2<|dW 15 64 vT sS2<|dW 16 65 (vI 0) sS2<|dV 17 66 vT rfl rfl (fun w' hw' => boolT (b := ((0 : Int) == (0 : Int))) (beq_iff_eq.2 (by decide)) (by kernel_rfl)) sS2<|dW 18 67 vT sS2<|dW 19 68 vT sS2<|dV 20 69 _ rfl rfl (fun w' hw' => lA (qT hw' (qT ch24 (qO ch23 (qT ch22 (qT ch21 (qO ch20 (qT ch19 (qT ch18 (qO ch17 (qT ch16 (qO ch15 (qT ch14 hb8)))))))))))) (frmL_size (frmL_sz (want_in 2 (by omega)).ok.sum (want_in 2 (by omega)).ok.key (Mur.wantM 2).att.hk (Mur.wantM 2).att.hr (Mur.wantM 2).att.ht (want_in 2 (by omega)).ok.root))) sS2 ?_
    refine dO 21<|oK 70 (Want_any 2 W26) ?_
    rintro _ W27 ⟨rfl, ch26⟩
    have zz26 := ch26.size
    have sS3 := kA sS2 ch26
    refine aN sS3<|dO 22<|oK 71 (Same25_any (Mur.wantM 2) ZZ1 (Mur.wantM 2) zs0 W27 (Mur.LiesF.chg hLs1 (kA (kA (kA (kB (kA (kA (kB (kA (kA (kB (kA (kB (kA (kB (zA ch12 : Chg [] (W12) W13) ch13) ch14) ch15) ch16) ch17) ch18) ch19) ch20) ch21) ch22) ch23) ch24) ch25) ch26) ⟨fun _ _ _ _ => trivial, fun _ _ _ _ => trivial, fun _ _ _ _ => trivial, fun _ _ _ _ => trivial, fun _ _ _ _ => trivial⟩) (want_in 2 (by omega)) (lies_none rfl rfl rfl rfl rfl) (want_in 2 (by omega))) ?_
    rintro _ W28 ⟨bv1, rfl, hif1, ch27⟩
    have zz27 := ch27.size
    cases bv1
    ·have sS4 := kA sS3 ch27
     refine aN sS4<|dW 23 72 vF sS4<|dW 24 73 vF sS4<|dZ 25 74 sS4<|dZ 26 75 sS4<|dW 27 76 vF sS4<|dW 28 77 vF sS4<|dZ 29 78 sS4<|dZ 30 79 sS4<|dZ 31 80 sS4<|dW 32 81 vF sS4<|dW 33 82 vF sS4<|dZ 34 83 sS4<|dZ 35 84 sS4<|dW 36 85 vF sS4<|dW 37 0 vF sS4<|dN<|wp_ret<|?_
     exact absurd rfl (fun q_ => Bool.noConfusion (hif1.2 q_))
    have sS5 := kA sS3 ch27
    exact aN sS5<|dW 23 72 vT sS5<|dW 24 73 vT sS5<|dW 25 74 (vI 0) sS5<|dV 26 75 vT rfl rfl (fun w' hw' => boolT (b := ((0 : Int) == (0 : Int))) (beq_iff_eq.2 (by decide)) (by kernel_rfl)) sS5<|dW 27 76 vT sS5<|dW 28 77 vT sS5<|dW 29 78 (.slice AA3 nn3 cc3) sS5<|dW 30 79 (vI nn3) sS5<|dV 31 80 vT rfl rfl (fun w' hw' => boolT (b := ((nn3 : Int) == (73 : Int))) (beq_iff_eq.2 (by omega)) (by kernel_rfl)) sS5<|dW 32 81 vT sS5<|dW 33 82 vT sS5<|dW 34 83 (vI 250) sS5<|dV 35 84 vT rfl rfl (fun w' hw' => boolT (b := ((250 : Int) == (250 : Int))) (beq_iff_eq.2 (by decide)) (by kernel_rfl)) sS5<|dW 36 85 vT sS5<|dW 37 0 vT sS5<|dN<|wp_ret<|rt vT ⟨rfl, (kA (kA (kA (kA (kB (kA (kA kk20 ch21) ch22) ch23) ch24) ch25) ch26) ch27)⟩
   exact absurd Mur.clm_may hmy3
  ·exact absurd (htd1.symm.trans (want_read Ts Tt hTsl)) (by intro h_; cases h_)
  ·exact absurd (htd1.symm.trans (want_read Ts Tt hTsl)) (by intro h_; cases h_)
  exact absurd (htd1.symm.trans (want_read Ts Tt hTsl)) (by intro h_; cases h_)
 exact absurd Mur.want_may hmy1
end Go.Proofs.YtgbadghjnpbiaaaGreatDoor
namespace Mur
open Go Go.RowKit Wk
def noP (f : Frm) : Prop := f.pTo = 0 ∧ f.pKind = 0 ∧ f.pSeq = 0 ∧ f.pAbout = 0 ∧ f.pUpd = []
def noC (f : Frm) : Prop := f.cKey = z32 ∧ f.cNode = 0 ∧ f.cInc = 0 ∧ f.cCnt = 0 ∧ f.cGone = false
theorem eq_bare {f : Frm} (h1 : ¬ f.kind = 1 → noP f) (h2 : ¬ f.kind = 2 → f.gos = msgNone) (h3 : ¬ f.kind = 3 → noC f) (h4 : ¬ f.kind = 4 → f.att = attNone) (h5 : ¬ f.kind = 5 → ¬ f.kind = 6 → f.root = z32 ∧ f.chunk = 0) (h6 : ¬ f.kind = 6 → f.byt = [] ∧ f.prf = []) : f = bareM f := by
 obtain ⟨k, a, b, c, d, e, p, q, m, x, y, z, u, v, t, r, s, i, j⟩ := f
 simp only [noP, noC] at h1 h2 h3 h4 h5 h6
 unfold bareM headM
 simp only
 by_cases k1 : k = 1
 ·subst k1
  obtain ⟨rfl, rfl, rfl, rfl, rfl⟩ := h3 (by decide)
  obtain ⟨rfl, rfl⟩ := h5 (by decide) (by decide)
  obtain ⟨rfl, rfl⟩ := h6 (by decide)
  rw [if_pos rfl, h2 (by decide), h4 (by decide)]
 obtain ⟨rfl, rfl, rfl, rfl, rfl⟩ := h1 k1
 rw [if_neg k1]
 by_cases k2 : k = 2
 ·subst k2
  obtain ⟨rfl, rfl, rfl, rfl, rfl⟩ := h3 (by decide)
  obtain ⟨rfl, rfl⟩ := h5 (by decide) (by decide)
  obtain ⟨rfl, rfl⟩ := h6 (by decide)
  rw [if_pos rfl, h4 (by decide)]
 obtain rfl := h2 k2
 rw [if_neg k2]
 by_cases k3 : k = 3
 ·subst k3
  obtain ⟨rfl, rfl⟩ := h5 (by decide) (by decide)
  obtain ⟨rfl, rfl⟩ := h6 (by decide)
  rw [if_pos rfl, h4 (by decide)]
 obtain ⟨rfl, rfl, rfl, rfl, rfl⟩ := h3 k3
 rw [if_neg k3]
 by_cases k4 : k = 4
 ·subst k4
  obtain ⟨rfl, rfl⟩ := h5 (by decide) (by decide)
  obtain ⟨rfl, rfl⟩ := h6 (by decide)
  rw [if_pos rfl]
 obtain rfl := h4 k4
 rw [if_neg k4]
 by_cases k6 : k = 6
 ·subst k6
  rw [if_neg (by decide), if_pos rfl]
 obtain ⟨rfl, rfl⟩ := h6 k6
 by_cases k5 : k = 5
 ·subst k5
  rw [if_pos rfl]
 obtain ⟨rfl, rfl⟩ := h5 k5 k6
 rw [if_neg k5, if_neg k6]
theorem bare_eq {f : Frm} (e : f = bareM f) : (¬ f.kind = 1 → noP f) ∧ (¬ f.kind = 2 → f.gos = msgNone) ∧ (¬ f.kind = 3 → noC f) ∧ (¬ f.kind = 4 → f.att = attNone) ∧ (¬ f.kind = 5 → ¬ f.kind = 6 → f.root = z32 ∧ f.chunk = 0) ∧ (¬ f.kind = 6 → f.byt = [] ∧ f.prf = []) := by
 unfold bareM at e
 by_cases k1 : f.kind = 1
 ·rw [if_pos k1] at e
  refine ⟨fun h => absurd k1 h, fun _ => ?_, fun _ => ?_, fun _ => ?_, fun _ _ => ?_, fun _ => ?_⟩ <;> (rw [e]; first | exact ⟨rfl, rfl, rfl, rfl, rfl⟩ | exact ⟨rfl, rfl⟩ | rfl)
 rw [if_neg k1] at e
 by_cases k2 : f.kind = 2
 ·rw [if_pos k2] at e
  refine ⟨fun _ => ?_, fun h => absurd k2 h, fun _ => ?_, fun _ => ?_, fun _ _ => ?_, fun _ => ?_⟩ <;> (rw [e]; first | exact ⟨rfl, rfl, rfl, rfl, rfl⟩ | exact ⟨rfl, rfl⟩ | rfl)
 rw [if_neg k2] at e
 by_cases k3 : f.kind = 3
 ·rw [if_pos k3] at e
  refine ⟨fun _ => ?_, fun _ => ?_, fun h => absurd k3 h, fun _ => ?_, fun _ _ => ?_, fun _ => ?_⟩ <;> (rw [e]; first | exact ⟨rfl, rfl, rfl, rfl, rfl⟩ | exact ⟨rfl, rfl⟩ | rfl)
 rw [if_neg k3] at e
 by_cases k4 : f.kind = 4
 ·rw [if_pos k4] at e
  refine ⟨fun _ => ?_, fun _ => ?_, fun _ => ?_, fun h => absurd k4 h, fun _ _ => ?_, fun _ => ?_⟩ <;> (rw [e]; first | exact ⟨rfl, rfl, rfl, rfl, rfl⟩ | exact ⟨rfl, rfl⟩ | rfl)
 rw [if_neg k4] at e
 by_cases k5 : f.kind = 5
 ·rw [if_pos k5] at e
  refine ⟨fun _ => ?_, fun _ => ?_, fun _ => ?_, fun _ => ?_, fun h => absurd k5 h, fun _ => ?_⟩ <;> (rw [e]; first | exact ⟨rfl, rfl, rfl, rfl, rfl⟩ | exact ⟨rfl, rfl⟩ | rfl)
 rw [if_neg k5] at e
 by_cases k6 : f.kind = 6
 ·rw [if_pos k6] at e
  refine ⟨fun _ => ?_, fun _ => ?_, fun _ => ?_, fun _ => ?_, fun _ h => absurd k6 h, fun h => absurd k6 h⟩ <;> (rw [e]; first | exact ⟨rfl, rfl, rfl, rfl, rfl⟩ | rfl)
 rw [if_neg k6] at e
 refine ⟨fun _ => ?_, fun _ => ?_, fun _ => ?_, fun _ => ?_, fun _ _ => ?_, fun _ => ?_⟩ <;> (rw [e]; first | exact ⟨rfl, rfl, rfl, rfl, rfl⟩ | exact ⟨rfl, rfl⟩ | rfl)
theorem mayFM_kind {f : Frm} (h : mayFM f) : 1 ≤ f.kind.toNat ∧ f.kind.toNat ≤ 6 := by
 rcases h.2.2.2.2 with h | h | h | h | h | h <;> (rw [h.1]; decide)
theorem may_ne {f : Frm} {n : Nat} (k : f.kind.toNat ≠ n) (hn : n < 256) : ¬ f.kind = UInt8.ofNat n := fun e => k (by rw [e]; simp; omega)
section
variable {f : Frm} (h : mayFM f)
include h
theorem may_nP (k : f.kind.toNat ≠ 1) : noP f := (bare_eq h.2.2.2.1).1 (may_ne k (by decide))
theorem may_nG (k : f.kind.toNat ≠ 2) : f.gos = msgNone := (bare_eq h.2.2.2.1).2.1 (may_ne k (by decide))
theorem may_nC (k : f.kind.toNat ≠ 3) : noC f := (bare_eq h.2.2.2.1).2.2.1 (may_ne k (by decide))
theorem may_nA (k : f.kind.toNat ≠ 4) : f.att = attNone := (bare_eq h.2.2.2.1).2.2.2.1 (may_ne k (by decide))
theorem may_nR (k : f.kind.toNat < 5) : f.root = z32 := ((bare_eq h.2.2.2.1).2.2.2.2.1 (may_ne (n := 5) (by omega) (by decide)) (may_ne (n := 6) (by omega) (by decide))).1
theorem may_none : (f.kind.toNat ≠ 6 → f.byt.length = 0 ∧ f.prf.length = 0) ∧ (f.kind.toNat < 5 → f.chunk = 0) :=
 ⟨fun k => by
  obtain ⟨h1, h2⟩ := (bare_eq h.2.2.2.1).2.2.2.2.2 (may_ne (n := 6) k (by decide))
  rw [h1, h2]
  exact ⟨rfl, rfl⟩, fun k => ((bare_eq h.2.2.2.1).2.2.2.2.1 (may_ne (n := 5) (by omega) (by decide)) (may_ne (n := 6) (by omega) (by decide))).2⟩
end
theorem SlA.one {w : World} {g off n : Nat} {L : List Att} (h : SlA w (some ⟨g, off, none⟩) n L) {i : Nat} {x : Att} (hx : L[i]? = some x) : SlA w (some ⟨g, off + i * 97, none⟩) 1 [x] := by
 obtain ⟨hi, rfl⟩ := List.getElem?_eq_some_iff.1 hx
 refine ⟨rfl, by rw [rowA_len]; rfl, fun _ => ⟨g, _, rfl, ?_⟩⟩
 refine range_cut h.rng (i * 97) (rowA [L[i]]) ?_
 rw [← rowA_drop, rowA_len, ← rowA_take]
 congr 1
 rw [List.drop_eq_getElem_cons hi]
 rfl
theorem below_one {p : List UInt8} {x : Att} {n : Nat} (hp : isPre p = true) (h : (belowL p [x]).length = n) : n = 1 ↔ under p x.k = true := by
 rw [belowL_ok hp] at h
 cases hu : under p x.k
 ·rw [show [x].filter (fun x => under p x.k) = [] by simp [hu], List.length_nil] at h
  exact ⟨fun e => by omega, fun e => by cases e⟩
 ·rw [show [x].filter (fun x => under p x.k) = [x] by simp [hu]] at h
  exact ⟨fun _ => rfl, fun _ => h.symm⟩
section
variable {P : Program} {w : World} {a : Act} {o : Oper}
theorem run_cutM (t : TypeId) (x y z : Operand) (ho : o.op = .slice t x (some y) (some z) none) (e : TypeId) (ht : P.underlying t = some (.slice e)) (sz : Nat) (hsz : (P.info? e).map (·.size) = some sz) (g off n c l h : Nat)
  (hx : a.eval x = .slice (some ⟨g, off, none⟩) n c) (hy : a.eval y = .int .i64 ((l : Nat) : Int)) (hz : a.eval z = .int .i64 ((h : Nat) : Int)) (hl : l < h) (hh : h ≤ c) (m : Nat) (hm : h - l = m) :
  (execOp a.eval o).run P w = .ok (.value (.slice (some ⟨g, off + l * sz, none⟩) m (c - l))) w := by
 subst hm
 obtain ⟨i, hi, hs⟩ := Option.map_eq_some_iff.1 hsz
 have key : (Instr.sliceAt t (.slice (some ⟨g, off, none⟩) n c) (some (.int .i64 (l : Int))) (some (.int .i64 (h : Int))) none).run P w = .ok (.slice (some ⟨g, off + l * sz, none⟩) (h - l) (c - l)) w := by
  simp [Instr.sliceAt, Instr.slice, run_underlying ht, Instr.sliceBounds, Go.sizeOf, typeInfo, hi, hs, run_sliceBound w .i64 (h : Int) c _ (by omega) (by omega), run_sliceBound w .i64 (l : Int) h _ (by omega) (by omega), Addr.add_mid]
  omega
 unfold execOp
 simp only [ho, hx, hy, hz, Option.map_some, Option.map_none, Sem.run_bind, key, Result.andThen_ok, Sem.run_pure]
end
end Mur
namespace Go.Proofs.YtgbadghjnpbiaaaGreatDoor
open Mur (attC z32)
theorem attI : (Tryz.prog.info? 35).map (fun i => (i.zero, i.size, i.bytes)) = some (some (.agg (attC z32 z32 0 z32).toArray), 97, 104) := by kernel_rfl
end Go.Proofs.YtgbadghjnpbiaaaGreatDoor
namespace Go.Proofs.YtgbadghjnpbiaaaGreatDoor
open Go.RowKit Wk
open Mur (b8s Byt Own8 Seg Segs flat cutA attC Att SlA OwnA rowA msgC byt_cell ownA_nil quo_nat quo8_16 rem8_16 byt_chg u8_cast_inj attC_size run_str)
set_option maxRecDepth 100000
set_option maxHeartbeats 4000000
def Risp_F1 (b : Array Value) (u0 u3 : Value) : Act := sg 18 [(0, u0), (3, u3)] b
def Rbel_F1 (b : Array Value) (u0 u1 u5 u6 : Value) : Act := sg 59 [(0, u0), (1, u1), (5, u5), (6, u6)] b
def Rbel_F2 (b : Array Value) (u0 u1 u5 u6 u7 u8 : Value) : Act := sg 59 [(0, u0), (1, u1), (5, u5), (6, u6), (7, u7), (8, u8)] b
theorem Risp_any (l : List UInt8) (A : Option Addr) (n c : Nat) (w : World) (hb : Byt w A n l) (hn : n ≤ 9223372036854775807) : Calls Tryz.prog 59 #[.slice A n c] w fun e w' => e = .returned (.bool (Mur.isPre l)) ∧ w = w' := by
 refine calls_of_wp Tryz.func59 rfl ?_
 refine sR<|rP 0 2 vF<|eN<|wp_seq<|sR<|rP 0 3 (vI 0)<|eN<|wp_block<|?_
 refine Wk.loop (fun m_ a wr => ∃ (i : Nat), m_ = n - i ∧ a = Risp_F1 a.tmps (.slice A n c) (vI i) ∧ i ≤ n ∧ (∀ j, j < i → (l.getD j 0) ≤ 15) ∧ wr = w) (n - 0) ?_ ?_
 ·refine ⟨0, rfl, by kernel_rfl, Nat.zero_le _, (fun j h => by omega), rfl⟩
 rintro mm1 aa1 W1 ⟨i, hmm1, hF1, hi, hall, hw⟩
 generalize aa1.tmps = bb1 at hF1
 subst hF1
 subst hw
 by_cases hlt : i < n
 ·obtain ⟨q, off, rfl, hcc⟩ := hb.2 (by omega)
  refine wp_seq<|sR<|rP 0 4 (vI i)<|rP 1 5 (.slice (some ⟨q, off, none⟩) n c)<|rP 2 6 (vI n)<|bT 3 7 ((i : Int) < (n : Int))<|eN<|cT<|wp_skip<|nxt<|wp_seq<|wp_block<|sR<|rP 0 10 (.slice (some ⟨q, off, none⟩) n c)<|rP 1 11 (vI i)<|rq 2 12 (pt q (off + i * 1)) rfl (iS 1 q off n c i)<|rq 3 13 _ rfl (ld 5 12 q (off + i * 1) (vB ((l.getD i 0).toNat : Nat)) (byt_cell hb i (by omega))) ?_
  by_cases hx1 : (((l.getD i 0).toNat : Nat) : Int) > (15 : Int)
  ·exact bT 4 14 ((((l.getD i 0).toNat : Nat) : Int) > (15 : Int))<|eN<|cT<|sR<|rP 0 2 vF<|eN<|tI<|thR<|inR<|thR<|rt vF ⟨by rw [show Mur.isPre l = false from by unfold Mur.isPre; rw [Mur.some15 hb.1 hlt (UInt8.lt_iff_toNat_lt.2 (show 15 < (l.getD i 0).toNat by omega))]; rfl], rfl⟩
  refine bF 4 14 ((((l.getD i 0).toNat : Nat) : Int) > (15 : Int))<|eN<|cF<|wp_skip<|inN<|nxt<|reg<|rP 0 8 (vI i)<|rI 1 9 ((i : Int) + 1) (((i + 1 : Nat) : Int))<|rP 2 3 (vI (i + 1 : Nat))<|eN<|?_
  refine ⟨_, ?_, i + 1, rfl, by kernel_rfl, (by omega), (fun j hj => by rcases Nat.lt_or_ge j i with h1 | h1 <;> first | exact hall j h1 | (obtain rfl : j = i := (by omega); exact UInt8.not_lt.1 (fun q_ => hx1 (by rw [UInt8.lt_iff_toNat_lt] at q_; have h15 : (15 : UInt8).toNat = 15 := rfl; omega)))), rfl⟩
  omega
 refine wp_seq<|sR<|rP 0 4 (vI i)<|rP 1 5 (.slice A n c)<|rP 2 6 (vI n)<|bF 3 7 ((i : Int) < (n : Int))<|eN<|cF<|xX<|nxt<|sR<|rP 0 15 (.slice A n c)<|rP 1 16 (vI n) ?_
 by_cases hx2 : (n : Int) ≤ (8 : Int)
 ·exact bT 2 17 ((n : Int) ≤ (8 : Int))<|rP 3 2 vT<|eN<|wp_ret<|rt vT ⟨by rw [show Mur.isPre l = true from by unfold Mur.isPre; rw [Mur.all15 hb.1 (fun j hj => hall j (by omega))]; have := hb.1; simp; omega], rfl⟩
 exact bF 2 17 ((n : Int) ≤ (8 : Int))<|rP 3 2 vF<|eN<|wp_ret<|rt vF ⟨by rw [show Mur.isPre l = false from by unfold Mur.isPre; rw [Mur.all15 hb.1 (fun j hj => hall j (by omega))]; have := hb.1; simp; omega], rfl⟩
theorem Rbelow_any (A : Option Addr) (n c : Nat) (L : List Att) (p : List UInt8) (PA : Option Addr) (pn pc : Nat) (w : World) (hA_ : SlA w A n L) (hb : Byt w PA pn p) (hn : n ≤ 200) (hpn : pn ≤ 9223372036854775807) : Calls Tryz.prog 60 #[.slice A n c, .slice PA pn pc] w fun e w' => ∃ A1 n1 c1, e = .returned (.slice A1 n1 c1) ∧ OwnA w' w.heap.size 35 A1 n1 c1 (Mur.belowL p L) ∧ Chg [] w w' := by
 have hLl0 := hA_.len
 refine calls_of_wp Tryz.func60 rfl ?_
 refine sR<|rP 0 4 (.slice none 0 0)<|eN<|sR<|rP 0 5 (.slice none 0 0)<|eN<|wp_seq<|sR<|rP 0 11 (.slice PA pn pc)<|rK 1 12 (Risp_any p PA pn pc w hb (by omega)) ?_
 cases hpre1 : Mur.isPre p
 ·rintro _ _ ⟨rfl, rfl⟩
  exact rP 2 13 vT<|eN<|cT<|sR<|rP 0 4 (.slice none 0 0)<|eN<|tR<|rt (.slice none 0 0) ⟨_, _, _, rfl, by rw [Mur.belowL_no hpre1]; exact ownA_nil _ _ _, (Chg.refl _)⟩
 rintro _ _ ⟨rfl, rfl⟩
 refine rP 2 13 vF<|eN<|cF<|wp_skip<|nxt<|wp_seq<|sR<|?_
 have hpre1 := hpre1
 refine rP 0 6 (vI 0)<|eN<|wp_block<|?_
 refine Wk.loop (fun m_ a wr => ∃ (i : Nat) (A1 : Option Addr) (N : Nat) (c1 : Nat), m_ = n - i ∧ a = Rbel_F1 a.tmps (.slice A n c) (.slice PA pn pc) (.slice A1 N c1) (vI i) ∧ i ≤ n ∧ OwnA wr w.heap.size 35 A1 N c1 ((L.take i).filter (fun y_ => Mur.under p y_.k)) ∧ Chg [] w wr) (n - 0) ?_ ?_
 ·refine ⟨0, none, 0, 0, rfl, by kernel_rfl, (by omega), (by exact ownA_nil _ _ _), (Chg.refl _)⟩
 rintro mm1 aa1 W1 ⟨i, A1, N, c1, hmm1, hF1, hi, hO, HB⟩
 generalize aa1.tmps = bb1 at hF1
 subst hF1
 have hzB := HB.size
 have hLl := hA_.len
 have hOl := hO.sl.len
 have hOn := hO.nc
 have hfl_ := List.length_filter_le (fun y_ : Att => Mur.under p y_.k) (L.take i)
 rw [List.length_take] at hfl_
 by_cases hlt : i < n
 ·obtain ⟨g_x, o_x, rfl, _⟩ := hA_.ex (by omega)
  obtain ⟨x, hx⟩ : ∃ x, L[i]? = some x := ⟨_, List.getElem?_eq_getElem (by have := hA_.len; omega)⟩
  refine wp_seq<|sR<|rP 0 14 (vI i)<|rP 1 15 (.slice (some ⟨g_x, o_x, none⟩) n c)<|rP 2 16 (vI n)<|bT 3 17 ((i : Int) < (n : Int))<|eN<|cT<|wp_skip<|nxt<|wp_seq<|wp_block<|sR<|rP 0 7 vT<|eN<|wp_seq<|sR<|rP 0 8 (vI 0)<|eN<|wp_block<|?_
  refine Wk.loop (fun m_ a wr => ∃ (j : Nat) (b : Bool), m_ = pn - j ∧ a = Rbel_F2 a.tmps (.slice (some ⟨g_x, o_x, none⟩) n c) (.slice PA pn pc) (.slice A1 N c1) (vI i) (.bool b) (vI j) ∧ j ≤ pn ∧ (b = true ↔ ∀ i_, i_ < j → i_ < pn → Mur.nib x.k i_ = p.getD i_ 0) ∧ wr = W1) (pn - 0) ?_ ?_
  ·refine ⟨0, true, rfl, by kernel_rfl, (by omega), (by simp), rfl⟩
  rintro mm2 aa2 W2 ⟨j, b, hmm2, hF2, hj, hbb, hwJ⟩
  generalize aa2.tmps = bb2 at hF2
  subst hF2
  subst hwJ
  have hpl_ := hb.1
  have hp8 := Mur.pre_len hpre1
  by_cases hlj : j < pn
  ·obtain ⟨q2, off2, hA2, _⟩ := hb.2 (by omega)
   subst hA2
   cases b
   ·refine wp_seq<|sR<|rP 0 20 (vI j)<|rP 1 21 (.slice (some ⟨q2, off2, none⟩) pn pc)<|rP 2 22 (vI pn)<|bT 3 23 ((j : Int) < (pn : Int))<|eN<|cT<|wp_skip<|nxt<|wp_seq<|wp_block<|sR<|rP 0 26 (.slice (some ⟨g_x, o_x, none⟩) n c)<|rP 1 27 (vI i)<|rP 2 28 (vI j)<|rq 3 29 (vI (j / 2 : Nat)) rfl (quo_nat 3 3 (.tmp 28) (.const (vI 2)) rfl j 2 (by kernel_rfl) (by kernel_rfl) (by omega) (by omega))<|rq 4 30 (pt g_x (o_x + i * 97)) rfl (iS 97 g_x o_x n c i)<|rP 5 31 (pt g_x (o_x + i * 97))<|rq 6 32 (.pointer (some ⟨g_x, o_x + i * 97 + (j / 2) * 1, none⟩)) rfl (Wk.index_arr 28 5 (.tmp 31) (.tmp 29) rfl 32 Tryz.underlying28 1 (by kernel_rfl) g_x (o_x + i * 97) (j / 2) .i64 (by kernel_rfl) (by kernel_rfl) (by omega))<|rq 7 33 _ rfl (load1 5 (.tmp 32) rfl (by kernel_rfl) ⟨g_x, o_x + i * 97 + (j / 2) * 1, none⟩ (by kernel_rfl) (vB ((x.k.getD (j / 2) 0).toNat : Nat)) (Mur.SlA.kcell (Mur.SlA.chg hA_ HB (fun g off e hl => trivial)) hx (j := j / 2) (by omega)))<|rP 8 9 (vB ((x.k.getD (j / 2) 0).toNat : Nat))<|eN<|sR<|rP 0 34 (vB ((x.k.getD (j / 2) 0).toNat : Nat))<|rq 1 35 (vB ((x.k.getD (j / 2) 0 >>> 4).toNat : Nat)) rfl (quo8_16 5 5 (.tmp 34) (.const (vB 16)) rfl (x.k.getD (j / 2) 0) (by kernel_rfl) (by kernel_rfl))<|rP 2 10 (vB ((x.k.getD (j / 2) 0 >>> 4).toNat : Nat))<|eN<|wp_seq<|sR<|rP 0 36 (vI j)<|rq 1 37 (vI (j % 2 : Nat)) rfl (Wk.rem_nat 3 3 (.tmp 36) (.const (vI 2)) rfl j 2 (by kernel_rfl) (by kernel_rfl) (by omega)) ?_
    by_cases hx1 : ((j % 2 : Nat) : Int) = (1 : Int)
    ·refine eT 2 38 ((j % 2 : Nat) : Int) (1 : Int)<|eN<|cT<|reg<|rP 0 39 (vB ((x.k.getD (j / 2) 0).toNat : Nat))<|rq 1 40 (vB ((x.k.getD (j / 2) 0 &&& 15).toNat : Nat)) rfl (rem8_16 5 5 (.tmp 39) (.const (vB 16)) rfl (x.k.getD (j / 2) 0) (by kernel_rfl) (by kernel_rfl))<|rP 2 10 (vB ((x.k.getD (j / 2) 0 &&& 15).toNat : Nat))<|eN<|reg<|rP 0 41 vF<|rP 1 42 vF<|rZ 2 43<|rZ 3 44<|rZ 4 45<|rZ 5 46<|rZ 6 47<|rZ 7 48<|rP 8 49 vF<|rP 9 7 vF<|rE<|inN<|nxt<|reg<|rP 0 24 (vI j)<|rI 1 25 ((j : Int) + 1) (((j + 1 : Nat) : Int))<|rP 2 8 (vI (j + 1 : Nat))<|eN<|?_
     refine ⟨_, ?_, j + 1, false, rfl, by kernel_rfl, (by omega), ⟨fun e_ => (by cases e_), fun q_ => hbb.2 (fun i_ h1_ h2_ => q_ i_ (by omega) h2_)⟩, rfl⟩
     omega
    refine eF 2 38 ((j % 2 : Nat) : Int) (1 : Int)<|eN<|cF<|wp_skip<|nxt<|reg<|rP 0 41 vF<|rP 1 42 vF<|rZ 2 43<|rZ 3 44<|rZ 4 45<|rZ 5 46<|rZ 6 47<|rZ 7 48<|rP 8 49 vF<|rP 9 7 vF<|rE<|inN<|nxt<|reg<|rP 0 24 (vI j)<|rI 1 25 ((j : Int) + 1) (((j + 1 : Nat) : Int))<|rP 2 8 (vI (j + 1 : Nat))<|eN<|?_
    refine ⟨_, ?_, j + 1, false, rfl, by kernel_rfl, (by omega), ⟨fun e_ => (by cases e_), fun q_ => hbb.2 (fun i_ h1_ h2_ => q_ i_ (by omega) h2_)⟩, rfl⟩
    omega
   refine wp_seq<|sR<|rP 0 20 (vI j)<|rP 1 21 (.slice (some ⟨q2, off2, none⟩) pn pc)<|rP 2 22 (vI pn)<|bT 3 23 ((j : Int) < (pn : Int))<|eN<|cT<|wp_skip<|nxt<|wp_seq<|wp_block<|sR<|rP 0 26 (.slice (some ⟨g_x, o_x, none⟩) n c)<|rP 1 27 (vI i)<|rP 2 28 (vI j)<|rq 3 29 (vI (j / 2 : Nat)) rfl (quo_nat 3 3 (.tmp 28) (.const (vI 2)) rfl j 2 (by kernel_rfl) (by kernel_rfl) (by omega) (by omega))<|rq 4 30 (pt g_x (o_x + i * 97)) rfl (iS 97 g_x o_x n c i)<|rP 5 31 (pt g_x (o_x + i * 97))<|rq 6 32 (.pointer (some ⟨g_x, o_x + i * 97 + (j / 2) * 1, none⟩)) rfl (Wk.index_arr 28 5 (.tmp 31) (.tmp 29) rfl 32 Tryz.underlying28 1 (by kernel_rfl) g_x (o_x + i * 97) (j / 2) .i64 (by kernel_rfl) (by kernel_rfl) (by omega))<|rq 7 33 _ rfl (load1 5 (.tmp 32) rfl (by kernel_rfl) ⟨g_x, o_x + i * 97 + (j / 2) * 1, none⟩ (by kernel_rfl) (vB ((x.k.getD (j / 2) 0).toNat : Nat)) (Mur.SlA.kcell (Mur.SlA.chg hA_ HB (fun g off e hl => trivial)) hx (j := j / 2) (by omega)))<|rP 8 9 (vB ((x.k.getD (j / 2) 0).toNat : Nat))<|eN<|sR<|rP 0 34 (vB ((x.k.getD (j / 2) 0).toNat : Nat))<|rq 1 35 (vB ((x.k.getD (j / 2) 0 >>> 4).toNat : Nat)) rfl (quo8_16 5 5 (.tmp 34) (.const (vB 16)) rfl (x.k.getD (j / 2) 0) (by kernel_rfl) (by kernel_rfl))<|rP 2 10 (vB ((x.k.getD (j / 2) 0 >>> 4).toNat : Nat))<|eN<|wp_seq<|sR<|rP 0 36 (vI j)<|rq 1 37 (vI (j % 2 : Nat)) rfl (Wk.rem_nat 3 3 (.tmp 36) (.const (vI 2)) rfl j 2 (by kernel_rfl) (by kernel_rfl) (by omega)) ?_
   by_cases hx2 : ((j % 2 : Nat) : Int) = (1 : Int)
   ·refine eT 2 38 ((j % 2 : Nat) : Int) (1 : Int)<|eN<|cT<|reg<|rP 0 39 (vB ((x.k.getD (j / 2) 0).toNat : Nat))<|rq 1 40 (vB ((x.k.getD (j / 2) 0 &&& 15).toNat : Nat)) rfl (rem8_16 5 5 (.tmp 39) (.const (vB 16)) rfl (x.k.getD (j / 2) 0) (by kernel_rfl) (by kernel_rfl))<|rP 2 10 (vB ((x.k.getD (j / 2) 0 &&& 15).toNat : Nat))<|eN<|reg<|rP 0 41 vT<|rP 1 42 vT<|rP 2 43 (vB ((x.k.getD (j / 2) 0 &&& 15).toNat : Nat))<|rP 3 44 (.slice (some ⟨q2, off2, none⟩) pn pc)<|rP 4 45 (vI j)<|rq 5 46 (pt q2 (off2 + j * 1)) rfl (iS 1 q2 off2 pn pc j)<|rq 6 47 _ rfl (ld 5 46 q2 (off2 + j * 1) (vB ((p.getD j 0).toNat : Nat)) (byt_cell (byt_chg hb HB (fun g off e hl => trivial)) j (by omega))) ?_
    by_cases hx3 : (((x.k.getD (j / 2) 0 &&& 15).toNat : Nat) : Int) = (((p.getD j 0).toNat : Nat) : Int)
    ·refine eT 7 48 (((x.k.getD (j / 2) 0 &&& 15).toNat : Nat) : Int) (((p.getD j 0).toNat : Nat) : Int)<|rP 8 49 vT<|rP 9 7 vT<|rE<|inN<|nxt<|reg<|rP 0 24 (vI j)<|rI 1 25 ((j : Int) + 1) (((j + 1 : Nat) : Int))<|rP 2 8 (vI (j + 1 : Nat))<|eN<|?_
     refine ⟨_, ?_, j + 1, true, rfl, by kernel_rfl, (by omega), ⟨fun _ i_ h1_ h2_ => by rcases Nat.lt_or_ge i_ j with h3_ | h3_ <;> first | exact hbb.1 rfl i_ h3_ h2_ | (have e_ : i_ = j := (by omega); rw [e_, (show Mur.nib x.k j = x.k.getD (j / 2) 0 &&& 15 from by unfold Mur.nib; rw [if_neg (by omega)])]; exact u8_cast_inj hx3), fun _ => rfl⟩, rfl⟩
     omega
    refine eF 7 48 (((x.k.getD (j / 2) 0 &&& 15).toNat : Nat) : Int) (((p.getD j 0).toNat : Nat) : Int)<|rP 8 49 vF<|rP 9 7 vF<|rE<|inN<|nxt<|reg<|rP 0 24 (vI j)<|rI 1 25 ((j : Int) + 1) (((j + 1 : Nat) : Int))<|rP 2 8 (vI (j + 1 : Nat))<|eN<|?_
    refine ⟨_, ?_, j + 1, false, rfl, by kernel_rfl, (by omega), ⟨fun e_ => (by cases e_), fun q_ => absurd (by have h5_ := q_ j (by omega) (by omega); rw [(show Mur.nib x.k j = x.k.getD (j / 2) 0 &&& 15 from by unfold Mur.nib; rw [if_neg (by omega)])] at h5_; rw [h5_]) hx3⟩, rfl⟩
    omega
   refine eF 2 38 ((j % 2 : Nat) : Int) (1 : Int)<|eN<|cF<|wp_skip<|nxt<|reg<|rP 0 41 vT<|rP 1 42 vT<|rP 2 43 (vB ((x.k.getD (j / 2) 0 >>> 4).toNat : Nat))<|rP 3 44 (.slice (some ⟨q2, off2, none⟩) pn pc)<|rP 4 45 (vI j)<|rq 5 46 (pt q2 (off2 + j * 1)) rfl (iS 1 q2 off2 pn pc j)<|rq 6 47 _ rfl (ld 5 46 q2 (off2 + j * 1) (vB ((p.getD j 0).toNat : Nat)) (byt_cell (byt_chg hb HB (fun g off e hl => trivial)) j (by omega))) ?_
   by_cases hx4 : (((x.k.getD (j / 2) 0 >>> 4).toNat : Nat) : Int) = (((p.getD j 0).toNat : Nat) : Int)
   ·refine eT 7 48 (((x.k.getD (j / 2) 0 >>> 4).toNat : Nat) : Int) (((p.getD j 0).toNat : Nat) : Int)<|rP 8 49 vT<|rP 9 7 vT<|rE<|inN<|nxt<|reg<|rP 0 24 (vI j)<|rI 1 25 ((j : Int) + 1) (((j + 1 : Nat) : Int))<|rP 2 8 (vI (j + 1 : Nat))<|eN<|?_
    refine ⟨_, ?_, j + 1, true, rfl, by kernel_rfl, (by omega), ⟨fun _ i_ h1_ h2_ => by rcases Nat.lt_or_ge i_ j with h3_ | h3_ <;> first | exact hbb.1 rfl i_ h3_ h2_ | (have e_ : i_ = j := (by omega); rw [e_, (show Mur.nib x.k j = x.k.getD (j / 2) 0 >>> 4 from by unfold Mur.nib; rw [if_pos (by omega)])]; exact u8_cast_inj hx4), fun _ => rfl⟩, rfl⟩
    omega
   refine eF 7 48 (((x.k.getD (j / 2) 0 >>> 4).toNat : Nat) : Int) (((p.getD j 0).toNat : Nat) : Int)<|rP 8 49 vF<|rP 9 7 vF<|rE<|inN<|nxt<|reg<|rP 0 24 (vI j)<|rI 1 25 ((j : Int) + 1) (((j + 1 : Nat) : Int))<|rP 2 8 (vI (j + 1 : Nat))<|eN<|?_
   refine ⟨_, ?_, j + 1, false, rfl, by kernel_rfl, (by omega), ⟨fun e_ => (by cases e_), fun q_ => absurd (by have h5_ := q_ j (by omega) (by omega); rw [(show Mur.nib x.k j = x.k.getD (j / 2) 0 >>> 4 from by unfold Mur.nib; rw [if_pos (by omega)])] at h5_; rw [h5_]) hx4⟩, rfl⟩
   omega
  have hun := Mur.under_run (p := p) (k := x.k) hpl_ (show pn ≤ j by omega) hbb
  cases b
  ·refine wp_seq<|sR<|rP 0 20 (vI j)<|rP 1 21 (.slice PA pn pc)<|rP 2 22 (vI pn)<|bF 3 23 ((j : Int) < (pn : Int))<|eN<|cF<|xX<|nxt<|sR<|rP 0 50 vF<|eN<|cF<|wp_skip<|inN<|nxt<|reg<|rP 0 18 (vI i)<|rI 1 19 ((i : Int) + 1) (((i + 1 : Nat) : Int))<|rP 2 6 (vI (i + 1 : Nat))<|eN<|?_
   refine ⟨_, ?_, i + 1, A1, N, c1, rfl, by kernel_rfl, (by omega), (by rw [Mur.filter_no hx hun]; exact hO), HB⟩
   omega
  refine wp_seq<|sR<|rP 0 20 (vI j)<|rP 1 21 (.slice PA pn pc)<|rP 2 22 (vI pn)<|bF 3 23 ((j : Int) < (pn : Int))<|eN<|cF<|xX<|nxt<|sR<|rP 0 50 vT<|eN<|cT<|reg<|rP 0 51 (.slice A1 N c1)<|rP 1 52 (.slice (some ⟨g_x, o_x, none⟩) n c)<|rP 2 53 (vI i)<|rq 3 54 (pt g_x (o_x + i * 97)) rfl (iS 97 g_x o_x n c i)<|rq 4 55 _ rfl (lR (o_x + i * 97) (Mur.attC x.k x.r x.n x.t) ((Mur.SlA.chg hA_ HB (fun g off e hl => trivial)).elem hx) (by rw [Mur.attC_length x.hk x.hr x.ht]; kernel_rfl))<|rX 5 56 rfl rfl (Mur.build1 29 35 (.tmp 55) rfl Tryz.underlying29 attI x.k x.r x.t x.n x.hk x.hr x.ht (by kernel_rfl)) ?_
  rintro _ W3 ⟨rfl, hb1, ch1, sz1⟩
  have zz1 := ch1.size
  refine rX 6 57 rfl rfl (Mur.appendA (.tmp 51) (.tmp 56) 29 35 rfl Tryz.underlying29 attI w.heap.size A1 N c1 ((L.take i).filter (fun y_ => Mur.under p y_.k)) (some ⟨W2.heap.size, 0, none⟩) 1 1 ([x]) (by kernel_rfl) (by kernel_rfl) (Mur.OwnA.chg hO ch1 (fun q e _ _ => trivial)) (Mur.slA_box x hb1) (fun h => by cases h) (by omega) (by omega) (N + 1) (by omega) (((L.take i).filter (fun y_ => Mur.under p y_.k)) ++ ([x])) rfl) ?_
  rintro _ W4 ⟨AA1, nn1, rfl, ow2, ch2, ha1⟩
  have zz2 := ch2.size
  have hq1 := ow2.nc
  have hq2 := ow2.cm
  refine rP 7 5 (.slice AA1 (N + 1) nn1)<|rE<|inN<|nxt<|reg<|rP 0 18 (vI i)<|rI 1 19 ((i : Int) + 1) (((i + 1 : Nat) : Int))<|rP 2 6 (vI (i + 1 : Nat))<|eN<|?_
  refine ⟨_, ?_, i + 1, AA1, N + 1, nn1, rfl, by kernel_rfl, (by omega), (by rw [Mur.filter_yes hx hun]; exact ow2), (Chg.step (kA HB ch1) ch2 (newOr_blk (fun g hg => by have := hO.lt g hg; omega)))⟩
  omega
 rw [List.take_of_length_le (show L.length ≤ i by omega), ← Mur.belowL_ok hpre1] at hO
 exact wp_seq<|sR<|rP 0 14 (vI i)<|rP 1 15 (.slice A n c)<|rP 2 16 (vI n)<|bF 3 17 ((i : Int) < (n : Int))<|eN<|cF<|xX<|nxt<|sR<|rP 0 58 (.slice A1 N c1)<|rP 1 4 (.slice A1 N c1)<|eN<|wp_ret<|rt (.slice A1 N c1) ⟨_, _, _, rfl, hO, HB⟩
theorem Less20_any (x y : Att) (w : World) : Calls Tryz.prog 61 #[.agg (attC x.k x.r x.n x.t).toArray, .agg (attC y.k y.r y.n y.t).toArray] w fun e w' => e = .returned (.bool (decide (x.lt y))) ∧ Chg [] w w' := by
 refine calls_of_wp Tryz.func61 rfl ?_
 refine sR<|?_
 by_cases hls : x.lt y
 ·refine nW 0 2 ((Mur.attC x.k x.r x.n x.t).toArray) 35 fun W1 hb1 ch1 sz1 => nW 1 3 ((Mur.attC y.k y.r y.n y.t).toArray) 35 fun W2 hb2 ch2 sz2 => rP 2 4 vF<|eN<|wp_seq<|?_
  refine dReg ([]) (by kernel_rfl) ?_
  intro W3 ch3 sz3
  have zz3 := ch3.size
  have sS1 : Chg ([]) W3 W3 := (Chg.refl _).more (by simp)
  refine dV 0 5 _ rfl rfl (fun w' hw' => lA (qT hw' (qT ch3 (qT ch2 hb1))) (attC_size x.hk x.hr x.ht)) sS1<|dV 3 8 _ rfl rfl (fun w' hw' => lA (qT hw' (qT ch3 hb2)) (attC_size y.hk y.hr y.ht)) sS1<|dO 1<|oK 6 (Rbytes_any x.k x.r x.t x.n x.hk x.hr x.ht W3) ?_
  rintro _ W4 ⟨qr1, cr1, RB1, hRB1, rfl, hbr1, hq1, hq2, ch4⟩
  have zz4 := ch4.size
  have hBt1 : ∀ g off, (some ⟨qr1, 0, none⟩ : Option Addr) = some ⟨g, off, none⟩ → W3.heap.size ≤ g ∧ g < W4.heap.size := fun g off e => by cases e; exact hq1
  have sS2 := kA sS1 ch4
  refine aN sS2 ?_
  refine dOp2 2 4 (by kernel_rfl) ?_ ?_
  ·refine Wk.oVal (some 7) (.string (Mur.str RB1)) rfl rfl (by kernel_rfl) (run_str 22 9 (.tmp 6) 5 rfl Tryz.underlying22 Tryz.underlying5 Tryz.underlying9 (some ⟨qr1, 0, none⟩) 104 cr1 RB1 (by kernel_rfl) hbr1) ?_
   refine aN sS2<|dO 4<|oK 9 (Rbytes_any y.k y.r y.t y.n y.hk y.hr y.ht W4) ?_
   rintro _ W5 ⟨qr2, cr2, RB2, hRB2, rfl, hbr2, hq3, hq4, ch5⟩
   have zz5 := ch5.size
   have hBt2 : ∀ g off, (some ⟨qr2, 0, none⟩ : Option Addr) = some ⟨g, off, none⟩ → W4.heap.size ≤ g ∧ g < W5.heap.size := fun g off e => by cases e; exact hq3
   have sS3 := kA sS2 ch5
   refine aN sS3<|dO 5 ?_
   refine Wk.oVal (some 10) (.string (Mur.str RB2)) rfl rfl (by kernel_rfl) (run_str 22 9 (.tmp 9) 5 rfl Tryz.underlying22 Tryz.underlying5 Tryz.underlying9 (some ⟨qr2, 0, none⟩) 104 cr2 RB2 (by kernel_rfl) hbr2) ?_
   exact aN sS3<|dV 6 11 vT rfl rfl (fun w' hw' => boolT (b := decide (Go.Lib.compareBytes RB1 RB2 < 0)) (decide_eq_true (by rw [hRB1.out, hRB2.out]; exact hls)) (Mur.strlss 9 9 (.tmp 7) (.tmp 10) rfl RB1 RB2 (by kernel_rfl) (by kernel_rfl))) sS3<|dW 7 4 vT sS3<|dN<|wp_ret<|rt vT ⟨by rw [decide_eq_true hls], (kA (kA (kA (kA (zA ch1 : Chg [] w W1) ch2) ch3) ch4) ch5)⟩
  refine oK 9 (Rbytes_any y.k y.r y.t y.n y.hk y.hr y.ht W4) ?_
  rintro _ W6 ⟨qr3, cr3, RB3, hRB3, rfl, hbr3, hq5, hq6, ch6⟩
  have zz6 := ch6.size
  have hBt3 : ∀ g off, (some ⟨qr3, 0, none⟩ : Option Addr) = some ⟨g, off, none⟩ → W4.heap.size ≤ g ∧ g < W6.heap.size := fun g off e => by cases e; exact hq5
  have sS4 := kA sS2 ch6
  refine aN sS4 ?_
  refine dOp2 2 5 (by kernel_rfl) ?_ ?_
  ·refine Wk.oVal (some 7) (.string (Mur.str RB1)) rfl rfl (by kernel_rfl) (run_str 22 9 (.tmp 6) 5 rfl Tryz.underlying22 Tryz.underlying5 Tryz.underlying9 (some ⟨qr1, 0, none⟩) 104 cr1 RB1 (by kernel_rfl) (byt_chg hbr1 ch6 (fun g off e hl => trivial))) ?_
   refine aN sS4<|dO 5 ?_
   refine Wk.oVal (some 10) (.string (Mur.str RB3)) rfl rfl (by kernel_rfl) (run_str 22 9 (.tmp 9) 5 rfl Tryz.underlying22 Tryz.underlying5 Tryz.underlying9 (some ⟨qr3, 0, none⟩) 104 cr3 RB3 (by kernel_rfl) hbr3) ?_
   exact aN sS4<|dV 6 11 vT rfl rfl (fun w' hw' => boolT (b := decide (Go.Lib.compareBytes RB1 RB3 < 0)) (decide_eq_true (by rw [hRB1.out, hRB3.out]; exact hls)) (Mur.strlss 9 9 (.tmp 7) (.tmp 10) rfl RB1 RB3 (by kernel_rfl) (by kernel_rfl))) sS4<|dW 7 4 vT sS4<|dN<|wp_ret<|rt vT ⟨by rw [decide_eq_true hls], (kA (kA (kA (kA (zA ch1 : Chg [] w W1) ch2) ch3) ch4) ch6)⟩
  refine Wk.oVal (some 10) (.string (Mur.str RB3)) rfl rfl (by kernel_rfl) (run_str 22 9 (.tmp 9) 5 rfl Tryz.underlying22 Tryz.underlying5 Tryz.underlying9 (some ⟨qr3, 0, none⟩) 104 cr3 RB3 (by kernel_rfl) hbr3) ?_
  refine aN sS4<|dO 2 ?_
  refine Wk.oVal (some 7) (.string (Mur.str RB1)) rfl rfl (by kernel_rfl) (run_str 22 9 (.tmp 6) 5 rfl Tryz.underlying22 Tryz.underlying5 Tryz.underlying9 (some ⟨qr1, 0, none⟩) 104 cr1 RB1 (by kernel_rfl) (byt_chg hbr1 ch6 (fun g off e hl => trivial))) ?_
  exact aN sS4<|dV 6 11 vT rfl rfl (fun w' hw' => boolT (b := decide (Go.Lib.compareBytes RB1 RB3 < 0)) (decide_eq_true (by rw [hRB1.out, hRB3.out]; exact hls)) (Mur.strlss 9 9 (.tmp 7) (.tmp 10) rfl RB1 RB3 (by kernel_rfl) (by kernel_rfl))) sS4<|dW 7 4 vT sS4<|dN<|wp_ret<|rt vT ⟨by rw [decide_eq_true hls], (kA (kA (kA (kA (zA ch1 : Chg [] w W1) ch2) ch3) ch4) ch6)⟩
 refine nW 0 2 ((Mur.attC x.k x.r x.n x.t).toArray) 35 fun W7 hb3 ch7 sz4 => nW 1 3 ((Mur.attC y.k y.r y.n y.t).toArray) 35 fun W8 hb4 ch8 sz5 => rP 2 4 vF<|eN<|wp_seq<|?_
 refine dReg ([]) (by kernel_rfl) ?_
 intro W10 ch9 sz6
 have zz9 := ch9.size
 have sS5 : Chg ([]) W10 W10 := (Chg.refl _).more (by simp)
 refine dV 0 5 _ rfl rfl (fun w' hw' => lA (qT hw' (qT ch9 (qT ch8 hb3))) (attC_size x.hk x.hr x.ht)) sS5<|dV 3 8 _ rfl rfl (fun w' hw' => lA (qT hw' (qT ch9 hb4)) (attC_size y.hk y.hr y.ht)) sS5<|dO 1<|oK 6 (Rbytes_any x.k x.r x.t x.n x.hk x.hr x.ht W10) ?_
 rintro _ W11 ⟨qr4, cr4, RB4, hRB4, rfl, hbr4, hq7, hq8, ch10⟩
 have zz10 := ch10.size
 have hBt4 : ∀ g off, (some ⟨qr4, 0, none⟩ : Option Addr) = some ⟨g, off, none⟩ → W10.heap.size ≤ g ∧ g < W11.heap.size := fun g off e => by cases e; exact hq7
 have sS6 := kA sS5 ch10
 refine aN sS6 ?_
 refine dOp2 2 4 (by kernel_rfl) ?_ ?_
 ·refine Wk.oVal (some 7) (.string (Mur.str RB4)) rfl rfl (by kernel_rfl) (run_str 22 9 (.tmp 6) 5 rfl Tryz.underlying22 Tryz.underlying5 Tryz.underlying9 (some ⟨qr4, 0, none⟩) 104 cr4 RB4 (by kernel_rfl) hbr4) ?_
  refine aN sS6<|dO 4<|oK 9 (Rbytes_any y.k y.r y.t y.n y.hk y.hr y.ht W11) ?_
  rintro _ W12 ⟨qr5, cr5, RB5, hRB5, rfl, hbr5, hq9, hq10, ch11⟩
  have zz11 := ch11.size
  have hBt5 : ∀ g off, (some ⟨qr5, 0, none⟩ : Option Addr) = some ⟨g, off, none⟩ → W11.heap.size ≤ g ∧ g < W12.heap.size := fun g off e => by cases e; exact hq9
  have sS7 := kA sS6 ch11
  refine aN sS7<|dO 5 ?_
  refine Wk.oVal (some 10) (.string (Mur.str RB5)) rfl rfl (by kernel_rfl) (run_str 22 9 (.tmp 9) 5 rfl Tryz.underlying22 Tryz.underlying5 Tryz.underlying9 (some ⟨qr5, 0, none⟩) 104 cr5 RB5 (by kernel_rfl) hbr5) ?_
  exact aN sS7<|dV 6 11 vF rfl rfl (fun w' hw' => boolF (b := decide (Go.Lib.compareBytes RB4 RB5 < 0)) (decide_eq_false (by rw [hRB4.out, hRB5.out]; exact hls)) (Mur.strlss 9 9 (.tmp 7) (.tmp 10) rfl RB4 RB5 (by kernel_rfl) (by kernel_rfl))) sS7<|dW 7 4 vF sS7<|dN<|wp_ret<|rt vF ⟨by rw [decide_eq_false hls], (kA (kA (kA (kA (zA ch7 : Chg [] w W7) ch8) ch9) ch10) ch11)⟩
 refine oK 9 (Rbytes_any y.k y.r y.t y.n y.hk y.hr y.ht W11) ?_
 rintro _ W13 ⟨qr6, cr6, RB6, hRB6, rfl, hbr6, hq11, hq12, ch12⟩
 have zz12 := ch12.size
 have hBt6 : ∀ g off, (some ⟨qr6, 0, none⟩ : Option Addr) = some ⟨g, off, none⟩ → W11.heap.size ≤ g ∧ g < W13.heap.size := fun g off e => by cases e; exact hq11
 have sS8 := kA sS6 ch12
 refine aN sS8 ?_
 refine dOp2 2 5 (by kernel_rfl) ?_ ?_
 ·refine Wk.oVal (some 7) (.string (Mur.str RB4)) rfl rfl (by kernel_rfl) (run_str 22 9 (.tmp 6) 5 rfl Tryz.underlying22 Tryz.underlying5 Tryz.underlying9 (some ⟨qr4, 0, none⟩) 104 cr4 RB4 (by kernel_rfl) (byt_chg hbr4 ch12 (fun g off e hl => trivial))) ?_
  refine aN sS8<|dO 5 ?_
  refine Wk.oVal (some 10) (.string (Mur.str RB6)) rfl rfl (by kernel_rfl) (run_str 22 9 (.tmp 9) 5 rfl Tryz.underlying22 Tryz.underlying5 Tryz.underlying9 (some ⟨qr6, 0, none⟩) 104 cr6 RB6 (by kernel_rfl) hbr6) ?_
  exact aN sS8<|dV 6 11 vF rfl rfl (fun w' hw' => boolF (b := decide (Go.Lib.compareBytes RB4 RB6 < 0)) (decide_eq_false (by rw [hRB4.out, hRB6.out]; exact hls)) (Mur.strlss 9 9 (.tmp 7) (.tmp 10) rfl RB4 RB6 (by kernel_rfl) (by kernel_rfl))) sS8<|dW 7 4 vF sS8<|dN<|wp_ret<|rt vF ⟨by rw [decide_eq_false hls], (kA (kA (kA (kA (zA ch7 : Chg [] w W7) ch8) ch9) ch10) ch12)⟩
 refine Wk.oVal (some 10) (.string (Mur.str RB6)) rfl rfl (by kernel_rfl) (run_str 22 9 (.tmp 9) 5 rfl Tryz.underlying22 Tryz.underlying5 Tryz.underlying9 (some ⟨qr6, 0, none⟩) 104 cr6 RB6 (by kernel_rfl) hbr6) ?_
 refine aN sS8<|dO 2 ?_
 refine Wk.oVal (some 7) (.string (Mur.str RB4)) rfl rfl (by kernel_rfl) (run_str 22 9 (.tmp 6) 5 rfl Tryz.underlying22 Tryz.underlying5 Tryz.underlying9 (some ⟨qr4, 0, none⟩) 104 cr4 RB4 (by kernel_rfl) (byt_chg hbr4 ch12 (fun g off e hl => trivial))) ?_
 exact aN sS8<|dV 6 11 vF rfl rfl (fun w' hw' => boolF (b := decide (Go.Lib.compareBytes RB4 RB6 < 0)) (decide_eq_false (by rw [hRB4.out, hRB6.out]; exact hls)) (Mur.strlss 9 9 (.tmp 7) (.tmp 10) rfl RB4 RB6 (by kernel_rfl) (by kernel_rfl))) sS8<|dW 7 4 vF sS8<|dN<|wp_ret<|rt vF ⟨by rw [decide_eq_false hls], (kA (kA (kA (kA (zA ch7 : Chg [] w W7) ch8) ch9) ch10) ch12)⟩
end Go.Proofs.YtgbadghjnpbiaaaGreatDoor
namespace Go.Proofs.YtgbadghjnpbiaaaGreatDoor
open Go.RowKit Wk
open Mur (b8s Byt Own8 Seg Segs flat cutA attC Att SlA OwnA rowA msgC z32 msg_ans)
set_option maxRecDepth 100000
set_option maxHeartbeats 4000000
theorem RNode_any (n : Int) (w : World) : Calls Tryz.prog 24 #[vI n] w fun e w' => e = .returned (.bool (decide (0 ≤ n ∧ n < 16))) ∧ Chg [] w w' := by
 refine calls_of_wp Tryz.func24 rfl ?_
 refine sR<|rP 0 2 vF<|eN<|sR<|rP 0 3 (vI n) ?_
 by_cases hx1 : n ≥ (0 : Int)
 ·refine bT 1 4 (n ≥ (0 : Int))<|rP 2 5 vT<|rP 3 6 (vI n) ?_
  by_cases hx2 : n ≤ (15 : Int)
  ·exact bT 4 7 (n ≤ (15 : Int))<|rP 5 8 vT<|rP 6 2 vT<|eN<|wp_ret<|rt vT ⟨by rw [decide_eq_true (by omega)], (Chg.refl _)⟩
  exact bF 4 7 (n ≤ (15 : Int))<|rP 5 8 vF<|rP 6 2 vF<|eN<|wp_ret<|rt vF ⟨by rw [decide_eq_false (by omega)], (Chg.refl _)⟩
 exact bF 1 4 (n ≥ (0 : Int))<|rP 2 5 vF<|rZ 3 6<|rZ 4 7<|rP 5 8 vF<|rP 6 2 vF<|eN<|wp_ret<|rt vF ⟨by rw [decide_eq_false (by omega)], (Chg.refl _)⟩
theorem RNoP_any (f : Mur.Frm) (z : Mur.Zs) (w : World) (hL : Mur.LiesF w z f) : Calls Tryz.prog 25 #[.agg #[vI f.pTo, vB f.pKind.toNat, vU f.pSeq, vI f.pAbout, .slice z.u.A z.u.n z.u.c]] w fun e w' => ∃ v, e = .returned (.bool v) ∧ (v = true ↔ Mur.noP f) ∧ Chg [] w w' := by
 have hul_ := hL.upd.len
 rw [List.length_map] at hul_
 refine calls_of_wp Tryz.func25 rfl ?_
 refine sR<|nW 0 1 #[vI f.pTo, vB f.pKind.toNat, vU f.pSeq, vI f.pAbout, .slice z.u.A z.u.n z.u.c] 26 fun W1 hb1 ch1 sz1 => rP 1 2 vF<|eN<|sR<|rP 0 3 (pw w 0)<|rL 1 4 0 (vI f.pTo) hb1 ?_
 by_cases hx1 : f.pTo = (0 : Int)
 ·refine eT 2 5 f.pTo (0 : Int)<|rP 3 6 vT<|rP 4 7 (pw w 1)<|rL 5 8 1 (vB f.pKind.toNat) hb1 ?_
  by_cases hx2 : (f.pKind.toNat : Int) = (0 : Int)
  ·refine eT 6 9 (f.pKind.toNat : Int) (0 : Int)<|rP 7 10 vT<|rP 8 11 vT<|rP 9 12 (pw w 2)<|rL 10 13 2 (vU f.pSeq) hb1 ?_
   by_cases hx3 : (f.pSeq : Int) = (0 : Int)
   ·refine eT 11 14 (f.pSeq : Int) (0 : Int)<|rP 12 15 vT<|rP 13 16 vT<|rP 14 17 (pw w 3)<|rL 15 18 3 (vI f.pAbout) hb1 ?_
    by_cases hx4 : f.pAbout = (0 : Int)
    ·refine eT 16 19 f.pAbout (0 : Int)<|rP 17 20 vT<|rP 18 21 vT<|rP 19 22 (pw w 4)<|rL 20 23 4 (.slice z.u.A z.u.n z.u.c) hb1<|rP 21 24 (vI z.u.n) ?_
     by_cases hx5 : (z.u.n : Int) = (0 : Int)
     ·exact eT 22 25 (z.u.n : Int) (0 : Int)<|rP 23 26 vT<|rP 24 2 vT<|eN<|wp_ret<|rt vT (yesB ⟨by omega, kI 0, by omega, by omega, List.eq_nil_of_length_eq_zero (by omega)⟩ (zA ch1 : Chg [] w W1))
     exact eF 22 25 (z.u.n : Int) (0 : Int)<|rP 23 26 vF<|rP 24 2 vF<|eN<|wp_ret<|rt vF (noB (fun ⟨h1_, h2_, h3_, h4_, h5_⟩ => (by have q1_ := congrArg UInt8.toNat h2_; have q2_ : (0 : UInt8).toNat = 0 := rfl; have q3_ := congrArg List.length h5_; rw [List.length_nil] at q3_; omega)) (zA ch1 : Chg [] w W1))
    exact eF 16 19 f.pAbout (0 : Int)<|rP 17 20 vF<|rP 18 21 vF<|rZ 19 22<|rZ 20 23<|rZ 21 24<|rZ 22 25<|rP 23 26 vF<|rP 24 2 vF<|eN<|wp_ret<|rt vF (noB (fun ⟨h1_, h2_, h3_, h4_, h5_⟩ => (by have q1_ := congrArg UInt8.toNat h2_; have q2_ : (0 : UInt8).toNat = 0 := rfl; have q3_ := congrArg List.length h5_; rw [List.length_nil] at q3_; omega)) (zA ch1 : Chg [] w W1))
   exact eF 11 14 (f.pSeq : Int) (0 : Int)<|rP 12 15 vF<|rP 13 16 vF<|rZ 14 17<|rZ 15 18<|rZ 16 19<|rP 17 20 vF<|rP 18 21 vF<|rZ 19 22<|rZ 20 23<|rZ 21 24<|rZ 22 25<|rP 23 26 vF<|rP 24 2 vF<|eN<|wp_ret<|rt vF (noB (fun ⟨h1_, h2_, h3_, h4_, h5_⟩ => (by have q1_ := congrArg UInt8.toNat h2_; have q2_ : (0 : UInt8).toNat = 0 := rfl; have q3_ := congrArg List.length h5_; rw [List.length_nil] at q3_; omega)) (zA ch1 : Chg [] w W1))
  exact eF 6 9 (f.pKind.toNat : Int) (0 : Int)<|rP 7 10 vF<|rP 8 11 vF<|rZ 9 12<|rZ 10 13<|rZ 11 14<|rP 12 15 vF<|rP 13 16 vF<|rZ 14 17<|rZ 15 18<|rZ 16 19<|rP 17 20 vF<|rP 18 21 vF<|rZ 19 22<|rZ 20 23<|rZ 21 24<|rZ 22 25<|rP 23 26 vF<|rP 24 2 vF<|eN<|wp_ret<|rt vF (noB (fun ⟨h1_, h2_, h3_, h4_, h5_⟩ => (by have q1_ := congrArg UInt8.toNat h2_; have q2_ : (0 : UInt8).toNat = 0 := rfl; have q3_ := congrArg List.length h5_; rw [List.length_nil] at q3_; omega)) (zA ch1 : Chg [] w W1))
 exact eF 2 5 f.pTo (0 : Int)<|rP 3 6 vF<|rZ 4 7<|rZ 5 8<|rZ 6 9<|rP 7 10 vF<|rP 8 11 vF<|rZ 9 12<|rZ 10 13<|rZ 11 14<|rP 12 15 vF<|rP 13 16 vF<|rZ 14 17<|rZ 15 18<|rZ 16 19<|rP 17 20 vF<|rP 18 21 vF<|rZ 19 22<|rZ 20 23<|rZ 21 24<|rZ 22 25<|rP 23 26 vF<|rP 24 2 vF<|eN<|wp_ret<|rt vF (noB (fun ⟨h1_, h2_, h3_, h4_, h5_⟩ => (by have q1_ := congrArg UInt8.toNat h2_; have q2_ : (0 : UInt8).toNat = 0 := rfl; have q3_ := congrArg List.length h5_; rw [List.length_nil] at q3_; omega)) (zA ch1 : Chg [] w W1))
theorem RNoG_any (kd : UInt8) (p : List UInt8) (PA : Option Addr) (pn pc : Nat) (s : List UInt8) (m : Int) (I : List Att) (A : Option Addr) (n c : Nat) (b : Bool) (w : World) (hs : s.length = 32) (hb : Byt w PA pn p) (hl : SlA w A n I) (_hpn : pn ≤ 9223372036854775807) (_hn : n ≤ 9223372036854775807) : Calls Tryz.prog 26 #[.agg (msgC kd PA pn pc s m A n c b).toArray] w fun e w' => ∃ v, e = .returned (.bool v) ∧ (v = true ↔ (⟨kd, p, s, m, I, b⟩ : Mur.Msg) = Mur.msgNone) ∧ Chg [] w w' := by
 have hpl_ := hb.1
 have hil_ := hl.len
 have hk8_ := kd.toNat_lt
 refine calls_of_wp Tryz.func26 rfl ?_
 refine sR<|nW 0 1 ((Mur.msgC kd PA pn pc s m A n c b).toArray) 31 fun W1 hb1 ch1 sz1 => rP 1 2 vF<|eN<|sR<|rP 0 3 (pw w 0)<|rq 1 4 _ rfl (ld 5 3 w.heap.size 0 (vB kd.toNat) (show World.cell? _ ⟨_, 0 + 0, _⟩ = _ from Mur.msg_kind (range_row hb1))) ?_
 by_cases hx1 : (kd.toNat : Int) = (0 : Int)
 ·refine eT 2 5 (kd.toNat : Int) (0 : Int)<|rP 3 6 vT<|rP 4 7 (pw w 1)<|rq 5 8 _ rfl (ld 22 7 w.heap.size 1 (.slice PA pn pc) (show World.cell? _ ⟨_, 0 + 1, _⟩ = _ from Mur.msg_pre (range_row hb1)))<|rP 6 9 (vI pn) ?_
  by_cases hx2 : (pn : Int) = (0 : Int)
  ·refine eT 7 10 (pn : Int) (0 : Int)<|rP 8 11 vT<|rP 9 12 vT<|rP 10 13 (pw w 2)<|rq 11 14 _ rfl (lR 2 (b8s s) (show World.rangeAt _ _ (0 + 2) _ from Mur.msg_sum (range_row hb1)) (by rw [Mur.b8s_length, hs]; kernel_rfl))<|rP 12 15 (.agg ((b8s [0, 0, 0, 0, 0, 0, 0, 0, 0, 0, 0, 0, 0, 0, 0, 0, 0, 0, 0, 0, 0, 0, 0, 0, 0, 0, 0, 0, 0, 0, 0, 0]).toArray)) ?_
   by_cases hzs1 : s = z32
   ·refine rq 13 16 vT rfl (Mur.run_eql_yes digT s z32 hs rfl hzs1 _ (.tmp 14) (.tmp 15) 28 rfl (by kernel_rfl) (by kernel_rfl))<|rP 14 17 vT<|rP 15 18 vT<|rP 16 19 (pw w 34)<|rq 17 20 _ rfl (ld 3 19 w.heap.size 34 (vI m) (show World.cell? _ ⟨_, 0 + 34, _⟩ = _ from Mur.msg_cnt hs (range_row hb1))) ?_
    by_cases hx3 : m = (0 : Int)
    ·refine eT 18 21 m (0 : Int)<|rP 19 22 vT<|rP 20 23 vT<|rP 21 24 (pw w 35)<|rq 22 25 _ rfl (ld 29 24 w.heap.size 35 (.slice A n c) (show World.cell? _ ⟨_, 0 + 35, _⟩ = _ from Mur.msg_items hs (range_row hb1)))<|rP 23 26 (vI n) ?_
     by_cases hx4 : (n : Int) = (0 : Int)
     ·refine eT 24 27 (n : Int) (0 : Int)<|rP 25 28 vT<|rP 26 29 vT ?_
      cases b
      ·exact rP 27 30 (pw w 36)<|rq 28 31 _ rfl (ld 4 30 w.heap.size 36 vF (show World.cell? _ ⟨_, 0 + 36, _⟩ = _ from msg_ans hs (range_row hb1)))<|rP 29 32 vT<|rP 30 33 vT<|rP 31 2 vT<|eN<|wp_ret<|rt vT (yesB ((by rw [show kd = 0 from kI 0, show p = [] from List.eq_nil_of_length_eq_zero (by omega), hzs1, show m = 0 from by omega, show I = [] from List.eq_nil_of_length_eq_zero (by omega)]; rfl)) (zA ch1 : Chg [] w W1))
      exact rP 27 30 (pw w 36)<|rq 28 31 _ rfl (ld 4 30 w.heap.size 36 vT (show World.cell? _ ⟨_, 0 + 36, _⟩ = _ from msg_ans hs (range_row hb1)))<|rP 29 32 vF<|rP 30 33 vF<|rP 31 2 vF<|eN<|wp_ret<|rt vF (noB (fun h_ => (by have q_ : true = false := congrArg (fun x_ : Mur.Msg => x_.ans) h_; cases q_)) (zA ch1 : Chg [] w W1))
     exact eF 24 27 (n : Int) (0 : Int)<|rP 25 28 vF<|rP 26 29 vF<|rZ 27 30<|rZ 28 31<|rZ 29 32<|rP 30 33 vF<|rP 31 2 vF<|eN<|wp_ret<|rt vF (noB (fun h_ => (by have q1_ : kd.toNat = 0 := congrArg (fun x_ : Mur.Msg => x_.kind.toNat) h_; have q2_ : p.length = 0 := congrArg (fun x_ : Mur.Msg => x_.pre.length) h_; have q3_ : m = 0 := congrArg (fun x_ : Mur.Msg => x_.cnt) h_; have q4_ : I.length = 0 := congrArg (fun x_ : Mur.Msg => x_.items.length) h_; omega)) (zA ch1 : Chg [] w W1))
    exact eF 18 21 m (0 : Int)<|rP 19 22 vF<|rP 20 23 vF<|rZ 21 24<|rZ 22 25<|rZ 23 26<|rZ 24 27<|rP 25 28 vF<|rP 26 29 vF<|rZ 27 30<|rZ 28 31<|rZ 29 32<|rP 30 33 vF<|rP 31 2 vF<|eN<|wp_ret<|rt vF (noB (fun h_ => (by have q1_ : kd.toNat = 0 := congrArg (fun x_ : Mur.Msg => x_.kind.toNat) h_; have q2_ : p.length = 0 := congrArg (fun x_ : Mur.Msg => x_.pre.length) h_; have q3_ : m = 0 := congrArg (fun x_ : Mur.Msg => x_.cnt) h_; have q4_ : I.length = 0 := congrArg (fun x_ : Mur.Msg => x_.items.length) h_; omega)) (zA ch1 : Chg [] w W1))
   exact rq 13 16 vF rfl (Mur.run_eql_no digT s z32 hs rfl hzs1 _ (.tmp 14) (.tmp 15) 28 rfl (by kernel_rfl) (by kernel_rfl))<|rP 14 17 vF<|rP 15 18 vF<|rZ 16 19<|rZ 17 20<|rZ 18 21<|rP 19 22 vF<|rP 20 23 vF<|rZ 21 24<|rZ 22 25<|rZ 23 26<|rZ 24 27<|rP 25 28 vF<|rP 26 29 vF<|rZ 27 30<|rZ 28 31<|rZ 29 32<|rP 30 33 vF<|rP 31 2 vF<|eN<|wp_ret<|rt vF (noB (fun h_ => (absurd (congrArg (fun x_ : Mur.Msg => x_.sum) h_) hzs1)) (zA ch1 : Chg [] w W1))
  exact eF 7 10 (pn : Int) (0 : Int)<|rP 8 11 vF<|rP 9 12 vF<|rZ 10 13<|rZ 11 14<|rZ 12 15<|rZ 13 16<|rP 14 17 vF<|rP 15 18 vF<|rZ 16 19<|rZ 17 20<|rZ 18 21<|rP 19 22 vF<|rP 20 23 vF<|rZ 21 24<|rZ 22 25<|rZ 23 26<|rZ 24 27<|rP 25 28 vF<|rP 26 29 vF<|rZ 27 30<|rZ 28 31<|rZ 29 32<|rP 30 33 vF<|rP 31 2 vF<|eN<|wp_ret<|rt vF (noB (fun h_ => (by have q1_ : kd.toNat = 0 := congrArg (fun x_ : Mur.Msg => x_.kind.toNat) h_; have q2_ : p.length = 0 := congrArg (fun x_ : Mur.Msg => x_.pre.length) h_; have q3_ : m = 0 := congrArg (fun x_ : Mur.Msg => x_.cnt) h_; have q4_ : I.length = 0 := congrArg (fun x_ : Mur.Msg => x_.items.length) h_; omega)) (zA ch1 : Chg [] w W1))
 exact eF 2 5 (kd.toNat : Int) (0 : Int)<|rP 3 6 vF<|rZ 4 7<|rZ 5 8<|rZ 6 9<|rZ 7 10<|rP 8 11 vF<|rP 9 12 vF<|rZ 10 13<|rZ 11 14<|rZ 12 15<|rZ 13 16<|rP 14 17 vF<|rP 15 18 vF<|rZ 16 19<|rZ 17 20<|rZ 18 21<|rP 19 22 vF<|rP 20 23 vF<|rZ 21 24<|rZ 22 25<|rZ 23 26<|rZ 24 27<|rP 25 28 vF<|rP 26 29 vF<|rZ 27 30<|rZ 28 31<|rZ 29 32<|rP 30 33 vF<|rP 31 2 vF<|eN<|wp_ret<|rt vF (noB (fun h_ => (by have q1_ : kd.toNat = 0 := congrArg (fun x_ : Mur.Msg => x_.kind.toNat) h_; have q2_ : p.length = 0 := congrArg (fun x_ : Mur.Msg => x_.pre.length) h_; have q3_ : m = 0 := congrArg (fun x_ : Mur.Msg => x_.cnt) h_; have q4_ : I.length = 0 := congrArg (fun x_ : Mur.Msg => x_.items.length) h_; omega)) (zA ch1 : Chg [] w W1))
end Go.Proofs.YtgbadghjnpbiaaaGreatDoor
namespace Go.Proofs.YtgbadghjnpbiaaaGreatDoor
open Go.RowKit Wk
open Mur (b8s Byt Own8 Seg Segs flat cutA attC Att SlA OwnA rowA msgC msg_pre byt_chg mayM_iff msg_cnt msg_items msg_kind msg_ans u8_cast_inj z32 run_neq_dg attC_length take_snoc)
set_option maxRecDepth 100000
set_option maxHeartbeats 4000000
def RM21_F1 (b : Array Value) (u1 u3 : Value) : Act := sg 94 [(1, u1), (3, u3)] b
theorem RMay21_any (kd : UInt8) (p : List UInt8) (PA : Option Addr) (pn pc : Nat) (s : List UInt8) (m : Int) (I : List Att) (A : Option Addr) (n c : Nat) (b : Bool) (w : World) (hs : s.length = 32) (hb : Byt w PA pn p) (hl : SlA w A n I) (hpn : pn ≤ 9223372036854775807) (hn : n ≤ 9223372036854775807) (hnc : n ≤ c) : Calls Tryz.prog 27 #[.agg (msgC kd PA pn pc s m A n c b).toArray] w fun e w' => ∃ v, e = .returned (.bool v) ∧ (v = true ↔ Mur.mayM ⟨kd, p, s, m, I, b⟩) ∧ Chg [] w w' := by
 have hlI0 := hl.len
 have hkd_ := kd.toNat_lt
 refine calls_of_wp Tryz.func27 rfl ?_
 refine sR<|nW 0 1 ((Mur.msgC kd PA pn pc s m A n c b).toArray) 31 fun W1 hb1 ch1 sz1 => rP 1 2 vF<|eN<|wp_seq<|sR<|rP 0 4 (pw w 1)<|rq 1 5 _ rfl (ld 22 4 w.heap.size 1 (.slice PA pn pc) (show World.cell? _ ⟨_, 0 + 1, _⟩ = _ from msg_pre (range_row hb1))) ?_
 have kk1 : Chg [] w W1 := zA ch1
 refine rK 2 6 (Risp_any p PA pn pc W1 (byt_chg hb kk1 (fun g off e hl => trivial)) (by omega)) ?_
 cases hpre1 : Mur.isPre p
 ·rintro _ _ ⟨rfl, rfl⟩
  refine rP 3 7 vT<|rP 4 8 vT<|rZ 5 9<|rZ 6 10<|rZ 7 11<|rP 8 12 vT<|rP 9 13 vT<|rZ 10 14<|rZ 11 15<|rZ 12 16<|rP 13 17 vT<|rP 14 18 vT<|rZ 15 19<|rZ 16 20<|rZ 17 21<|rZ 18 22<|rP 19 23 vT<|eN<|cT<|sR<|rP 0 2 vF<|eN<|tR<|?_
  have hlI_ := hl.len
  refine rt vF ?_
  refine ⟨_, rfl, ⟨fun h_ => (by cases h_), fun h_ => ?_⟩, kk1⟩
  exfalso
  obtain ⟨h1_, h2_, h3_, h4_, h5_⟩ := mayM_iff.1 h_
  exact absurd (h1_.symm.trans hpre1) (by decide)
 rintro _ _ ⟨rfl, rfl⟩
 refine rP 3 7 vF<|rP 4 8 vF<|rP 5 9 (pw w 34)<|rq 6 10 _ rfl (ld 3 9 w.heap.size 34 (vI m) (show World.cell? _ ⟨_, 0 + 34, _⟩ = _ from msg_cnt hs (range_row hb1))) ?_
 by_cases hx1 : m < (0 : Int)
 ·refine bT 7 11 (m < (0 : Int))<|rP 8 12 vT<|rP 9 13 vT<|rZ 10 14<|rZ 11 15<|rZ 12 16<|rP 13 17 vT<|rP 14 18 vT<|rZ 15 19<|rZ 16 20<|rZ 17 21<|rZ 18 22<|rP 19 23 vT<|eN<|cT<|sR<|rP 0 2 vF<|eN<|tR<|?_
  have hlI_ := hl.len
  refine rt vF ?_
  refine ⟨_, rfl, ⟨fun h_ => (by cases h_), fun h_ => ?_⟩, kk1⟩
  exfalso
  obtain ⟨h1_, h2_, h3_, h4_, h5_⟩ := mayM_iff.1 h_
  have h1k_ : ((1 : UInt8).toNat : Int) = 1 := rfl
  have h2k_ : ((2 : UInt8).toNat : Int) = 2 := rfl
  rcases h5_ with ⟨hk_, hi_, hb_⟩ | ⟨hk_, hi_, hso_, hz_, hc_⟩
  ·have hk2_ : (kd.toNat : Int) = _ := congrArg (fun z : UInt8 => (z.toNat : Int)) hk_
   have hi2_ := congrArg List.length hi_
   rw [List.length_nil] at hi2_
   first | omega | cases hb_ | (subst hb_; omega)
  have hk2_ : (kd.toNat : Int) = _ := congrArg (fun z : UInt8 => (z.toNat : Int)) hk_
  omega
 refine bF 7 11 (m < (0 : Int))<|rP 8 12 vF<|rP 9 13 vF<|rP 10 14 (pw w 34)<|rq 11 15 _ rfl (ld 3 14 w.heap.size 34 (vI m) (show World.cell? _ ⟨_, 0 + 34, _⟩ = _ from msg_cnt hs (range_row hb1))) ?_
 by_cases hx2 : m > (200 : Int)
 ·refine bT 12 16 (m > (200 : Int))<|rP 13 17 vT<|rP 14 18 vT<|rZ 15 19<|rZ 16 20<|rZ 17 21<|rZ 18 22<|rP 19 23 vT<|eN<|cT<|sR<|rP 0 2 vF<|eN<|tR<|?_
  have hlI_ := hl.len
  refine rt vF ?_
  refine ⟨_, rfl, ⟨fun h_ => (by cases h_), fun h_ => ?_⟩, kk1⟩
  exfalso
  obtain ⟨h1_, h2_, h3_, h4_, h5_⟩ := mayM_iff.1 h_
  have h1k_ : ((1 : UInt8).toNat : Int) = 1 := rfl
  have h2k_ : ((2 : UInt8).toNat : Int) = 2 := rfl
  rcases h5_ with ⟨hk_, hi_, hb_⟩ | ⟨hk_, hi_, hso_, hz_, hc_⟩
  ·have hk2_ : (kd.toNat : Int) = _ := congrArg (fun z : UInt8 => (z.toNat : Int)) hk_
   have hi2_ := congrArg List.length hi_
   rw [List.length_nil] at hi2_
   first | omega | cases hb_ | (subst hb_; omega)
  have hk2_ : (kd.toNat : Int) = _ := congrArg (fun z : UInt8 => (z.toNat : Int)) hk_
  omega
 refine bF 12 16 (m > (200 : Int))<|rP 13 17 vF<|rP 14 18 vF<|rP 15 19 (pw w 35)<|rq 16 20 _ rfl (ld 29 19 w.heap.size 35 (.slice A n c) (show World.cell? _ ⟨_, 0 + 35, _⟩ = _ from msg_items hs (range_row hb1)))<|rP 17 21 (vI n) ?_
 by_cases hx3 : (n : Int) > (8 : Int)
 ·refine bT 18 22 ((n : Int) > (8 : Int))<|rP 19 23 vT<|eN<|cT<|sR<|rP 0 2 vF<|eN<|tR<|?_
  have hlI_ := hl.len
  refine rt vF ?_
  refine ⟨_, rfl, ⟨fun h_ => (by cases h_), fun h_ => ?_⟩, kk1⟩
  exfalso
  obtain ⟨h1_, h2_, h3_, h4_, h5_⟩ := mayM_iff.1 h_
  have h1k_ : ((1 : UInt8).toNat : Int) = 1 := rfl
  have h2k_ : ((2 : UInt8).toNat : Int) = 2 := rfl
  rcases h5_ with ⟨hk_, hi_, hb_⟩ | ⟨hk_, hi_, hso_, hz_, hc_⟩
  ·have hk2_ : (kd.toNat : Int) = _ := congrArg (fun z : UInt8 => (z.toNat : Int)) hk_
   have hi2_ := congrArg List.length hi_
   rw [List.length_nil] at hi2_
   first | omega | cases hb_ | (subst hb_; omega)
  have hk2_ : (kd.toNat : Int) = _ := congrArg (fun z : UInt8 => (z.toNat : Int)) hk_
  omega
 refine bF 18 22 ((n : Int) > (8 : Int))<|rP 19 23 vF<|eN<|cF<|wp_skip<|nxt<|wp_seq<|sR<|?_
 have hpreT_ := hpre1
 have hp8_ := Mur.pre_len hpreT_
 have hpl_ := hb.1
 refine rP 0 24 (pw w 0)<|rq 1 25 _ rfl (ld 5 24 w.heap.size 0 (vB kd.toNat) (show World.cell? _ ⟨_, 0 + 0, _⟩ = _ from msg_kind (range_row hb1))) ?_
 by_cases hx4 : (kd.toNat : Int) = (1 : Int)
 ·refine eT 2 26 (kd.toNat : Int) (1 : Int)<|eN<|cT<|sR<|rP 0 27 (pw w 35)<|rq 1 28 _ rfl (ld 29 27 w.heap.size 35 (.slice A n c) (show World.cell? _ ⟨_, 0 + 35, _⟩ = _ from msg_items hs (range_row hb1)))<|rP 2 29 (vI n) ?_
  by_cases hx5 : (n : Int) = (0 : Int)
  ·refine eT 3 30 (n : Int) (0 : Int)<|rP 4 31 vT ?_
   cases b
   ·refine rP 5 32 (pw w 36)<|rq 6 33 _ rfl (ld 4 32 w.heap.size 36 vF (show World.cell? _ ⟨_, 0 + 36, _⟩ = _ from msg_ans hs (range_row hb1)))<|rP 7 34 vT<|rP 8 35 vT<|rP 9 2 vT<|eN<|tR<|?_
    have hlI_ := hl.len
    exact rt vT (yesB (mayM_iff.2 ⟨hpreT_, by omega, by omega, by omega, .inl ⟨u8_cast_inj (by have h_ : ((1 : UInt8).toNat : Int) = 1 := rfl; omega), List.eq_nil_of_length_eq_zero (by omega), rfl⟩⟩) kk1)
   refine rP 5 32 (pw w 36)<|rq 6 33 _ rfl (ld 4 32 w.heap.size 36 vT (show World.cell? _ ⟨_, 0 + 36, _⟩ = _ from msg_ans hs (range_row hb1)))<|rP 7 34 vF<|rP 8 35 vF<|rP 9 2 vF<|eN<|tR<|?_
   have hlI_ := hl.len
   refine rt vF ?_
   refine ⟨_, rfl, ⟨fun h_ => (by cases h_), fun h_ => ?_⟩, kk1⟩
   exfalso
   obtain ⟨h1_, h2_, h3_, h4_, h5_⟩ := mayM_iff.1 h_
   have h1k_ : ((1 : UInt8).toNat : Int) = 1 := rfl
   have h2k_ : ((2 : UInt8).toNat : Int) = 2 := rfl
   rcases h5_ with ⟨hk_, hi_, hb_⟩ | ⟨hk_, hi_, hso_, hz_, hc_⟩
   ·have hk2_ : (kd.toNat : Int) = _ := congrArg (fun z : UInt8 => (z.toNat : Int)) hk_
    have hi2_ := congrArg List.length hi_
    rw [List.length_nil] at hi2_
    first | omega | cases hb_ | (subst hb_; omega)
   have hk2_ : (kd.toNat : Int) = _ := congrArg (fun z : UInt8 => (z.toNat : Int)) hk_
   omega
  refine eF 3 30 (n : Int) (0 : Int)<|rP 4 31 vF<|rZ 5 32<|rZ 6 33<|rZ 7 34<|rP 8 35 vF<|rP 9 2 vF<|eN<|tR<|?_
  have hlI_ := hl.len
  refine rt vF ?_
  refine ⟨_, rfl, ⟨fun h_ => (by cases h_), fun h_ => ?_⟩, kk1⟩
  exfalso
  obtain ⟨h1_, h2_, h3_, h4_, h5_⟩ := mayM_iff.1 h_
  have h1k_ : ((1 : UInt8).toNat : Int) = 1 := rfl
  have h2k_ : ((2 : UInt8).toNat : Int) = 2 := rfl
  rcases h5_ with ⟨hk_, hi_, hb_⟩ | ⟨hk_, hi_, hso_, hz_, hc_⟩
  ·have hk2_ : (kd.toNat : Int) = _ := congrArg (fun z : UInt8 => (z.toNat : Int)) hk_
   have hi2_ := congrArg List.length hi_
   rw [List.length_nil] at hi2_
   first | omega | cases hb_ | (subst hb_; omega)
  have hk2_ : (kd.toNat : Int) = _ := congrArg (fun z : UInt8 => (z.toNat : Int)) hk_
  omega
 refine eF 2 26 (kd.toNat : Int) (1 : Int)<|eN<|cF<|wp_skip<|nxt<|wp_seq<|sR<|rP 0 36 (pw w 0)<|rq 1 37 _ rfl (ld 5 36 w.heap.size 0 (vB kd.toNat) (show World.cell? _ ⟨_, 0 + 0, _⟩ = _ from msg_kind (range_row hb1))) ?_
 by_cases hx6 : (kd.toNat : Int) ≠ (2 : Int)
 ·refine nT 2 38 (kd.toNat : Int) (2 : Int)<|rP 3 39 vT<|rZ 4 40<|rZ 5 41<|rZ 6 42<|rZ 7 43<|rP 8 44 vT<|rP 9 45 vT<|rZ 10 46<|rZ 11 47<|rZ 12 48<|rP 13 49 vT<|eN<|cT<|sR<|rP 0 2 vF<|eN<|tR<|?_
  have hlI_ := hl.len
  refine rt vF ?_
  refine ⟨_, rfl, ⟨fun h_ => (by cases h_), fun h_ => ?_⟩, kk1⟩
  exfalso
  obtain ⟨h1_, h2_, h3_, h4_, h5_⟩ := mayM_iff.1 h_
  have h1k_ : ((1 : UInt8).toNat : Int) = 1 := rfl
  have h2k_ : ((2 : UInt8).toNat : Int) = 2 := rfl
  rcases h5_ with ⟨hk_, hi_, hb_⟩ | ⟨hk_, hi_, hso_, hz_, hc_⟩
  ·have hk2_ : (kd.toNat : Int) = _ := congrArg (fun z : UInt8 => (z.toNat : Int)) hk_
   have hi2_ := congrArg List.length hi_
   rw [List.length_nil] at hi2_
   first | omega | cases hb_ | (subst hb_; omega)
  have hk2_ : (kd.toNat : Int) = _ := congrArg (fun z : UInt8 => (z.toNat : Int)) hk_
  omega
 refine nF 2 38 (kd.toNat : Int) (2 : Int)<|rP 3 39 vF<|rP 4 40 (pw w 2)<|rq 5 41 _ rfl (lR 2 (b8s s) (show World.rangeAt _ _ (0 + 2) _ from Mur.msg_sum (range_row hb1)) (by rw [Mur.b8s_length, hs]; kernel_rfl))<|rP 6 42 (.agg ((b8s [0, 0, 0, 0, 0, 0, 0, 0, 0, 0, 0, 0, 0, 0, 0, 0, 0, 0, 0, 0, 0, 0, 0, 0, 0, 0, 0, 0, 0, 0, 0, 0]).toArray)) ?_
 by_cases hpr1 : s = z32
 ·refine rq 7 43 _ rfl (nqF hpr1 (run_neq_dg digT s z32 hs rfl _ (.tmp 41) (.tmp 42) 28 rfl (by kernel_rfl) (by kernel_rfl)))<|rP 8 44 vF<|rP 9 45 vF<|rP 10 46 (pw w 34)<|rq 11 47 _ rfl (ld 3 46 w.heap.size 34 (vI m) (show World.cell? _ ⟨_, 0 + 34, _⟩ = _ from msg_cnt hs (range_row hb1))) ?_
  by_cases hx7 : m ≠ (0 : Int)
  ·refine nT 12 48 m (0 : Int)<|rP 13 49 vT<|eN<|cT<|sR<|rP 0 2 vF<|eN<|tR<|?_
   have hlI_ := hl.len
   refine rt vF ?_
   refine ⟨_, rfl, ⟨fun h_ => (by cases h_), fun h_ => ?_⟩, kk1⟩
   exfalso
   obtain ⟨h1_, h2_, h3_, h4_, h5_⟩ := mayM_iff.1 h_
   have h1k_ : ((1 : UInt8).toNat : Int) = 1 := rfl
   have h2k_ : ((2 : UInt8).toNat : Int) = 2 := rfl
   rcases h5_ with ⟨hk_, hi_, hb_⟩ | ⟨hk_, hi_, hso_, hz_, hc_⟩
   ·have hk2_ : (kd.toNat : Int) = _ := congrArg (fun z : UInt8 => (z.toNat : Int)) hk_
    have hi2_ := congrArg List.length hi_
    rw [List.length_nil] at hi2_
    first | omega | cases hb_ | (subst hb_; omega)
   have hk2_ : (kd.toNat : Int) = _ := congrArg (fun z : UInt8 => (z.toNat : Int)) hk_
   omega
  refine nF 12 48 m (0 : Int)<|rP 13 49 vF<|eN<|cF<|wp_skip<|nxt<|wp_seq<|sR<|rP 0 3 (vI 0)<|eN<|wp_block<|?_
  refine Wk.loop (fun m_ a wr => ∃ (i : Nat), m_ = n - i ∧ a = RM21_F1 a.tmps (pw w 0) (vI i) ∧ i ≤ n ∧ (∀ x, x ∈ I.take i → Mur.may x.n ∧ Mur.under p x.k = true) ∧ Mur.Sorted (I.take i) ∧ wr.heap[w.heap.size]? = some (.cells (Mur.msgC kd PA pn pc s m A n c b).toArray 31 (0, 0)) ∧ Chg [] w wr) (n - 0) ?_ ?_
  ·refine ⟨0, rfl, by kernel_rfl, (by omega), (by simp), List.Pairwise.nil, hb1, kk1⟩
  rintro mm1 aa1 W2 ⟨i, hmm1, hF1, hi, hall, hsr, hX, HB⟩
  generalize aa1.tmps = bb1 at hF1
  subst hF1
  have hzB := HB.size
  have hxl_ := (Array.getElem?_eq_some_iff.1 hX).1
  have hlI := hl.len
  by_cases hlt : i < n
  ·obtain ⟨g_x, o_x, rfl, _⟩ := hl.ex (by omega)
   obtain ⟨x, hx⟩ : ∃ x, I[i]? = some x := ⟨_, List.getElem?_eq_getElem (by have := hl.len; omega)⟩
   refine wp_seq<|sR<|rP 0 50 (vI i)<|rP 1 51 (pw w 35)<|rq 2 52 _ rfl (ld 29 51 w.heap.size 35 (.slice (some ⟨g_x, o_x, none⟩) n c) (show World.cell? _ ⟨_, 0 + 35, _⟩ = _ from msg_items hs (range_row hX)))<|rP 3 53 (vI n)<|bT 4 54 ((i : Int) < (n : Int))<|eN<|cT<|wp_skip<|nxt<|wp_seq<|wp_block<|wp_seq<|wp_seq<|?_
   refine dReg ([]) (by kernel_rfl) ?_
   intro W3 ch2 sz2
   have zz2 := ch2.size
   have sS1 : Chg ([]) W3 W3 := (Chg.refl _).more (by simp)
   refine dW 0 57 (pw w 35) sS1<|dV 1 58 (.slice (some ⟨g_x, o_x, none⟩) n c) rfl rfl (fun w' hw' => ld 29 57 w.heap.size 35 (.slice (some ⟨g_x, o_x, none⟩) n c) (show World.cell? _ ⟨_, 0 + 35, _⟩ = _ from msg_items hs (range_row (qT hw' (qT ch2 hX))))) sS1<|dW 2 59 (vI i) sS1<|dV 3 60 (pt g_x (o_x + i * 97)) rfl rfl (fun w' hw' => iS 97 g_x o_x n c i) sS1 ?_
   have kk2 := kA HB ch2
   refine dV 4 61 _ rfl rfl (fun w' hw' => lR (o_x + i * 97) (Mur.attC x.k x.r x.n x.t) ((Mur.SlA.chg (Mur.SlA.chg hl kk2 (fun g off e hl => trivial)) hw' (fun g off e hl => trivial)).elem hx) (by rw [attC_length x.hk x.hr x.ht]; kernel_rfl)) sS1<|dO 5 ?_
   refine oCall (some 62) 28 [.tmp 61] #[35] [.agg ((Mur.attC x.k x.r x.n x.t).toArray)] rfl rfl (by kernel_rfl) rfl (by kernel_rfl) (by kernel_rfl) ?_
   by_cases hmay1 : Mur.may x.n
   ·have hmay1u : 1 ≤ x.n ∧ x.n ≤ 5000 := hmay1
    refine (Rmay_any x.k x.r x.t x.n x.hk x.hr x.ht W3).mono ?_
    rw [decide_eq_true (hmay1 : Mur.may x.n)]
    rintro _ W4 ⟨rfl, ch3⟩
    have zz3 := ch3.size
    have sS2 := kA sS1 ch3
    refine ⟨_, rfl, sS2, ?_⟩
    refine dW 6 63 vF sS2<|dW 7 64 vF sS2<|dW 8 65 (pw w 35) sS2<|dV 9 66 (.slice (some ⟨g_x, o_x, none⟩) n c) rfl rfl (fun w' hw' => ld 29 65 w.heap.size 35 (.slice (some ⟨g_x, o_x, none⟩) n c) (show World.cell? _ ⟨_, 0 + 35, _⟩ = _ from msg_items hs (range_row (qT hw' (qT ch2 hX))))) sS2<|dW 10 67 (vI i) sS2<|dW 11 68 (vI i) sS2<|dV 12 69 (vI (i + 1 : Nat)) rfl rfl (fun w' hw' => int64 (n := (i : Int) + 1) (z := ((i + 1 : Nat) : Int)) (by omega) (by omega) (by omega) (by kernel_rfl)) sS2<|dV 13 70 (.slice (some ⟨g_x, o_x + i * 97, none⟩) 1 (c - i)) rfl rfl (fun w' hw' => Mur.run_cutM 29 (.tmp 66) (.tmp 67) (.tmp 69) rfl 35 Tryz.underlying29 97 (by kernel_rfl) g_x o_x n c i (i + 1) (by kernel_rfl) (by kernel_rfl) (by kernel_rfl) (by omega) (by omega) 1 (by omega)) sS2<|dW 14 71 (pw w 1) sS2<|dV 15 72 (.slice PA pn pc) rfl rfl (fun w' hw' => ld 22 71 w.heap.size 1 (.slice PA pn pc) (show World.cell? _ ⟨_, 0 + 1, _⟩ = _ from msg_pre (range_row (qT hw' (qT ch2 hX))))) sS2<|dO 16 ?_
    have kk3 := kA kk2 ch3
    refine oK 73 (Rbelow_any (some ⟨g_x, o_x + i * 97, none⟩) 1 (c - i) ([x]) p PA pn pc W4 (Mur.SlA.chg (Mur.SlA.one hl hx) kk3 (fun g off e hl => trivial)) (byt_chg hb kk3 (fun g off e hl => trivial)) (by omega) (by omega)) ?_
    rintro _ W5 ⟨AA1, nn1, nn2, rfl, ow1, ch4⟩
    have zz4 := ch4.size
    have hbo1 := Mur.below_one hpreT_ ow1.sl.len
    have sS3 := kA sS2 ch4
    refine aN sS3<|dW 17 74 (vI nn1) sS3 ?_
    by_cases hx8 : (nn1 : Int) ≠ (1 : Int)
    ·refine dV 18 75 vT rfl rfl (fun w' hw' => boolT (b := ((nn1 : Int) != (1 : Int))) (bne_iff_ne.2 (by first | exact hx8 | omega)) (by kernel_rfl)) sS3<|dW 19 76 vT sS3<|dN<|cT<|sR<|rP 0 2 vF<|eN<|tR<|inR<|thR<|thR<|inR<|thR<|?_
     have hlI_ := hl.len
     refine rt vF ?_
     refine ⟨_, rfl, ⟨fun h_ => (by cases h_), fun h_ => ?_⟩, (kA kk3 ch4)⟩
     exfalso
     obtain ⟨h1_, h2_, h3_, h4_, h5_⟩ := mayM_iff.1 h_
     have h1k_ : ((1 : UInt8).toNat : Int) = 1 := rfl
     have h2k_ : ((2 : UInt8).toNat : Int) = 2 := rfl
     rcases h5_ with ⟨hk_, hi_, hb_⟩ | ⟨hk_, hi_, hso_, hz_, hc_⟩
     ·have hk2_ : (kd.toNat : Int) = _ := congrArg (fun z : UInt8 => (z.toNat : Int)) hk_
      have hi2_ := congrArg List.length hi_
      rw [List.length_nil] at hi2_
      first | omega | cases hb_ | (subst hb_; omega)
     have hk2_ : (kd.toNat : Int) = _ := congrArg (fun z : UInt8 => (z.toNat : Int)) hk_
     have hu_ := hbo1.2 (hi_ x (List.mem_of_getElem? hx)).2
     omega
    refine dV 18 75 vF rfl rfl (fun w' hw' => boolF (b := ((nn1 : Int) != (1 : Int))) (bne_eq_false_iff_eq.2 (by first | exact hx8 | omega)) (by kernel_rfl)) sS3<|dW 19 76 vF sS3<|dN<|cF<|wp_skip<|nxt<|wp_seq<|?_
    refine dReg ([]) (by kernel_rfl) ?_
    intro W6 ch5 sz3
    have zz5 := ch5.size
    have sS4 : Chg ([]) W6 W6 := (Chg.refl _).more (by simp)
    refine dW 0 77 (vI i) sS4 ?_
    by_cases hx9 : (i : Int) > (0 : Int)
    ·refine dV 1 78 vT rfl rfl (fun w' hw' => boolT (b := decide ((i : Int) > (0 : Int))) (decide_eq_true (by first | exact hx9 | omega)) (by kernel_rfl)) sS4<|dW 2 79 vT sS4<|dW 3 80 (pw w 35) sS4<|dV 4 81 (.slice (some ⟨g_x, o_x, none⟩) n c) rfl rfl (fun w' hw' => ld 29 80 w.heap.size 35 (.slice (some ⟨g_x, o_x, none⟩) n c) (show World.cell? _ ⟨_, 0 + 35, _⟩ = _ from msg_items hs (range_row (qT hw' (qT ch5 (qT ch4 (qT ch3 (qT ch2 hX)))))))) sS4<|dW 5 82 (vI i) sS4 ?_
     obtain ⟨z, hz⟩ : ∃ z, I[i - 1]? = some z := ⟨_, List.getElem?_eq_getElem (by omega)⟩
     refine dV 6 83 (vI (i - 1 : Nat)) rfl rfl (fun w' hw' => int64 (n := (i : Int) - 1) (z := ((i - 1 : Nat) : Int)) (by omega) (by omega) (by omega) (by kernel_rfl)) sS4<|dV 7 84 (.pointer (some ⟨g_x, o_x + (i - 1) * 97, none⟩)) rfl rfl (fun w' hw' => iS 97 g_x o_x n c (i - 1)) sS4 ?_
     have kk6 := kA (kA kk3 ch4) ch5
     refine dV 8 85 _ rfl rfl (fun w' hw' => lR (o_x + (i - 1) * 97) (Mur.attC z.k z.r z.n z.t) ((Mur.SlA.chg (Mur.SlA.chg hl kk6 (fun g off e hl => trivial)) hw' (fun g off e hl => trivial)).elem hz) (by rw [attC_length z.hk z.hr z.ht]; kernel_rfl)) sS4<|dW 9 86 (pw w 35) sS4<|dV 10 87 (.slice (some ⟨g_x, o_x, none⟩) n c) rfl rfl (fun w' hw' => ld 29 86 w.heap.size 35 (.slice (some ⟨g_x, o_x, none⟩) n c) (show World.cell? _ ⟨_, 0 + 35, _⟩ = _ from msg_items hs (range_row (qT hw' (qT ch5 (qT ch4 (qT ch3 (qT ch2 hX)))))))) sS4<|dW 11 88 (vI i) sS4<|dV 12 89 (pt g_x (o_x + i * 97)) rfl rfl (fun w' hw' => iS 97 g_x o_x n c i) sS4<|dV 13 90 _ rfl rfl (fun w' hw' => lR (o_x + i * 97) (Mur.attC x.k x.r x.n x.t) ((Mur.SlA.chg (Mur.SlA.chg hl kk6 (fun g off e hl => trivial)) hw' (fun g off e hl => trivial)).elem hx) (by rw [attC_length x.hk x.hr x.ht]; kernel_rfl)) sS4<|dO 14<|oK 91 (Less20_any z x W6) ?_
     by_cases hls1 : z.lt x
     ·rw [decide_eq_true (hls1 : z.lt x)]
      rintro _ W7 ⟨rfl, ch6⟩
      have zz6 := ch6.size
      have sS5 := kA sS4 ch6
      refine aN sS5<|dW 15 92 vF sS5<|dW 16 93 vF sS5<|dN<|cF<|wp_skip<|inN<|nxt<|reg<|rP 0 55 (vI i)<|rI 1 56 ((i : Int) + 1) (((i + 1 : Nat) : Int))<|rP 2 3 (vI (i + 1 : Nat))<|eN<|?_
      refine ⟨_, ?_, i + 1, rfl, by kernel_rfl, (by omega), (fun y_ hy_ => by rw [take_snoc hx] at hy_; rcases List.mem_append.1 hy_ with h1_ | h1_ <;> first | exact hall y_ h1_ | (rw [List.mem_singleton.1 h1_]; exact ⟨hmay1, hbo1.1 (by omega)⟩)), (Mur.sorted_more hsr hx hz (by omega) hls1), (qT ch6 (qT ch5 (qT ch4 (qT ch3 (qT ch2 hX))))), (kA kk6 ch6)⟩
      omega
     rw [decide_eq_false (hls1 : ¬ z.lt x)]
     rintro _ W7 ⟨rfl, ch6⟩
     have zz7 := ch6.size
     have sS6 := kA sS4 ch6
     refine aN sS6<|dW 15 92 vT sS6<|dW 16 93 vT sS6<|dN<|cT<|sR<|rP 0 2 vF<|eN<|tI<|thR<|inR<|thR<|?_
     have hlI_ := hl.len
     refine rt vF ?_
     refine ⟨_, rfl, ⟨fun h_ => (by cases h_), fun h_ => ?_⟩, (kA kk6 ch6)⟩
     exfalso
     obtain ⟨h1_, h2_, h3_, h4_, h5_⟩ := mayM_iff.1 h_
     have h1k_ : ((1 : UInt8).toNat : Int) = 1 := rfl
     have h2k_ : ((2 : UInt8).toNat : Int) = 2 := rfl
     rcases h5_ with ⟨hk_, hi_, hb_⟩ | ⟨hk_, hi_, hso_, hz_, hc_⟩
     ·have hk2_ : (kd.toNat : Int) = _ := congrArg (fun z : UInt8 => (z.toNat : Int)) hk_
      have hi2_ := congrArg List.length hi_
      rw [List.length_nil] at hi2_
      first | omega | cases hb_ | (subst hb_; omega)
     have hk2_ : (kd.toNat : Int) = _ := congrArg (fun z : UInt8 => (z.toNat : Int)) hk_
     exact Mur.not_sorted hx hz (by omega) hls1 hso_
    refine dV 1 78 vF rfl rfl (fun w' hw' => boolF (b := decide ((i : Int) > (0 : Int))) (decide_eq_false (by first | exact hx9 | omega)) (by kernel_rfl)) sS4<|dW 2 79 vF sS4<|dZ 3 80 sS4<|dZ 4 81 sS4<|dZ 5 82 sS4<|dZ 6 83 sS4<|dZ 7 84 sS4<|dZ 8 85 sS4<|dZ 9 86 sS4<|dZ 10 87 sS4<|dZ 11 88 sS4<|dZ 12 89 sS4<|dZ 13 90 sS4<|dZ 14 91 sS4<|dZ 15 92 sS4<|dW 16 93 vF sS4<|dN<|cF<|wp_skip<|inN<|nxt<|reg<|rP 0 55 (vI i)<|rI 1 56 ((i : Int) + 1) (((i + 1 : Nat) : Int))<|rP 2 3 (vI (i + 1 : Nat))<|eN<|?_
    refine ⟨_, ?_, i + 1, rfl, by kernel_rfl, (by omega), (fun y_ hy_ => by rw [take_snoc hx] at hy_; rcases List.mem_append.1 hy_ with h1_ | h1_ <;> first | exact hall y_ h1_ | (rw [List.mem_singleton.1 h1_]; exact ⟨hmay1, hbo1.1 (by omega)⟩)), (by have h0_ : i = 0 := (by omega); subst h0_; exact Mur.sorted_one hx), (qT ch5 (qT ch4 (qT ch3 (qT ch2 hX)))), (kA (kA kk3 ch4) ch5)⟩
    omega
   have hmay1u : ¬ (1 ≤ x.n ∧ x.n ≤ 5000) := hmay1
   refine (Rmay_any x.k x.r x.t x.n x.hk x.hr x.ht W3).mono ?_
   rw [decide_eq_false (hmay1 : ¬ Mur.may x.n)]
   rintro _ W4 ⟨rfl, ch3⟩
   have zz8 := ch3.size
   have sS7 := kA sS1 ch3
   refine ⟨_, rfl, sS7, ?_⟩
   refine dW 6 63 vT sS7<|dW 7 64 vT sS7<|dZ 8 65 sS7<|dZ 9 66 sS7<|dZ 10 67 sS7<|dZ 11 68 sS7<|dZ 12 69 sS7<|dZ 13 70 sS7<|dZ 14 71 sS7<|dZ 15 72 sS7<|dZ 16 73 sS7<|dZ 17 74 sS7<|dZ 18 75 sS7<|dW 19 76 vT sS7<|dN<|cT<|sR<|rP 0 2 vF<|eN<|tR<|inR<|thR<|thR<|inR<|thR<|?_
   have hlI_ := hl.len
   refine rt vF ?_
   refine ⟨_, rfl, ⟨fun h_ => (by cases h_), fun h_ => ?_⟩, (kA kk2 ch3)⟩
   exfalso
   obtain ⟨h1_, h2_, h3_, h4_, h5_⟩ := mayM_iff.1 h_
   have h1k_ : ((1 : UInt8).toNat : Int) = 1 := rfl
   have h2k_ : ((2 : UInt8).toNat : Int) = 2 := rfl
   rcases h5_ with ⟨hk_, hi_, hb_⟩ | ⟨hk_, hi_, hso_, hz_, hc_⟩
   ·have hk2_ : (kd.toNat : Int) = _ := congrArg (fun z : UInt8 => (z.toNat : Int)) hk_
    have hi2_ := congrArg List.length hi_
    rw [List.length_nil] at hi2_
    first | omega | cases hb_ | (subst hb_; omega)
   have hk2_ : (kd.toNat : Int) = _ := congrArg (fun z : UInt8 => (z.toNat : Int)) hk_
   exact hmay1 (hi_ x (List.mem_of_getElem? hx)).1
  rw [List.take_of_length_le (show I.length ≤ i by omega)] at hall hsr
  refine wp_seq<|sR<|rP 0 50 (vI i)<|rP 1 51 (pw w 35)<|rq 2 52 _ rfl (ld 29 51 w.heap.size 35 (.slice A n c) (show World.cell? _ ⟨_, 0 + 35, _⟩ = _ from msg_items hs (range_row hX)))<|rP 3 53 (vI n)<|bF 4 54 ((i : Int) < (n : Int))<|eN<|cF<|xX<|nxt<|sR<|rP 0 2 vT<|eN<|wp_ret<|?_
  have hlI_ := hl.len
  exact rt vT (yesB (mayM_iff.2 ⟨hpreT_, by omega, by omega, by omega, .inr ⟨u8_cast_inj (by have h_ : ((2 : UInt8).toNat : Int) = 2 := rfl; omega), hall, hsr, hpr1, by omega⟩⟩) HB)
 refine rq 7 43 _ rfl (nqT hpr1 (run_neq_dg digT s z32 hs rfl _ (.tmp 41) (.tmp 42) 28 rfl (by kernel_rfl) (by kernel_rfl)))<|rP 8 44 vT<|rP 9 45 vT<|rZ 10 46<|rZ 11 47<|rZ 12 48<|rP 13 49 vT<|eN<|cT<|sR<|rP 0 2 vF<|eN<|tR<|?_
 have hlI_ := hl.len
 refine rt vF ?_
 refine ⟨_, rfl, ⟨fun h_ => (by cases h_), fun h_ => ?_⟩, kk1⟩
 exfalso
 obtain ⟨h1_, h2_, h3_, h4_, h5_⟩ := mayM_iff.1 h_
 have h1k_ : ((1 : UInt8).toNat : Int) = 1 := rfl
 have h2k_ : ((2 : UInt8).toNat : Int) = 2 := rfl
 rcases h5_ with ⟨hk_, hi_, hb_⟩ | ⟨hk_, hi_, hso_, hz_, hc_⟩
 ·have hk2_ : (kd.toNat : Int) = _ := congrArg (fun z : UInt8 => (z.toNat : Int)) hk_
  have hi2_ := congrArg List.length hi_
  rw [List.length_nil] at hi2_
  first | omega | cases hb_ | (subst hb_; omega)
 have hk2_ : (kd.toNat : Int) = _ := congrArg (fun z : UInt8 => (z.toNat : Int)) hk_
 exact hpr1 hz_
end Go.Proofs.YtgbadghjnpbiaaaGreatDoor
