/- What the row rests on, part 16. -/
import Derived.Test.YtgbadghjnpbiaaaDoorRO6
import Derived.Test.YtgbadghjnpbiaaaDoorRO14
import Derived.Test.YtgbadghjnpbiaaaDoorRO15
namespace Go.Proofs.YtgbadghjnpbiaaaDoor
open Go.RowKit Wk
open Mur (b8s Byt Own8 Seg Segs flat cutA attC Att SlA OwnA rowA msgC frmP zs0 frmL sl0 z32 run_built frmL_size frmL_sz frmL_all hmac_length byt_row lies_none want_in bytesFM want_bytes want_read clm_read headM frmIn_head run_str byt_chg)
set_option maxRecDepth 100000
set_option maxHeartbeats 4000000
theorem Want_any (b : Int) (w : World) : Calls Tryd.prog 14 #[.int .i64 b] w fun e w' => e = .returned (.agg (frmP (Mur.wantM b) zs0).flatten.toArray) ∧ Chg [] w w' := by
 refine calls_of_wp Tryd.func14 rfl ?_
 refine wp_seq (reg ?_)
 refine rX 0 2 rfl rfl (new_ex (pt w.heap.size 0) ((frmh 0 0 0).flatten.toArray) 39 (by kernel_rfl)) ?_
 rintro _ W1 ⟨rfl, hb1, ch1, sz1⟩
 have zz1 := ch1.size
 refine rEnd 1 rfl (nxt (wp_seq (reg ?_)))
 refine rP 0 3 (.int .i64 b) rfl rfl ?_
 refine rQ 1 4 (.agg ((frmL 5 1 b 0 0 0 0 sl0 0 sl0 z32 0 sl0 false z32 0 0 0 false z32 z32 0 z32 z32 3 sl0 sl0).flatten.toArray)) rfl rfl (run_built 39 _ rfl [(0, .int .u8 5), (1, .int .i64 1), (2, .int .i64 b), (8, .int .i64 3)] (by kernel_rfl) _ (built_want b)) ?_
 refine rY 2 rfl rfl (Mur.storeArr 39 (.tmp 2) (.tmp 4) rfl w.heap.size (by kernel_rfl) (frmL 5 1 b 0 0 0 0 sl0 0 sl0 z32 0 sl0 false z32 0 0 0 false z32 z32 0 z32 z32 3 sl0 sl0).flatten.toArray 213 (frmL_size (frmL_sz rfl rfl rfl rfl rfl rfl)) frmL_all (by kernel_rfl) (by kernel_rfl) 39 ((frmh 0 0 0).flatten.toArray) hb1 (frmL_size (frmL_sz rfl rfl rfl rfl rfl rfl))) ?_
 rintro W2 ⟨hb2, ch2⟩
 have zz2 := ch2.size
 refine rEnd 3 rfl (nxt (wp_ret ?_))
 have kk1 : Chg [] w W1 := Chg.step ((Chg.refl _).more (by simp)) ch1 trivial
 have kk2 := Chg.step kk1 ch2 ⟨.inr (by omega), trivial⟩
 refine Wk.ret (.agg (frmL 5 1 b 0 0 0 0 sl0 0 sl0 z32 0 sl0 false z32 0 0 0 false z32 z32 0 z32 z32 3 sl0 sl0).flatten.toArray) rfl (results_cell_row rfl _ _ w.heap.size 39 (frmL 5 1 b 0 0 0 0 sl0 0 sl0 z32 0 sl0 false z32 0 0 0 false z32 z32 0 z32 z32 3 sl0 sl0).flatten.toArray (0, 0) _ (by kernel_rfl) hb2 Tryd.underlying39 rfl (by rw [(frmL_size (frmL_sz rfl rfl rfl rfl rfl rfl))]; kernel_rfl)) ?_
 exact ⟨rfl, kk2⟩
theorem Known25_any (w : World) (hv : ShaVars w) : Calls Tryd.prog 6 #[] w fun e w' => e = .returned (.bool true) ∧ Chg [] w w' := by
 have HV := Go.Lib.hid hv
 clear hv
 have hml_ : Go.maxLen = 9223372036854775807 := rfl
 obtain ⟨Ts, hTs⟩ : ∃ T : List UInt8 → List UInt8, ∀ x, T x = Mur.hmac [115] (18 :: x) := ⟨_, fun _ => rfl⟩
 have hTsl : ∀ x, (Ts x).length = 32 := fun x => by rw [hTs]; exact hmac_length _ _
 obtain ⟨Tt, hTt⟩ : ∃ T : List UInt8 → List UInt8, ∀ x, T x = Mur.hmac [116] (18 :: x) := ⟨_, fun _ => rfl⟩
 have hTtl : ∀ x, (Tt x).length = 32 := fun x => by rw [hTt]; exact hmac_length _ _
 refine calls_of_wp Tryd.func6 rfl ?_
 refine wp_seq (reg ?_)
 refine rP 0 0 (.bool false) rfl rfl ?_
 refine rEnd 1 rfl (nxt (wp_seq (reg ?_)))
 refine rX 0 13 rfl rfl (new_ex (.slice (some ⟨w.heap.size, 0, none⟩) 1 1) #[.int .u8 115] 5 (by kernel_rfl)) ?_
 rintro _ W1 ⟨rfl, hb1, ch1, sz1⟩
 have zz1 := ch1.size
 refine rX 1 14 rfl rfl (Mur.run_mark 22 (.tmp 13) 5 rfl Tryd.underlying22 Tryd.underlying5 w.heap.size 1 1 #[.int .u8 115] (by kernel_rfl) hb1) ?_
 rintro _ W2 ⟨rfl, hb2, ch2⟩
 have zz2 := ch2.size
 refine rC 2 15 14 [.const (.int .i64 2)] #[3] [.int .i64 2] rfl rfl rfl ?_
 refine (Want_any 2 W2).mono ?_
 rintro _ W3 ⟨rfl, ch3⟩
 have zz3 := ch3.size
 refine ⟨_, rfl, ?_⟩
 refine rC 3 16 8 [.tmp 14, .tmp 15] #[22, 39] [.slice (some ⟨w.heap.size, 0, none⟩) 1 1, .agg ((frmP (Mur.wantM 2) zs0).flatten.toArray)] rfl rfl rfl ?_
 have kk1 : Chg [] w W1 := Chg.step ((Chg.refl _).more (by simp)) ch1 trivial
 have kk2 := Chg.step kk1 ch2 ⟨.inr (by omega), trivial⟩
 have kk3 := Chg.step kk2 ch3 trivial
 refine (BytesF_any ([115]) (some ⟨w.heap.size, 0, none⟩) 1 1 Ts (Mur.wantM 2) zs0 W3 (HV.out.below (Chg.below0 kk3)) (byt_row [115] (Chg.hp ch3 hb2 trivial)) ⟨by omega, by omega⟩ (fun h => by cases h) (by omega) hTs hTsl (lies_none rfl rfl rfl rfl rfl) (want_in 2 (by omega))).mono ?_
 rintro _ W4 ⟨AA1, nn1, cc1, er1, rfl, hc1, ch4⟩
 have zz4 := ch4.size
 rcases hc1 with ⟨hmy1, rfl, ow1⟩ | ⟨hmy1, rfl, rfl, rfl, rfl⟩
 ·have hq1 := ow1.nc
  have hq2 := ow1.cm
  have hq3 := ow1.byt.1
  have hlb1 : (bytesFM Ts (Mur.wantM 2)).length = 40 := (congrArg List.length (want_bytes Ts)).trans rfl
  refine ⟨_, rfl, ?_⟩
  refine rP 4 12 (.tuple #[.slice AA1 nn1 cc1, .int .i64 0]) rfl rfl ?_
  refine rP 5 17 (.slice AA1 nn1 cc1) rfl rfl ?_
  refine rP 6 18 (.int .i64 0) rfl rfl ?_
  refine rP 7 1 (.slice AA1 nn1 cc1) rfl rfl ?_
  refine rP 8 2 (.int .i64 0) rfl rfl ?_
  refine rEnd 9 rfl (nxt (wp_seq (reg ?_)))
  refine rX 0 20 rfl rfl (new_ex (.slice (some ⟨W4.heap.size, 0, none⟩) 1 1) #[.int .u8 115] 5 (by kernel_rfl)) ?_
  rintro _ W5 ⟨rfl, hb3, ch5, sz2⟩
  have zz5 := ch5.size
  refine rX 1 21 rfl rfl (Mur.run_mark 22 (.tmp 20) 5 rfl Tryd.underlying22 Tryd.underlying5 W4.heap.size 1 1 #[.int .u8 115] (by kernel_rfl) hb3) ?_
  rintro _ W6 ⟨rfl, hb4, ch6⟩
  have zz6 := ch6.size
  refine rC 2 22 14 [.const (.int .i64 1)] #[3] [.int .i64 1] rfl rfl rfl ?_
  refine (Want_any 1 W6).mono ?_
  rintro _ W7 ⟨rfl, ch7⟩
  have zz7 := ch7.size
  refine ⟨_, rfl, ?_⟩
  refine rC 3 23 8 [.tmp 21, .tmp 22] #[22, 39] [.slice (some ⟨W4.heap.size, 0, none⟩) 1 1, .agg ((frmP (Mur.wantM 1) zs0).flatten.toArray)] rfl rfl rfl ?_
  have kk4 := Chg.step kk3 ch4 trivial
  have kk5 := Chg.step kk4 ch5 trivial
  have kk6 := Chg.step kk5 ch6 ⟨.inr (by omega), trivial⟩
  have kk7 := Chg.step kk6 ch7 trivial
  refine (BytesF_any ([115]) (some ⟨W4.heap.size, 0, none⟩) 1 1 Ts (Mur.wantM 1) zs0 W7 (HV.out.below (Chg.below0 kk7)) (byt_row [115] (Chg.hp ch7 hb4 trivial)) ⟨by omega, by omega⟩ (fun h => by cases h) (by omega) hTs hTsl (lies_none rfl rfl rfl rfl rfl) (want_in 1 (by omega))).mono ?_
  rintro _ W8 ⟨AA2, nn2, cc2, er2, rfl, hc2, ch8⟩
  have zz8 := ch8.size
  rcases hc2 with ⟨hmy2, rfl, ow2⟩ | ⟨hmy2, rfl, rfl, rfl, rfl⟩
  ·exact absurd hmy2 Mur.want_no
  refine ⟨_, rfl, ?_⟩
  refine rP 4 19 (.tuple #[.slice none 0 0, .int .i64 2]) rfl rfl ?_
  refine rP 5 24 (.slice none 0 0) rfl rfl ?_
  refine rP 6 25 (.int .i64 2) rfl rfl ?_
  refine rP 7 3 (.slice none 0 0) rfl rfl ?_
  refine rP 8 4 (.int .i64 2) rfl rfl ?_
  refine rEnd 9 rfl (nxt (wp_seq (reg ?_)))
  refine rX 0 27 rfl rfl (new_ex (.slice (some ⟨W8.heap.size, 0, none⟩) 1 1) #[.int .u8 116] 5 (by kernel_rfl)) ?_
  rintro _ W10 ⟨rfl, hb5, ch9, sz3⟩
  have zz9 := ch9.size
  refine rX 1 28 rfl rfl (Mur.run_mark 22 (.tmp 27) 5 rfl Tryd.underlying22 Tryd.underlying5 W8.heap.size 1 1 #[.int .u8 116] (by kernel_rfl) hb5) ?_
  rintro _ W11 ⟨rfl, hb6, ch10⟩
  have zz10 := ch10.size
  refine rP 2 29 (.slice AA1 nn1 cc1) rfl rfl ?_
  refine rC 3 30 7 [.tmp 28, .tmp 29] #[22, 22] [.slice (some ⟨W8.heap.size, 0, none⟩) 1 1, .slice AA1 nn1 cc1] rfl rfl rfl ?_
  have ow3 := Mur.own8 (own_chg ow1.own ch5 (fun q e _ _ => trivial))
  have ow4 := Mur.own8 (own_chg ow3.own ch6 (fun q e _ _ => ⟨by have := ow1.lt q e; omega, trivial⟩))
  have ow5 := Mur.own8 (own_chg ow4.own ch7 (fun q e _ _ => trivial))
  have ow6 := Mur.own8 (own_chg ow5.own ch8 (fun q e _ _ => trivial))
  have ow7 := Mur.own8 (own_chg ow6.own ch9 (fun q e _ _ => trivial))
  have ow8 := Mur.own8 (own_chg ow7.own ch10 (fun q e _ _ => ⟨by have := ow1.lt q e; omega, trivial⟩))
  have kk8 := Chg.step kk7 ch8 trivial
  have kk9 := Chg.step kk8 ch9 trivial
  have kk10 := Chg.step kk9 ch10 ⟨.inr (by omega), trivial⟩
  refine (ReadF_any ([116]) (some ⟨W8.heap.size, 0, none⟩) 1 1 Tt (bytesFM Ts (Mur.wantM 2)) AA1 nn1 cc1 W11 (HV.out.below (Chg.below0 kk10)) (byt_row [116] hb6) ⟨by omega, by omega⟩ (fun h => by cases h) (by omega) hTt hTtl ow8.byt ⟨by omega, by omega⟩ ow8.nil).mono ?_
  rintro _ W12 ⟨FF1, ZZ1, er3, rfl, hLs1, hZin1, hc3, ch11⟩
  have zz11 := ch11.size
  rcases hc3 with ⟨rfl, htd1, hIn1⟩ | ⟨rfl, htd1, rfl⟩ | ⟨rfl, htd1, rfl⟩ | ⟨rfl, htd1, rfl⟩
  ·obtain rfl : FF1 = Mur.wantM 2 := by have h_ := htd1.symm.trans (want_read Ts Tt hTsl); injection h_
   refine ⟨_, rfl, ?_⟩
   refine rP 4 26 (.tuple #[.agg ((frmP (Mur.wantM 2) ZZ1).flatten.toArray), .int .i64 0]) rfl rfl ?_
   refine rP 5 31 (.agg ((frmP (Mur.wantM 2) ZZ1).flatten.toArray)) rfl rfl ?_
   refine rP 6 32 (.int .i64 0) rfl rfl ?_
   refine rX 7 5 rfl rfl (new_ex (pt W12.heap.size 0) ((frmh 0 0 0).flatten.toArray) 39 (by kernel_rfl)) ?_
   rintro _ W13 ⟨rfl, hb7, ch12, sz4⟩
   have zz12 := ch12.size
   refine rY 8 rfl rfl (Mur.storeArr 39 (.tmp 5) (.tmp 31) rfl W12.heap.size (by kernel_rfl) (frmP (Mur.wantM 2) ZZ1).flatten.toArray 213 (frmL_size (frmL_sz (want_in 2 (by omega)).ok.sum (want_in 2 (by omega)).ok.key (Mur.wantM 2).att.hk (Mur.wantM 2).att.hr (Mur.wantM 2).att.ht (want_in 2 (by omega)).ok.root)) frmL_all (by kernel_rfl) (by kernel_rfl) 39 ((frmh 0 0 0).flatten.toArray) hb7 (frmL_size (frmL_sz rfl rfl rfl rfl rfl rfl))) ?_
   rintro W14 ⟨hb8, ch13⟩
   have zz13 := ch13.size
   refine rP 9 6 (.int .i64 0) rfl rfl ?_
   refine rEnd 10 rfl (nxt (wp_seq (reg ?_)))
   refine rQ 0 33 (.agg ((Mur.claimC z32 1 0 0 false).toArray)) rfl rfl (run_built 34 _ rfl [(1, .int .i64 1)] (by kernel_rfl) _ built_claim1) ?_
   refine rQ 1 34 (.agg ((frmL 3 1 2 0 0 0 0 sl0 0 sl0 z32 0 sl0 false z32 1 0 0 false z32 z32 0 z32 z32 0 sl0 sl0).flatten.toArray)) rfl rfl (run_built 39 _ rfl [(0, .int .u8 3), (1, .int .i64 1), (2, .int .i64 2), (5, .agg ((Mur.claimC z32 1 0 0 false).toArray))] (by kernel_rfl) _ built_frmc) ?_
   refine rX 2 7 rfl rfl (new_ex (pt W14.heap.size 0) ((frmh 0 0 0).flatten.toArray) 39 (by kernel_rfl)) ?_
   rintro _ W15 ⟨rfl, hb9, ch14, sz5⟩
   have zz14 := ch14.size
   refine rY 3 rfl rfl (Mur.storeArr 39 (.tmp 7) (.tmp 34) rfl W14.heap.size (by kernel_rfl) (frmL 3 1 2 0 0 0 0 sl0 0 sl0 z32 0 sl0 false z32 1 0 0 false z32 z32 0 z32 z32 0 sl0 sl0).flatten.toArray 213 (frmL_size (frmL_sz rfl rfl rfl rfl rfl rfl)) frmL_all (by kernel_rfl) (by kernel_rfl) 39 ((frmh 0 0 0).flatten.toArray) hb9 (frmL_size (frmL_sz rfl rfl rfl rfl rfl rfl))) ?_
   rintro W16 ⟨hb10, ch15⟩
   have zz15 := ch15.size
   refine rEnd 4 rfl (nxt (wp_seq (reg ?_)))
   refine rX 0 36 rfl rfl (new_ex (.slice (some ⟨W16.heap.size, 0, none⟩) 1 1) #[.int .u8 115] 5 (by kernel_rfl)) ?_
   rintro _ W17 ⟨rfl, hb11, ch16, sz6⟩
   have zz16 := ch16.size
   refine rX 1 37 rfl rfl (Mur.run_mark 22 (.tmp 36) 5 rfl Tryd.underlying22 Tryd.underlying5 W16.heap.size 1 1 #[.int .u8 115] (by kernel_rfl) hb11) ?_
   rintro _ W18 ⟨rfl, hb12, ch17⟩
   have zz17 := ch17.size
   refine rQ 2 38 (.agg ((frmL 3 1 2 0 0 0 0 sl0 0 sl0 z32 0 sl0 false z32 1 0 0 false z32 z32 0 z32 z32 0 sl0 sl0).flatten.toArray)) rfl rfl (Mur.loadArr 39 (.tmp 7) rfl _ Tryd.underlying39 rfl W14.heap.size (by kernel_rfl) (frmL 3 1 2 0 0 0 0 sl0 0 sl0 z32 0 sl0 false z32 1 0 0 false z32 z32 0 z32 z32 0 sl0 sl0).flatten.toArray 213 (frmL_size (frmL_sz rfl rfl rfl rfl rfl rfl)) (by kernel_rfl) 39 (0, 0) (Chg.hp ch17 (Chg.hp ch16 hb10 trivial) ⟨by omega, trivial⟩)) ?_
   refine rC 3 39 8 [.tmp 37, .tmp 38] #[22, 39] [.slice (some ⟨W16.heap.size, 0, none⟩) 1 1, .agg ((frmL 3 1 2 0 0 0 0 sl0 0 sl0 z32 0 sl0 false z32 1 0 0 false z32 z32 0 z32 z32 0 sl0 sl0).flatten.toArray)] rfl rfl rfl ?_
   have kk11 := Chg.step kk10 ch11 trivial
   have kk12 := Chg.step kk11 ch12 trivial
   have kk13 := Chg.step kk12 ch13 ⟨.inr (by omega), trivial⟩
   have kk14 := Chg.step kk13 ch14 trivial
   have kk15 := Chg.step kk14 ch15 ⟨.inr (by omega), trivial⟩
   have kk16 := Chg.step kk15 ch16 trivial
   have kk17 := Chg.step kk16 ch17 ⟨.inr (by omega), trivial⟩
   refine (BytesF_any ([115]) (some ⟨W16.heap.size, 0, none⟩) 1 1 Ts Mur.clmM zs0 W18 (HV.out.below (Chg.below0 kk17)) (byt_row [115] hb12) ⟨by omega, by omega⟩ (fun h => by cases h) (by omega) hTs hTsl (lies_none rfl rfl rfl rfl rfl) Mur.clm_in).mono ?_
   rintro _ W19 ⟨AA3, nn3, cc3, er4, rfl, hc4, ch18⟩
   have zz18 := ch18.size
   rcases hc4 with ⟨hmy3, rfl, ow9⟩ | ⟨hmy3, rfl, rfl, rfl, rfl⟩
   ·have hq4 := ow9.nc
    have hq5 := ow9.cm
    have hq6 := ow9.byt.1
    have hlb2 : (bytesFM Ts Mur.clmM).length = 73 := Mur.clm_len Ts hTsl
    refine ⟨_, rfl, ?_⟩
    refine rP 4 35 (.tuple #[.slice AA3 nn3 cc3, .int .i64 0]) rfl rfl ?_
    refine rP 5 40 (.slice AA3 nn3 cc3) rfl rfl ?_
    refine rP 6 41 (.int .i64 0) rfl rfl ?_
    refine rP 7 8 (.slice AA3 nn3 cc3) rfl rfl ?_
    refine rP 8 9 (.int .i64 0) rfl rfl ?_
    refine rEnd 9 rfl (nxt (wp_seq (reg ?_)))
    refine rX 0 43 rfl rfl (new_ex (.slice (some ⟨W19.heap.size, 0, none⟩) 1 1) #[.int .u8 116] 5 (by kernel_rfl)) ?_
    rintro _ W20 ⟨rfl, hb13, ch19, sz7⟩
    have zz19 := ch19.size
    refine rX 1 44 rfl rfl (Mur.run_mark 22 (.tmp 43) 5 rfl Tryd.underlying22 Tryd.underlying5 W19.heap.size 1 1 #[.int .u8 116] (by kernel_rfl) hb13) ?_
    rintro _ W21 ⟨rfl, hb14, ch20⟩
    have zz20 := ch20.size
    refine rP 2 45 (.slice AA3 nn3 cc3) rfl rfl ?_
    refine rC 3 46 7 [.tmp 44, .tmp 45] #[22, 22] [.slice (some ⟨W19.heap.size, 0, none⟩) 1 1, .slice AA3 nn3 cc3] rfl rfl rfl ?_
    have ow10 := Mur.own8 (own_chg ow9.own ch19 (fun q e _ _ => trivial))
    have ow11 := Mur.own8 (own_chg ow10.own ch20 (fun q e _ _ => ⟨by have := ow9.lt q e; omega, trivial⟩))
    have kk18 := Chg.step kk17 ch18 trivial
    have kk19 := Chg.step kk18 ch19 trivial
    have kk20 := Chg.step kk19 ch20 ⟨.inr (by omega), trivial⟩
    refine (ReadF_any ([116]) (some ⟨W19.heap.size, 0, none⟩) 1 1 Tt (bytesFM Ts Mur.clmM) AA3 nn3 cc3 W21 (HV.out.below (Chg.below0 kk20)) (byt_row [116] hb14) ⟨by omega, by omega⟩ (fun h => by cases h) (by omega) hTt hTtl ow11.byt ⟨by omega, by omega⟩ ow11.nil).mono ?_
    rintro _ W22 ⟨FF2, ZZ2, er5, rfl, hLs2, hZin2, hc5, ch21⟩
    have zz21 := ch21.size
    rcases hc5 with ⟨rfl, htd2, hIn2⟩ | ⟨rfl, htd2, rfl⟩ | ⟨rfl, htd2, rfl⟩ | ⟨rfl, htd2, rfl⟩
    ·exact absurd (htd2.symm.trans (clm_read Ts Tt hTs hTt hTsl)) (by intro h_; cases h_)
    ·exact absurd (htd2.symm.trans (clm_read Ts Tt hTs hTt hTsl)) (by intro h_; cases h_)
    ·exact absurd (htd2.symm.trans (clm_read Ts Tt hTs hTt hTsl)) (by intro h_; cases h_)
    refine ⟨_, rfl, ?_⟩
    refine rP 4 42 (.tuple #[.agg ((frmP (headM 0 0 0) ZZ2).flatten.toArray), .int .i64 250]) rfl rfl ?_
    refine rP 5 47 (.agg ((frmP (headM 0 0 0) ZZ2).flatten.toArray)) rfl rfl ?_
    refine rP 6 48 (.int .i64 250) rfl rfl ?_
    refine rX 7 10 rfl rfl (new_ex (pt W22.heap.size 0) ((frmh 0 0 0).flatten.toArray) 39 (by kernel_rfl)) ?_
    rintro _ W23 ⟨rfl, hb15, ch22, sz8⟩
    have zz22 := ch22.size
    refine rY 8 rfl rfl (Mur.storeArr 39 (.tmp 10) (.tmp 47) rfl W22.heap.size (by kernel_rfl) (frmP (headM 0 0 0) ZZ2).flatten.toArray 213 (frmL_size (frmL_sz (frmIn_head 0 (by decide) (by decide)).ok.sum (frmIn_head 0 (by decide) (by decide)).ok.key (headM 0 0 0).att.hk (headM 0 0 0).att.hr (headM 0 0 0).att.ht (frmIn_head 0 (by decide) (by decide)).ok.root)) frmL_all (by kernel_rfl) (by kernel_rfl) 39 ((frmh 0 0 0).flatten.toArray) hb15 (frmL_size (frmL_sz rfl rfl rfl rfl rfl rfl))) ?_
    rintro W24 ⟨hb16, ch23⟩
    have zz23 := ch23.size
    refine rP 9 11 (.int .i64 250) rfl rfl ?_
    refine rEnd 10 rfl (nxt (wp_seq ?_))
    refine dReg ([]) (by kernel_rfl) ?_
    intro W25 ch24 sz9
    have zz24 := ch24.size
    have sS1 : Chg ([]) W25 W25 := (Chg.refl _).more (by simp)
    refine dV 0 49 (.int .i64 0) rfl rfl (fun _ _ => by kernel_rfl) sS1 ?_
    refine dV 1 50 (.bool true) rfl rfl (fun w' hw' => (boolT (b := ((0 : Int) == (0 : Int))) (beq_iff_eq.2 (by decide)) (by kernel_rfl))) sS1 ?_
    refine dV 2 51 (.bool true) rfl rfl (fun _ _ => by kernel_rfl) sS1 ?_
    refine dV 3 52 (.int .i64 2) rfl rfl (fun _ _ => by kernel_rfl) sS1 ?_
    refine dV 4 53 (.bool true) rfl rfl (fun w' hw' => (boolT (b := ((2 : Int) == (2 : Int))) (beq_iff_eq.2 (by decide)) (by kernel_rfl))) sS1 ?_
    refine dV 5 54 (.bool true) rfl rfl (fun _ _ => by kernel_rfl) sS1 ?_
    refine dV 6 55 (.bool true) rfl rfl (fun _ _ => by kernel_rfl) sS1 ?_
    refine dV 7 56 (.slice AA1 nn1 cc1) rfl rfl (fun _ _ => by kernel_rfl) sS1 ?_
    refine dV 8 57 (.string (Mur.str (bytesFM Ts (Mur.wantM 2)))) rfl rfl (fun w' hw' => (run_str 22 9 (.tmp 56) 5 rfl Tryd.underlying22 Tryd.underlying5 Tryd.underlying9 AA1 nn1 cc1 (bytesFM Ts (Mur.wantM 2)) (by kernel_rfl) (byt_chg (byt_chg (byt_chg (byt_chg (byt_chg (byt_chg (byt_chg (byt_chg (byt_chg (byt_chg (byt_chg (byt_chg (byt_chg (byt_chg (byt_chg ow8.byt ch11 (fun g off e hl => trivial)) ch12 (fun g off e hl => trivial)) ch13 (fun g off e hl => ⟨by have := ow8.at_ g off e; omega, trivial⟩)) ch14 (fun g off e hl => trivial)) ch15 (fun g off e hl => ⟨by have := ow8.at_ g off e; omega, trivial⟩)) ch16 (fun g off e hl => trivial)) ch17 (fun g off e hl => ⟨by have := ow8.at_ g off e; omega, trivial⟩)) ch18 (fun g off e hl => trivial)) ch19 (fun g off e hl => trivial)) ch20 (fun g off e hl => ⟨by have := ow8.at_ g off e; omega, trivial⟩)) ch21 (fun g off e hl => trivial)) ch22 (fun g off e hl => trivial)) ch23 (fun g off e hl => ⟨by have := ow8.at_ g off e; omega, trivial⟩)) ch24 (fun g off e hl => trivial)) hw' (fun g off e hl => trivial)))) sS1 ?_
    refine dOp 9 (by kernel_rfl) ?_
    refine oEx (some 58) _ rfl rfl (by kernel_rfl) (new_ex (.slice (some ⟨W25.heap.size, 0, none⟩) 32 32) Z32 5 (by kernel_rfl)) ?_
    rintro _ W26 ⟨rfl, hb17, ch25, sz10⟩
    have zz25 := ch25.size
    have sS2 := Chg.step sS1 ch25 trivial
    refine ⟨sS2, ?_⟩
    refine dOp 10 (by kernel_rfl) ?_
    refine Wk.oVal (some 59) (.string (Mur.str ([0, 0, 0, 0, 0, 0, 0, 0, 0, 0, 0, 0, 0, 0, 0, 0, 0, 0, 0, 0, 0, 0, 0, 0, 0, 0, 0, 0, 0, 0, 0, 0]))) rfl rfl (by kernel_rfl) (run_str 22 9 (.tmp 58) 5 rfl Tryd.underlying22 Tryd.underlying5 Tryd.underlying9 (some ⟨W25.heap.size, 0, none⟩) 32 32 ([0, 0, 0, 0, 0, 0, 0, 0, 0, 0, 0, 0, 0, 0, 0, 0, 0, 0, 0, 0, 0, 0, 0, 0, 0, 0, 0, 0, 0, 0, 0, 0]) (by kernel_rfl) (byt_row [0, 0, 0, 0, 0, 0, 0, 0, 0, 0, 0, 0, 0, 0, 0, 0, 0, 0, 0, 0, 0, 0, 0, 0, 0, 0, 0, 0, 0, 0, 0, 0] hb17)) ?_
    refine ⟨sS2, ?_⟩
    refine dV 11 60 (.string (Mur.str (([1, 5, 1, 1, 1, 2]) ++ ([0, 0, 0, 0, 0, 0, 0, 0, 0, 0, 0, 0, 0, 0, 0, 0, 0, 0, 0, 0, 0, 0, 0, 0, 0, 0, 0, 0, 0, 0, 0, 0])))) rfl rfl (fun w' hw' => (Mur.stradd 9 9 (.const (.string ({ data := #[1, 5, 1, 1, 1, 2] }))) (.tmp 59) rfl ([1, 5, 1, 1, 1, 2]) ([0, 0, 0, 0, 0, 0, 0, 0, 0, 0, 0, 0, 0, 0, 0, 0, 0, 0, 0, 0, 0, 0, 0, 0, 0, 0, 0, 0, 0, 0, 0, 0]) (by kernel_rfl) (by kernel_rfl) (by decide) (by decide))) sS2 ?_
    refine dV 12 61 (.string (Mur.str ((([1, 5, 1, 1, 1, 2]) ++ ([0, 0, 0, 0, 0, 0, 0, 0, 0, 0, 0, 0, 0, 0, 0, 0, 0, 0, 0, 0, 0, 0, 0, 0, 0, 0, 0, 0, 0, 0, 0, 0])) ++ ([1, 3])))) rfl rfl (fun w' hw' => (Mur.stradd 9 9 (.tmp 60) (.const (.string ({ data := #[1, 3] }))) rfl (([1, 5, 1, 1, 1, 2]) ++ ([0, 0, 0, 0, 0, 0, 0, 0, 0, 0, 0, 0, 0, 0, 0, 0, 0, 0, 0, 0, 0, 0, 0, 0, 0, 0, 0, 0, 0, 0, 0, 0])) ([1, 3]) (by kernel_rfl) (by kernel_rfl) (by decide) (by decide))) sS2 ?_
    refine dV 13 62 (.bool true) rfl rfl (fun w' hw' => (boolT (b := decide ((bytesFM Ts (Mur.wantM 2)) = ((([1, 5, 1, 1, 1, 2]) ++ ([0, 0, 0, 0, 0, 0, 0, 0, 0, 0, 0, 0, 0, 0, 0, 0, 0, 0, 0, 0, 0, 0, 0, 0, 0, 0, 0, 0, 0, 0, 0, 0])) ++ ([1, 3])))) (decide_eq_true ((want_bytes Ts).trans rfl)) (Mur.streq 9 9 (.tmp 57) (.tmp 61) rfl (bytesFM Ts (Mur.wantM 2)) ((([1, 5, 1, 1, 1, 2]) ++ ([0, 0, 0, 0, 0, 0, 0, 0, 0, 0, 0, 0, 0, 0, 0, 0, 0, 0, 0, 0, 0, 0, 0, 0, 0, 0, 0, 0, 0, 0, 0, 0])) ++ ([1, 3])) (by kernel_rfl) (by kernel_rfl)))) sS2 ?_
    refine dV 14 63 (.bool true) rfl rfl (fun _ _ => by kernel_rfl) sS2 ?_
    refine dV 15 64 (.bool true) rfl rfl (fun _ _ => by kernel_rfl) sS2 ?_
    refine dV 16 65 (.int .i64 0) rfl rfl (fun _ _ => by kernel_rfl) sS2 ?_
    refine dV 17 66 (.bool true) rfl rfl (fun w' hw' => (boolT (b := ((0 : Int) == (0 : Int))) (beq_iff_eq.2 (by decide)) (by kernel_rfl))) sS2 ?_
    refine dV 18 67 (.bool true) rfl rfl (fun _ _ => by kernel_rfl) sS2 ?_
    refine dV 19 68 (.bool true) rfl rfl (fun _ _ => by kernel_rfl) sS2 ?_
    refine dV 20 69 (.agg ((frmP (Mur.wantM 2) ZZ1).flatten.toArray)) rfl rfl (fun w' hw' => (Mur.loadArr 39 (.tmp 5) rfl _ Tryd.underlying39 rfl W12.heap.size (by kernel_rfl) (frmP (Mur.wantM 2) ZZ1).flatten.toArray 213 (frmL_size (frmL_sz (want_in 2 (by omega)).ok.sum (want_in 2 (by omega)).ok.key (Mur.wantM 2).att.hk (Mur.wantM 2).att.hr (Mur.wantM 2).att.ht (want_in 2 (by omega)).ok.root)) (by kernel_rfl) 39 (0, 0) (Chg.hp hw' (Chg.hp ch24 (Chg.hp ch23 (Chg.hp ch22 (Chg.hp ch21 (Chg.hp ch20 (Chg.hp ch19 (Chg.hp ch18 (Chg.hp ch17 (Chg.hp ch16 (Chg.hp ch15 (Chg.hp ch14 hb8 trivial) ⟨by omega, trivial⟩) trivial) ⟨by omega, trivial⟩) trivial) trivial) ⟨by omega, trivial⟩) trivial) trivial) ⟨by omega, trivial⟩) trivial) trivial))) sS2 ?_
    refine dOp 21 (by kernel_rfl) ?_
    refine oCall (some 70) 14 [.const (.int .i64 2)] #[3] [.int .i64 2] rfl rfl (by kernel_rfl) rfl (by kernel_rfl) (by kernel_rfl) ?_
    refine (Want_any 2 W26).mono ?_
    rintro _ W27 ⟨rfl, ch26⟩
    have zz26 := ch26.size
    have sS3 := Chg.step sS2 ch26 trivial
    refine ⟨_, rfl, sS3, ?_⟩
    refine dOp 22 (by kernel_rfl) ?_
    refine oCall (some 71) 15 [.tmp 69, .tmp 70] #[39, 39] [.agg ((frmP (Mur.wantM 2) ZZ1).flatten.toArray), .agg ((frmP (Mur.wantM 2) zs0).flatten.toArray)] rfl rfl (by kernel_rfl) rfl (by kernel_rfl) (by kernel_rfl) ?_
    have kk21 : Chg [] (W12) W13 := Chg.step ((Chg.refl _).more (by simp)) ch12 trivial
    have kk22 := Chg.step kk21 ch13 ⟨.inr (by omega), trivial⟩
    have kk23 := Chg.step kk22 ch14 trivial
    have kk24 := Chg.step kk23 ch15 ⟨.inr (by omega), trivial⟩
    have kk25 := Chg.step kk24 ch16 trivial
    have kk26 := Chg.step kk25 ch17 ⟨.inr (by omega), trivial⟩
    have kk27 := Chg.step kk26 ch18 trivial
    have kk28 := Chg.step kk27 ch19 trivial
    have kk29 := Chg.step kk28 ch20 ⟨.inr (by omega), trivial⟩
    have kk30 := Chg.step kk29 ch21 trivial
    have kk31 := Chg.step kk30 ch22 trivial
    have kk32 := Chg.step kk31 ch23 ⟨.inr (by omega), trivial⟩
    have kk33 := Chg.step kk32 ch24 trivial
    have kk34 := Chg.step kk33 ch25 trivial
    have kk35 := Chg.step kk34 ch26 trivial
    refine (Same25_any (Mur.wantM 2) ZZ1 (Mur.wantM 2) zs0 W27 (Mur.LiesF.chg hLs1 kk35 ⟨fun _ _ _ _ => trivial, fun _ _ _ _ => trivial, fun _ _ _ _ => trivial, fun _ _ _ _ => trivial, fun _ _ _ _ => trivial⟩) (want_in 2 (by omega)) (lies_none rfl rfl rfl rfl rfl) (want_in 2 (by omega))).mono ?_
    rintro _ W28 ⟨bv1, rfl, hif1, ch27⟩
    have zz27 := ch27.size
    cases bv1
    ·have sS4 := Chg.step sS3 ch27 trivial
     refine ⟨_, rfl, sS4, ?_⟩
     refine dV 23 72 (.bool false) rfl rfl (fun _ _ => by kernel_rfl) sS4 ?_
     refine dV 24 73 (.bool false) rfl rfl (fun _ _ => by kernel_rfl) sS4 ?_
     refine Wk.dPass 25 (some 74) rfl rfl (by kernel_rfl) (by kernel_rfl) (by kernel_rfl) (fun _ _ _ h => h) (by kernel_rfl) sS4 ?_
     refine Wk.dPass 26 (some 75) rfl rfl (by kernel_rfl) (by kernel_rfl) (by kernel_rfl) (fun _ _ _ h => h) (by kernel_rfl) sS4 ?_
     refine dV 27 76 (.bool false) rfl rfl (fun _ _ => by kernel_rfl) sS4 ?_
     refine dV 28 77 (.bool false) rfl rfl (fun _ _ => by kernel_rfl) sS4 ?_
     refine Wk.dPass 29 (some 78) rfl rfl (by kernel_rfl) (by kernel_rfl) (by kernel_rfl) (fun _ _ _ h => h) (by kernel_rfl) sS4 ?_
     refine Wk.dPass 30 (some 79) rfl rfl (by kernel_rfl) (by kernel_rfl) (by kernel_rfl) (fun _ _ _ h => h) (by kernel_rfl) sS4 ?_
     refine Wk.dPass 31 (some 80) rfl rfl (by kernel_rfl) (by kernel_rfl) (by kernel_rfl) (fun _ _ _ h => h) (by kernel_rfl) sS4 ?_
     refine dV 32 81 (.bool false) rfl rfl (fun _ _ => by kernel_rfl) sS4 ?_
     refine dV 33 82 (.bool false) rfl rfl (fun _ _ => by kernel_rfl) sS4 ?_
     refine Wk.dPass 34 (some 83) rfl rfl (by kernel_rfl) (by kernel_rfl) (by kernel_rfl) (fun _ _ _ h => h) (by kernel_rfl) sS4 ?_
     refine Wk.dPass 35 (some 84) rfl rfl (by kernel_rfl) (by kernel_rfl) (by kernel_rfl) (fun _ _ _ h => h) (by kernel_rfl) sS4 ?_
     refine dV 36 85 (.bool false) rfl rfl (fun _ _ => by kernel_rfl) sS4 ?_
     refine dV 37 0 (.bool false) rfl rfl (fun _ _ => by kernel_rfl) sS4 ?_
     refine dEnd (by kernel_rfl) (nxt (wp_ret ?_))
     exact absurd rfl (fun q_ => Bool.noConfusion (hif1.2 q_))
    have sS5 := Chg.step sS3 ch27 trivial
    refine ⟨_, rfl, sS5, ?_⟩
    refine dV 23 72 (.bool true) rfl rfl (fun _ _ => by kernel_rfl) sS5 ?_
    refine dV 24 73 (.bool true) rfl rfl (fun _ _ => by kernel_rfl) sS5 ?_
    refine dV 25 74 (.int .i64 0) rfl rfl (fun _ _ => by kernel_rfl) sS5 ?_
    refine dV 26 75 (.bool true) rfl rfl (fun w' hw' => (boolT (b := ((0 : Int) == (0 : Int))) (beq_iff_eq.2 (by decide)) (by kernel_rfl))) sS5 ?_
    refine dV 27 76 (.bool true) rfl rfl (fun _ _ => by kernel_rfl) sS5 ?_
    refine dV 28 77 (.bool true) rfl rfl (fun _ _ => by kernel_rfl) sS5 ?_
    refine dV 29 78 (.slice AA3 nn3 cc3) rfl rfl (fun _ _ => by kernel_rfl) sS5 ?_
    refine dV 30 79 (.int .i64 ((nn3 : Nat) : Int)) rfl rfl (fun _ _ => by kernel_rfl) sS5 ?_
    refine dV 31 80 (.bool true) rfl rfl (fun w' hw' => (boolT (b := (((nn3 : Nat) : Int) == (73 : Int))) (beq_iff_eq.2 (by omega)) (by kernel_rfl))) sS5 ?_
    refine dV 32 81 (.bool true) rfl rfl (fun _ _ => by kernel_rfl) sS5 ?_
    refine dV 33 82 (.bool true) rfl rfl (fun _ _ => by kernel_rfl) sS5 ?_
    refine dV 34 83 (.int .i64 250) rfl rfl (fun _ _ => by kernel_rfl) sS5 ?_
    refine dV 35 84 (.bool true) rfl rfl (fun w' hw' => (boolT (b := ((250 : Int) == (250 : Int))) (beq_iff_eq.2 (by decide)) (by kernel_rfl))) sS5 ?_
    refine dV 36 85 (.bool true) rfl rfl (fun _ _ => by kernel_rfl) sS5 ?_
    refine dV 37 0 (.bool true) rfl rfl (fun _ _ => by kernel_rfl) sS5 ?_
    refine dEnd (by kernel_rfl) (nxt (wp_ret ?_))
    have kk36 := Chg.step kk20 ch21 trivial
    have kk37 := Chg.step kk36 ch22 trivial
    have kk38 := Chg.step kk37 ch23 ⟨.inr (by omega), trivial⟩
    have kk39 := Chg.step kk38 ch24 trivial
    have kk40 := Chg.step kk39 ch25 trivial
    have kk41 := Chg.step kk40 ch26 trivial
    have kk42 := Chg.step kk41 ch27 trivial
    refine Wk.ret (.bool true) rfl (by kernel_rfl) ?_
    exact ⟨rfl, kk42⟩
   exact absurd Mur.clm_may hmy3
  ·exact absurd (htd1.symm.trans (want_read Ts Tt hTsl)) (by intro h_; cases h_)
  ·exact absurd (htd1.symm.trans (want_read Ts Tt hTsl)) (by intro h_; cases h_)
  exact absurd (htd1.symm.trans (want_read Ts Tt hTsl)) (by intro h_; cases h_)
 exact absurd Mur.want_may hmy1
end Go.Proofs.YtgbadghjnpbiaaaDoor
namespace Mur
open Go Go.RowKit
variable {T : List UInt8 → List UInt8}
theorem bytes_pos (f : Frm) : 0 < (bytesFM T f).length := by
  unfold bytesFM bodyFM bodyF
  have := formN_pos (fraM f).con.kind
  rw [List.length_append, List.length_append]
  omega
theorem ok_pos {b : List UInt8} {f : Frm} (h : readAll T b = .ok f) : 0 < b.length := by
  rw [← (bytes_read h).2.1]
  exact bytes_pos f
theorem read_one_less {b : List UInt8} {f : Frm} (h : readAll T b = .ok f) : readAll T (b.take (b.length - 1)) = .form := by
  have hp := ok_pos h
  have e : b = b.take (b.length - 1) ++ [b[b.length - 1]] := by
    rw [← List.take_succ_eq_append_getElem (by omega), List.take_of_length_le (by omega)]
  refine read_less (y := b[b.length - 1]) (f := f) ?_
  rw [← e]
  exact h
end Mur
namespace Go.Proofs.YtgbadghjnpbiaaaDoor
open Go.RowKit Wk
open Mur (b8s Byt Own8 Seg Segs flat cutA attC Att SlA OwnA rowA msgC frmP frmL_size frmL_sz frmL_all byt_chg bytesFM run_str bytes_read read_more headM frmIn_head byt_to run_op_cut_to cutA_nil read_one_less segs_cell)
set_option maxRecDepth 100000
set_option maxHeartbeats 4000000
theorem Only_any (s : List UInt8) (A : Option Addr) (n c : Nat) (b : List UInt8) (B : Option Addr) (m d : Nat) (more : UInt8) (w : World) (hv : ShaVars w) (hb : Byt w A n s) (hnc : n ≤ c) (hcm : c ≤ Go.maxLen) (ha : A = none → c = 0) (hbB : Byt w B m b) (hmd : m ≤ d) (hdm : d ≤ Go.maxLen) (hbn : B = none → d = 0) : Calls Tryd.prog 3 #[.slice A n c, .slice B m d, .int .u8 ((more.toNat : Nat) : Int)] w fun e w' => e = .returned (.bool true) ∧ Below w.heap.size w w' := by
 have HV := Go.Lib.hid hv
 clear hv
 have HBY := Go.Lib.hid hb
 clear hb
 have HA := Go.Lib.hid ha
 clear ha
 obtain ⟨T, hTs⟩ : ∃ T : List UInt8 → List UInt8, ∀ x, T x = Mur.hmac s (18 :: x) := ⟨_, fun _ => rfl⟩
 have hTsl : ∀ x, (T x).length = 32 := fun x => by rw [hTs]; exact Mur.hmac_length _ _
 have hml_ : Go.maxLen = 9223372036854775807 := rfl
 have hbl_ := hbB.1
 refine calls_of_wp Tryd.func3 rfl ?_
 refine wp_seq (reg ?_)
 refine rP 0 6 (.bool false) rfl rfl ?_
 refine rEnd 1 rfl (nxt (wp_seq (wp_seq (reg ?_))))
 refine rP 0 16 (.slice A n c) rfl rfl ?_
 refine rP 1 17 (.int .i64 ((n : Nat) : Int)) rfl rfl ?_
 by_cases hx1 : ((n : Nat) : Int) > (100 : Int)
 ·refine rQ 2 18 _ rfl rfl (qboolT (b := decide (((n : Nat) : Int) > (100 : Int))) (decide_eq_true (by first | exact hx1 | omega))) ?_
  refine rP 3 19 (.bool true) rfl rfl ?_
  refine rPass 4 (some 20) rfl rfl (by kernel_rfl) ?_
  refine rPass 5 (some 21) rfl rfl (by kernel_rfl) ?_
  refine rPass 6 (some 22) rfl rfl (by kernel_rfl) ?_
  refine rP 7 23 (.bool true) rfl rfl ?_
  refine rEnd 8 rfl (nxt (wp_cond_true (by kernel_rfl) (wp_seq (reg ?_))))
  refine rC 0 24 6 [] #[] [] rfl rfl rfl ?_
  refine (Known25_any w HV.out).mono ?_
  rintro _ W1 ⟨rfl, ch1⟩
  have zz1 := ch1.size
  refine ⟨_, rfl, ?_⟩
  refine rP 1 6 (.bool true) rfl rfl ?_
  refine rEnd 2 rfl (nxt (wp_ret (thR ?_)))
  have kk1 : Chg [] w W1 := Chg.step ((Chg.refl _).more (by simp)) ch1 trivial
  refine Wk.ret (.bool true) rfl (by kernel_rfl) ?_
  exact ⟨rfl, Chg.below0 kk1⟩
 refine rQ 2 18 _ rfl rfl (qboolF (b := decide (((n : Nat) : Int) > (100 : Int))) (decide_eq_false (by first | exact hx1 | omega))) ?_
 refine rP 3 19 (.bool false) rfl rfl ?_
 refine rP 4 20 (.slice B m d) rfl rfl ?_
 refine rP 5 21 (.int .i64 ((m : Nat) : Int)) rfl rfl ?_
 by_cases hx2 : ((m : Nat) : Int) > (2000 : Int)
 ·refine rQ 6 22 _ rfl rfl (qboolT (b := decide (((m : Nat) : Int) > (2000 : Int))) (decide_eq_true (by first | exact hx2 | omega))) ?_
  refine rP 7 23 (.bool true) rfl rfl ?_
  refine rEnd 8 rfl (nxt (wp_cond_true (by kernel_rfl) (wp_seq (reg ?_))))
  refine rC 0 24 6 [] #[] [] rfl rfl rfl ?_
  refine (Known25_any w HV.out).mono ?_
  rintro _ W2 ⟨rfl, ch2⟩
  have zz2 := ch2.size
  refine ⟨_, rfl, ?_⟩
  refine rP 1 6 (.bool true) rfl rfl ?_
  refine rEnd 2 rfl (nxt (wp_ret (thR ?_)))
  have kk2 : Chg [] w W2 := Chg.step ((Chg.refl _).more (by simp)) ch2 trivial
  refine Wk.ret (.bool true) rfl (by kernel_rfl) ?_
  exact ⟨rfl, Chg.below0 kk2⟩
 refine rQ 6 22 _ rfl rfl (qboolF (b := decide (((m : Nat) : Int) > (2000 : Int))) (decide_eq_false (by first | exact hx2 | omega))) ?_
 refine rP 7 23 (.bool false) rfl rfl ?_
 refine rEnd 8 rfl (nxt (wp_cond_false (by kernel_rfl) (wp_skip (nxt (wp_seq (reg ?_))))))
 refine rP 0 26 (.slice A n c) rfl rfl ?_
 refine rP 1 27 (.slice B m d) rfl rfl ?_
 refine rC 2 28 7 [.tmp 26, .tmp 27] #[22, 22] [.slice A n c, .slice B m d] rfl rfl rfl ?_
 refine (ReadF_any s A n c T b B m d w HV.out HBY.out ⟨by omega, by omega⟩ HA.out (by omega) hTs hTsl hbB ⟨by omega, by omega⟩ hbn).mono ?_
 rintro _ W3 ⟨FF1, ZZ1, er1, rfl, hLs1, hZin1, hc1, ch3⟩
 have zz3 := ch3.size
 rcases hc1 with ⟨rfl, htd1, hIn1⟩ | ⟨rfl, htd1, rfl⟩ | ⟨rfl, htd1, rfl⟩ | ⟨rfl, htd1, rfl⟩
 ·have hps_ := Mur.ok_pos htd1
  refine ⟨_, rfl, ?_⟩
  refine rP 3 25 (.tuple #[.agg ((frmP FF1 ZZ1).flatten.toArray), .int .i64 0]) rfl rfl ?_
  refine rP 4 29 (.agg ((frmP FF1 ZZ1).flatten.toArray)) rfl rfl ?_
  refine rP 5 30 (.int .i64 0) rfl rfl ?_
  refine rX 6 7 rfl rfl (new_ex (pt W3.heap.size 0) ((frmh 0 0 0).flatten.toArray) 39 (by kernel_rfl)) ?_
  rintro _ W4 ⟨rfl, hb1, ch4, sz1⟩
  have zz4 := ch4.size
  refine rY 7 rfl rfl (Mur.storeArr 39 (.tmp 7) (.tmp 29) rfl W3.heap.size (by kernel_rfl) (frmP FF1 ZZ1).flatten.toArray 213 (frmL_size (frmL_sz hIn1.ok.sum hIn1.ok.key FF1.att.hk FF1.att.hr FF1.att.ht hIn1.ok.root)) frmL_all (by kernel_rfl) (by kernel_rfl) 39 ((frmh 0 0 0).flatten.toArray) hb1 (frmL_size (frmL_sz rfl rfl rfl rfl rfl rfl))) ?_
  rintro W5 ⟨hb2, ch5⟩
  have zz5 := ch5.size
  refine rP 8 8 (.int .i64 0) rfl rfl ?_
  refine rEnd 9 rfl (nxt (wp_seq (wp_seq (reg ?_))))
  refine rP 0 31 (.int .i64 0) rfl rfl ?_
  refine rQ 1 32 _ rfl rfl (qboolF (b := ((0 : Int) != (0 : Int))) (bne_eq_false_iff_eq.2 (by decide))) ?_
  refine rEnd 2 rfl (nxt (wp_cond_false (by kernel_rfl) (wp_skip (nxt (wp_seq (reg ?_))))))
  refine rP 0 35 (.slice A n c) rfl rfl ?_
  refine rQ 1 36 (.agg ((frmP FF1 ZZ1).flatten.toArray)) rfl rfl (Mur.loadArr 39 (.tmp 7) rfl _ Tryd.underlying39 rfl W3.heap.size (by kernel_rfl) (frmP FF1 ZZ1).flatten.toArray 213 (frmL_size (frmL_sz hIn1.ok.sum hIn1.ok.key FF1.att.hk FF1.att.hr FF1.att.ht hIn1.ok.root)) (by kernel_rfl) 39 (0, 0) hb2) ?_
  refine rC 2 37 8 [.tmp 35, .tmp 36] #[22, 39] [.slice A n c, .agg ((frmP FF1 ZZ1).flatten.toArray)] rfl rfl rfl ?_
  have kk3 : Chg [] w W3 := Chg.step ((Chg.refl _).more (by simp)) ch3 trivial
  have kk4 := Chg.step kk3 ch4 trivial
  have kk5 := Chg.step kk4 ch5 ⟨.inr (by omega), trivial⟩
  have kk6 : Chg [] (W3) W4 := Chg.step ((Chg.refl _).more (by simp)) ch4 trivial
  have kk7 := Chg.step kk6 ch5 ⟨.inr (by omega), trivial⟩
  refine (BytesF_any s A n c T FF1 ZZ1 W5 (HV.out.below (Chg.below0 kk5)) (byt_chg HBY.out kk5 (fun g off e hl => trivial)) ⟨by omega, by omega⟩ HA.out (by omega) hTs hTsl (Mur.LiesF.chg hLs1 kk7 ⟨fun _ _ _ _ => trivial, fun _ _ _ _ => trivial, fun _ _ _ _ => trivial, fun _ _ _ _ => trivial, fun _ _ _ _ => trivial⟩) hIn1).mono ?_
  rintro _ W6 ⟨AA1, nn1, cc1, er2, rfl, hc2, ch6⟩
  have zz6 := ch6.size
  rcases hc2 with ⟨hmy1, rfl, ow1⟩ | ⟨hmy1, rfl, rfl, rfl, rfl⟩
  ·have hq1 := ow1.nc
   have hq2 := ow1.cm
   have hq3 := ow1.byt.1
   refine ⟨_, rfl, ?_⟩
   refine rP 3 34 (.tuple #[.slice AA1 nn1 cc1, .int .i64 0]) rfl rfl ?_
   refine rP 4 38 (.slice AA1 nn1 cc1) rfl rfl ?_
   refine rP 5 39 (.int .i64 0) rfl rfl ?_
   refine rP 6 9 (.slice AA1 nn1 cc1) rfl rfl ?_
   refine rP 7 10 (.int .i64 0) rfl rfl ?_
   refine rEnd 8 rfl (nxt (wp_seq (wp_seq (reg ?_))))
   refine rP 0 40 (.int .i64 0) rfl rfl ?_
   refine rQ 1 41 _ rfl rfl (qboolF (b := ((0 : Int) != (0 : Int))) (bne_eq_false_iff_eq.2 (by decide))) ?_
   refine rP 2 42 (.bool false) rfl rfl ?_
   refine rP 3 43 (.slice AA1 nn1 cc1) rfl rfl ?_
   refine rQ 4 44 (.string (Mur.str (bytesFM T FF1))) rfl rfl (run_str 22 9 (.tmp 43) 5 rfl Tryd.underlying22 Tryd.underlying5 Tryd.underlying9 AA1 nn1 cc1 (bytesFM T FF1) (by kernel_rfl) ow1.byt) ?_
   refine rP 5 45 (.slice B m d) rfl rfl ?_
   have kk8 := Chg.step kk5 ch6 trivial
   refine rQ 6 46 (.string (Mur.str b)) rfl rfl (run_str 22 9 (.tmp 45) 5 rfl Tryd.underlying22 Tryd.underlying5 Tryd.underlying9 B m d b (by kernel_rfl) (byt_chg hbB kk8 (fun g off e hl => trivial))) ?_
   refine rQ 7 47 _ rfl rfl (boolF (b := decide ((bytesFM T FF1) ≠ b)) (decide_eq_false (fun h_ => h_ (bytes_read htd1).2.1)) (Mur.strne 9 9 (.tmp 44) (.tmp 46) rfl (bytesFM T FF1) b (by kernel_rfl) (by kernel_rfl))) ?_
   refine rP 8 48 (.bool false) rfl rfl ?_
   refine rP 9 49 (.bool false) rfl rfl ?_
   refine rP 10 50 (.slice B m d) rfl rfl ?_
   refine rP 11 51 (.int .i64 ((m : Nat) : Int)) rfl rfl ?_
   refine rQ 12 52 _ rfl rfl (qboolF (b := (((m : Nat) : Int) == (0 : Int))) (beq_eq_false_iff_ne.2 (by omega))) ?_
   refine rP 13 53 (.bool false) rfl rfl ?_
   refine rEnd 14 rfl (nxt (wp_cond_false (by kernel_rfl) (wp_skip (nxt (wp_seq (reg ?_))))))
   refine rP 0 55 (.slice A n c) rfl rfl ?_
   refine rX 1 56 rfl rfl (new_ex (.slice (some ⟨W6.heap.size, 0, none⟩) 0 0) #[] 5 (by kernel_rfl)) ?_
   rintro _ W7 ⟨rfl, hb3, ch7, sz2⟩
   have zz7 := ch7.size
   refine rP 2 57 (.slice B m d) rfl rfl ?_
   have ow2 := Mur.own8_empty hb3 (Nat.le_refl _)
   have kk9 := Chg.step kk8 ch7 trivial
   refine rX 3 58 rfl rfl (Mur.append8 (.tmp 56) (.tmp 57) 22 5 rfl Tryd.underlying22 (by kernel_rfl) W6.heap.size (some ⟨W6.heap.size, 0, none⟩) 0 0 ([]) B m d b (by kernel_rfl) (by kernel_rfl) ow2.own (byt_chg hbB kk9 (fun g off e hl => trivial)) hbn (by omega) (by omega) m (by omega) b rfl) ?_
   rintro _ W8 ⟨AA2, nn2, rfl, ow3, ch8, ha1⟩
   have zz8 := ch8.size
   have hq4 := ow3.nc
   have hq5 := ow3.cm
   refine rP 4 59 (.int .u8 ((more.toNat : Nat) : Int)) rfl rfl ?_
   refine rX 5 60 rfl rfl (new_ex (.slice (some ⟨W8.heap.size, 0, none⟩) 1 1) #[.int .u8 ((more.toNat : Nat) : Int)] 5 (by kernel_rfl)) ?_
   rintro _ W10 ⟨rfl, hb4, ch9, sz3⟩
   have zz9 := ch9.size
   have ow4 := Mur.own8 (own_chg ow3.own ch9 (fun q e _ _ => trivial))
   refine rX 6 61 rfl rfl (Mur.append8 (.tmp 58) (.tmp 60) 22 5 rfl Tryd.underlying22 (by kernel_rfl) W6.heap.size AA2 m nn2 b (some ⟨W8.heap.size, 0, none⟩) 1 1 ([more]) (by kernel_rfl) (by kernel_rfl) ow4.own (Mur.byt_row [more] hb4) (fun h => by cases h) (by omega) (by omega) (m + 1) (by omega) (b ++ ([more])) rfl) ?_
   rintro _ W11 ⟨AA3, nn3, rfl, ow5, ch10, ha2⟩
   have zz10 := ch10.size
   have hq6 := ow5.nc
   have hq7 := ow5.cm
   refine rC 7 62 7 [.tmp 55, .tmp 61] #[22, 22] [.slice A n c, .slice AA3 (m + 1) nn3] rfl rfl rfl ?_
   have kk10 := Chg.step kk9 ch8 (newOr_blk (fun g hg => by have := ow2.lt g hg; omega))
   have kk11 := Chg.step kk10 ch9 trivial
   have kk12 := Chg.step kk11 ch10 (newOr_blk (fun g hg => by have := ow3.lt g hg; omega))
   refine (ReadF_any s A n c T (b ++ ([more])) AA3 (m + 1) nn3 W11 (HV.out.below (Chg.below0 kk12)) (byt_chg HBY.out kk12 (fun g off e hl => trivial)) ⟨by omega, by omega⟩ HA.out (by omega) hTs hTsl ow5.byt ⟨by omega, by omega⟩ ow5.nil).mono ?_
   rintro _ W12 ⟨FF2, ZZ2, er3, rfl, hLs2, hZin2, hc3, ch11⟩
   have zz11 := ch11.size
   rcases hc3 with ⟨rfl, htd2, hIn2⟩ | ⟨rfl, htd2, rfl⟩ | ⟨rfl, htd2, rfl⟩ | ⟨rfl, htd2, rfl⟩
   ·exfalso; rw [read_more htd1 more] at htd2; split at htd2 <;> cases htd2
   ·refine ⟨_, rfl, ?_⟩
    refine rP 8 54 (.tuple #[.agg ((frmP (headM 0 0 0) ZZ2).flatten.toArray), .int .i64 3]) rfl rfl ?_
    refine rP 9 63 (.agg ((frmP (headM 0 0 0) ZZ2).flatten.toArray)) rfl rfl ?_
    refine rP 10 64 (.int .i64 3) rfl rfl ?_
    refine rX 11 11 rfl rfl (new_ex (pt W12.heap.size 0) ((frmh 0 0 0).flatten.toArray) 39 (by kernel_rfl)) ?_
    rintro _ W13 ⟨rfl, hb5, ch12, sz4⟩
    have zz12 := ch12.size
    refine rY 12 rfl rfl (Mur.storeArr 39 (.tmp 11) (.tmp 63) rfl W12.heap.size (by kernel_rfl) (frmP (headM 0 0 0) ZZ2).flatten.toArray 213 (frmL_size (frmL_sz (frmIn_head 0 (by decide) (by decide)).ok.sum (frmIn_head 0 (by decide) (by decide)).ok.key (headM 0 0 0).att.hk (headM 0 0 0).att.hr (headM 0 0 0).att.ht (frmIn_head 0 (by decide) (by decide)).ok.root)) frmL_all (by kernel_rfl) (by kernel_rfl) 39 ((frmh 0 0 0).flatten.toArray) hb5 (frmL_size (frmL_sz rfl rfl rfl rfl rfl rfl))) ?_
    rintro W14 ⟨hb6, ch13⟩
    have zz13 := ch13.size
    refine rP 13 12 (.int .i64 3) rfl rfl ?_
    refine rEnd 14 rfl (nxt (wp_seq (reg ?_)))
    refine rP 0 66 (.slice A n c) rfl rfl ?_
    refine rP 1 67 (.slice B m d) rfl rfl ?_
    refine rP 2 68 (.slice B m d) rfl rfl ?_
    refine rP 3 69 (.int .i64 ((m : Nat) : Int)) rfl rfl ?_
    refine rQ 4 70 _ rfl rfl (qint64 (n := ((m : Nat) : Int) - 1) (z := ((m - 1 : Nat) : Int)) (by omega) (by omega) (by omega)) ?_
    have kk13 := Chg.step kk12 ch11 trivial
    have kk14 := Chg.step kk13 ch12 trivial
    have kk15 := Chg.step kk14 ch13 ⟨.inr (by omega), trivial⟩
    obtain ⟨Ac1, hAc1⟩ : ∃ x_, x_ = Mur.cutA B d 0 := ⟨_, rfl⟩
    have hbc1 : Byt w Ac1 (m - 1) (b.take (m - 1)) := by rw [hAc1]; exact byt_to hbB (m - 1) (by omega) (by omega)
    refine rQ 5 71 (.slice Ac1 (m - 1) d) rfl rfl (by rw [hAc1]; exact run_op_cut_to 22 (.tmp 67) (.tmp 70) rfl 5 Tryd.underlying22 (by kernel_rfl) B m d (m - 1) (by kernel_rfl) (by kernel_rfl) (by omega) (by omega)) ?_
    refine rC 6 72 7 [.tmp 66, .tmp 71] #[22, 22] [.slice A n c, .slice Ac1 (m - 1) d] rfl rfl rfl ?_
    refine (ReadF_any s A n c T (b.take (m - 1)) Ac1 (m - 1) d W14 (HV.out.below (Chg.below0 kk15)) (byt_chg HBY.out kk15 (fun g off e hl => trivial)) ⟨by omega, by omega⟩ HA.out (by omega) hTs hTsl (byt_chg hbc1 kk15 (fun g off e hl => trivial)) ⟨by omega, by omega⟩ (fun h_ => by rw [hAc1] at h_; exact cutA_nil hbn h_)).mono ?_
    rintro _ W15 ⟨FF3, ZZ3, er4, rfl, hLs3, hZin3, hc4, ch14⟩
    have zz14 := ch14.size
    rcases hc4 with ⟨rfl, htd3, hIn3⟩ | ⟨rfl, htd3, rfl⟩ | ⟨rfl, htd3, rfl⟩ | ⟨rfl, htd3, rfl⟩
    ·exfalso; rw [show m - 1 = b.length - 1 by omega, read_one_less htd1] at htd3; cases htd3
    ·exfalso; rw [show m - 1 = b.length - 1 by omega, read_one_less htd1] at htd3; cases htd3
    ·refine ⟨_, rfl, ?_⟩
     refine rP 7 65 (.tuple #[.agg ((frmP (headM 0 0 0) ZZ3).flatten.toArray), .int .i64 5]) rfl rfl ?_
     refine rP 8 73 (.agg ((frmP (headM 0 0 0) ZZ3).flatten.toArray)) rfl rfl ?_
     refine rP 9 74 (.int .i64 5) rfl rfl ?_
     refine rX 10 13 rfl rfl (new_ex (pt W15.heap.size 0) ((frmh 0 0 0).flatten.toArray) 39 (by kernel_rfl)) ?_
     rintro _ W16 ⟨rfl, hb7, ch15, sz5⟩
     have zz15 := ch15.size
     refine rY 11 rfl rfl (Mur.storeArr 39 (.tmp 13) (.tmp 73) rfl W15.heap.size (by kernel_rfl) (frmP (headM 0 0 0) ZZ3).flatten.toArray 213 (frmL_size (frmL_sz (frmIn_head 0 (by decide) (by decide)).ok.sum (frmIn_head 0 (by decide) (by decide)).ok.key (headM 0 0 0).att.hk (headM 0 0 0).att.hr (headM 0 0 0).att.ht (frmIn_head 0 (by decide) (by decide)).ok.root)) frmL_all (by kernel_rfl) (by kernel_rfl) 39 ((frmh 0 0 0).flatten.toArray) hb7 (frmL_size (frmL_sz rfl rfl rfl rfl rfl rfl))) ?_
     rintro W17 ⟨hb8, ch16⟩
     have zz16 := ch16.size
     refine rP 12 14 (.int .i64 5) rfl rfl ?_
     refine rEnd 13 rfl (nxt (wp_seq (reg ?_)))
     refine rP 0 75 (pt W3.heap.size 0) rfl rfl ?_
     refine rQ 1 76 _ rfl rfl (ld 5 75 W3.heap.size 0 (.int .u8 ((FF1.kind.toNat : Nat) : Int)) (show World.cell? _ ⟨_, 0 + 0, _⟩ = _ from segs_cell (frmL_sz hIn1.ok.sum hIn1.ok.key FF1.att.hk FF1.att.hr FF1.att.ht hIn1.ok.root) (range_row (Chg.hp ch16 (Chg.hp ch15 (Chg.hp ch14 (Chg.hp ch13 (Chg.hp ch12 (Chg.hp ch11 (Chg.hp ch10 (Chg.hp ch9 (Chg.hp ch8 (Chg.hp ch7 (Chg.hp ch6 hb2 trivial) trivial) (off_blk (fun gz hgz => by have := ow2.lt gz hgz; omega))) trivial) (off_blk (fun gz hgz => by have := ow3.lt gz hgz; omega))) trivial) trivial) ⟨by omega, trivial⟩) trivial) trivial) ⟨by omega, trivial⟩)) 0 rfl rfl)) ?_
     by_cases hx3 : ((FF1.kind.toNat : Nat) : Int) > (4 : Int)
     ·refine rQ 2 77 _ rfl rfl (qboolT (b := decide (((FF1.kind.toNat : Nat) : Int) > (4 : Int))) (decide_eq_true (by first | exact hx3 | omega))) ?_
      refine rP 3 78 (.bool true) rfl rfl ?_
      refine rP 4 79 (.int .i64 5) rfl rfl ?_
      refine rQ 5 80 _ rfl rfl (qboolF (b := ((5 : Int) != (5 : Int))) (bne_eq_false_iff_eq.2 (by decide))) ?_
      refine rP 6 81 (.bool false) rfl rfl ?_
      refine rP 7 82 (.bool false) rfl rfl ?_
      refine rP 8 83 (.int .i64 5) rfl rfl ?_
      refine rQ 9 84 _ rfl rfl (qboolF (b := ((5 : Int) == (0 : Int))) (beq_eq_false_iff_ne.2 (by decide))) ?_
      refine rP 10 85 (.bool false) rfl rfl ?_
      refine rP 11 15 (.bool false) rfl rfl ?_
      refine rEnd 12 rfl (nxt (wp_seq (reg ?_)))
      refine rP 0 86 (.int .i64 3) rfl rfl ?_
      refine rQ 1 87 _ rfl rfl (qboolF (b := ((3 : Int) == (5 : Int))) (beq_eq_false_iff_ne.2 (by decide))) ?_
      refine rP 2 88 (.bool false) rfl rfl ?_
      refine rP 3 89 (pt W3.heap.size 0) rfl rfl ?_
      refine rQ 4 90 _ rfl rfl (ld 5 89 W3.heap.size 0 (.int .u8 ((FF1.kind.toNat : Nat) : Int)) (show World.cell? _ ⟨_, 0 + 0, _⟩ = _ from segs_cell (frmL_sz hIn1.ok.sum hIn1.ok.key FF1.att.hk FF1.att.hr FF1.att.ht hIn1.ok.root) (range_row (Chg.hp ch16 (Chg.hp ch15 (Chg.hp ch14 (Chg.hp ch13 (Chg.hp ch12 (Chg.hp ch11 (Chg.hp ch10 (Chg.hp ch9 (Chg.hp ch8 (Chg.hp ch7 (Chg.hp ch6 hb2 trivial) trivial) (off_blk (fun gz hgz => by have := ow2.lt gz hgz; omega))) trivial) (off_blk (fun gz hgz => by have := ow3.lt gz hgz; omega))) trivial) trivial) ⟨by omega, trivial⟩) trivial) trivial) ⟨by omega, trivial⟩)) 0 rfl rfl)) ?_
      by_cases hx4 : ((FF1.kind.toNat : Nat) : Int) ≤ (4 : Int)
      ·refine rQ 5 91 _ rfl rfl (qboolT (b := decide (((FF1.kind.toNat : Nat) : Int) ≤ (4 : Int))) (decide_eq_true (by first | exact hx4 | omega))) ?_
       refine rP 6 92 (.bool true) rfl rfl ?_
       refine rP 7 93 (.int .i64 3) rfl rfl ?_
       refine rQ 8 94 _ rfl rfl (qboolT (b := ((3 : Int) != (0 : Int))) (bne_iff_ne.2 (by decide))) ?_
       refine rP 9 95 (.bool true) rfl rfl ?_
       refine rP 10 96 (.bool true) rfl rfl ?_
       refine rP 11 97 (.bool true) rfl rfl ?_
       refine rPass 12 (some 98) rfl rfl (by kernel_rfl) ?_
       refine rPass 13 (some 99) rfl rfl (by kernel_rfl) ?_
       refine rP 14 100 (.bool true) rfl rfl ?_
       refine rP 15 101 (.bool true) rfl rfl ?_
       refine rP 16 102 (.bool false) rfl rfl ?_
       refine rP 17 103 (.bool true) rfl rfl ?_
       refine rP 18 104 (.bool true) rfl rfl ?_
       refine rP 19 105 (.bool true) rfl rfl ?_
       refine rC 20 106 6 [] #[] [] rfl rfl rfl ?_
       have kk16 := Chg.step kk15 ch14 trivial
       have kk17 := Chg.step kk16 ch15 trivial
       have kk18 := Chg.step kk17 ch16 ⟨.inr (by omega), trivial⟩
       refine (Known25_any W17 (HV.out.below (Chg.below0 kk18))).mono ?_
       rintro _ W18 ⟨rfl, ch17⟩
       have zz17 := ch17.size
       refine ⟨_, rfl, ?_⟩
       refine rP 21 107 (.bool true) rfl rfl ?_
       refine rP 22 6 (.bool true) rfl rfl ?_
       refine rEnd 23 rfl (nxt (wp_ret ?_))
       have kk19 := Chg.step kk18 ch17 trivial
       refine Wk.ret (.bool true) rfl (by kernel_rfl) ?_
       exact ⟨rfl, Chg.below0 kk19⟩
      refine rQ 5 91 _ rfl rfl (qboolF (b := decide (((FF1.kind.toNat : Nat) : Int) ≤ (4 : Int))) (decide_eq_false (by first | exact hx4 | omega))) ?_
      refine rP 6 92 (.bool false) rfl rfl ?_
      refine rPass 7 (some 93) rfl rfl (by kernel_rfl) ?_
      refine rPass 8 (some 94) rfl rfl (by kernel_rfl) ?_
      refine rP 9 95 (.bool false) rfl rfl ?_
      refine rP 10 96 (.bool false) rfl rfl ?_
      refine rP 11 97 (.bool false) rfl rfl ?_
      refine rP 12 98 (.int .i64 3) rfl rfl ?_
      refine rQ 13 99 _ rfl rfl (qboolT (b := ((3 : Int) == (3 : Int))) (beq_iff_eq.2 (by decide))) ?_
      refine rP 14 100 (.bool true) rfl rfl ?_
      refine rP 15 101 (.bool true) rfl rfl ?_
      refine rP 16 102 (.bool false) rfl rfl ?_
      refine rP 17 103 (.bool true) rfl rfl ?_
      refine rP 18 104 (.bool true) rfl rfl ?_
      refine rP 19 105 (.bool true) rfl rfl ?_
      refine rC 20 106 6 [] #[] [] rfl rfl rfl ?_
      have kk20 := Chg.step kk15 ch14 trivial
      have kk21 := Chg.step kk20 ch15 trivial
      have kk22 := Chg.step kk21 ch16 ⟨.inr (by omega), trivial⟩
      refine (Known25_any W17 (HV.out.below (Chg.below0 kk22))).mono ?_
      rintro _ W19 ⟨rfl, ch18⟩
      have zz18 := ch18.size
      refine ⟨_, rfl, ?_⟩
      refine rP 21 107 (.bool true) rfl rfl ?_
      refine rP 22 6 (.bool true) rfl rfl ?_
      refine rEnd 23 rfl (nxt (wp_ret ?_))
      have kk23 := Chg.step kk22 ch18 trivial
      refine Wk.ret (.bool true) rfl (by kernel_rfl) ?_
      exact ⟨rfl, Chg.below0 kk23⟩
     refine rQ 2 77 _ rfl rfl (qboolF (b := decide (((FF1.kind.toNat : Nat) : Int) > (4 : Int))) (decide_eq_false (by first | exact hx3 | omega))) ?_
     refine rP 3 78 (.bool false) rfl rfl ?_
     refine rPass 4 (some 79) rfl rfl (by kernel_rfl) ?_
     refine rPass 5 (some 80) rfl rfl (by kernel_rfl) ?_
     refine rP 6 81 (.bool false) rfl rfl ?_
     refine rP 7 82 (.bool false) rfl rfl ?_
     refine rP 8 83 (.int .i64 5) rfl rfl ?_
     refine rQ 9 84 _ rfl rfl (qboolF (b := ((5 : Int) == (0 : Int))) (beq_eq_false_iff_ne.2 (by decide))) ?_
     refine rP 10 85 (.bool false) rfl rfl ?_
     refine rP 11 15 (.bool false) rfl rfl ?_
     refine rEnd 12 rfl (nxt (wp_seq (reg ?_)))
     refine rP 0 86 (.int .i64 3) rfl rfl ?_
     refine rQ 1 87 _ rfl rfl (qboolF (b := ((3 : Int) == (5 : Int))) (beq_eq_false_iff_ne.2 (by decide))) ?_
     refine rP 2 88 (.bool false) rfl rfl ?_
     refine rP 3 89 (pt W3.heap.size 0) rfl rfl ?_
     refine rQ 4 90 _ rfl rfl (ld 5 89 W3.heap.size 0 (.int .u8 ((FF1.kind.toNat : Nat) : Int)) (show World.cell? _ ⟨_, 0 + 0, _⟩ = _ from segs_cell (frmL_sz hIn1.ok.sum hIn1.ok.key FF1.att.hk FF1.att.hr FF1.att.ht hIn1.ok.root) (range_row (Chg.hp ch16 (Chg.hp ch15 (Chg.hp ch14 (Chg.hp ch13 (Chg.hp ch12 (Chg.hp ch11 (Chg.hp ch10 (Chg.hp ch9 (Chg.hp ch8 (Chg.hp ch7 (Chg.hp ch6 hb2 trivial) trivial) (off_blk (fun gz hgz => by have := ow2.lt gz hgz; omega))) trivial) (off_blk (fun gz hgz => by have := ow3.lt gz hgz; omega))) trivial) trivial) ⟨by omega, trivial⟩) trivial) trivial) ⟨by omega, trivial⟩)) 0 rfl rfl)) ?_
     by_cases hx5 : ((FF1.kind.toNat : Nat) : Int) ≤ (4 : Int)
     ·refine rQ 5 91 _ rfl rfl (qboolT (b := decide (((FF1.kind.toNat : Nat) : Int) ≤ (4 : Int))) (decide_eq_true (by first | exact hx5 | omega))) ?_
      refine rP 6 92 (.bool true) rfl rfl ?_
      refine rP 7 93 (.int .i64 3) rfl rfl ?_
      refine rQ 8 94 _ rfl rfl (qboolT (b := ((3 : Int) != (0 : Int))) (bne_iff_ne.2 (by decide))) ?_
      refine rP 9 95 (.bool true) rfl rfl ?_
      refine rP 10 96 (.bool true) rfl rfl ?_
      refine rP 11 97 (.bool true) rfl rfl ?_
      refine rPass 12 (some 98) rfl rfl (by kernel_rfl) ?_
      refine rPass 13 (some 99) rfl rfl (by kernel_rfl) ?_
      refine rP 14 100 (.bool true) rfl rfl ?_
      refine rP 15 101 (.bool true) rfl rfl ?_
      refine rP 16 102 (.bool false) rfl rfl ?_
      refine rP 17 103 (.bool true) rfl rfl ?_
      refine rP 18 104 (.bool true) rfl rfl ?_
      refine rP 19 105 (.bool true) rfl rfl ?_
      refine rC 20 106 6 [] #[] [] rfl rfl rfl ?_
      have kk24 := Chg.step kk15 ch14 trivial
      have kk25 := Chg.step kk24 ch15 trivial
      have kk26 := Chg.step kk25 ch16 ⟨.inr (by omega), trivial⟩
      refine (Known25_any W17 (HV.out.below (Chg.below0 kk26))).mono ?_
      rintro _ W20 ⟨rfl, ch19⟩
      have zz19 := ch19.size
      refine ⟨_, rfl, ?_⟩
      refine rP 21 107 (.bool true) rfl rfl ?_
      refine rP 22 6 (.bool true) rfl rfl ?_
      refine rEnd 23 rfl (nxt (wp_ret ?_))
      have kk27 := Chg.step kk26 ch19 trivial
      refine Wk.ret (.bool true) rfl (by kernel_rfl) ?_
      exact ⟨rfl, Chg.below0 kk27⟩
     refine rQ 5 91 _ rfl rfl (qboolF (b := decide (((FF1.kind.toNat : Nat) : Int) ≤ (4 : Int))) (decide_eq_false (by first | exact hx5 | omega))) ?_
     refine rP 6 92 (.bool false) rfl rfl ?_
     refine rPass 7 (some 93) rfl rfl (by kernel_rfl) ?_
     refine rPass 8 (some 94) rfl rfl (by kernel_rfl) ?_
     refine rP 9 95 (.bool false) rfl rfl ?_
     refine rP 10 96 (.bool false) rfl rfl ?_
     refine rP 11 97 (.bool false) rfl rfl ?_
     refine rP 12 98 (.int .i64 3) rfl rfl ?_
     refine rQ 13 99 _ rfl rfl (qboolT (b := ((3 : Int) == (3 : Int))) (beq_iff_eq.2 (by decide))) ?_
     refine rP 14 100 (.bool true) rfl rfl ?_
     refine rP 15 101 (.bool true) rfl rfl ?_
     refine rP 16 102 (.bool false) rfl rfl ?_
     refine rP 17 103 (.bool true) rfl rfl ?_
     refine rP 18 104 (.bool true) rfl rfl ?_
     refine rP 19 105 (.bool true) rfl rfl ?_
     refine rC 20 106 6 [] #[] [] rfl rfl rfl ?_
     have kk28 := Chg.step kk15 ch14 trivial
     have kk29 := Chg.step kk28 ch15 trivial
     have kk30 := Chg.step kk29 ch16 ⟨.inr (by omega), trivial⟩
     refine (Known25_any W17 (HV.out.below (Chg.below0 kk30))).mono ?_
     rintro _ W21 ⟨rfl, ch20⟩
     have zz20 := ch20.size
     refine ⟨_, rfl, ?_⟩
     refine rP 21 107 (.bool true) rfl rfl ?_
     refine rP 22 6 (.bool true) rfl rfl ?_
     refine rEnd 23 rfl (nxt (wp_ret ?_))
     have kk31 := Chg.step kk30 ch20 trivial
     refine Wk.ret (.bool true) rfl (by kernel_rfl) ?_
     exact ⟨rfl, Chg.below0 kk31⟩
    exfalso; rw [show m - 1 = b.length - 1 by omega, read_one_less htd1] at htd3; cases htd3
   ·refine ⟨_, rfl, ?_⟩
    refine rP 8 54 (.tuple #[.agg ((frmP (headM 0 0 0) ZZ2).flatten.toArray), .int .i64 5]) rfl rfl ?_
    refine rP 9 63 (.agg ((frmP (headM 0 0 0) ZZ2).flatten.toArray)) rfl rfl ?_
    refine rP 10 64 (.int .i64 5) rfl rfl ?_
    refine rX 11 11 rfl rfl (new_ex (pt W12.heap.size 0) ((frmh 0 0 0).flatten.toArray) 39 (by kernel_rfl)) ?_
    rintro _ W22 ⟨rfl, hb9, ch21, sz6⟩
    have zz21 := ch21.size
    refine rY 12 rfl rfl (Mur.storeArr 39 (.tmp 11) (.tmp 63) rfl W12.heap.size (by kernel_rfl) (frmP (headM 0 0 0) ZZ2).flatten.toArray 213 (frmL_size (frmL_sz (frmIn_head 0 (by decide) (by decide)).ok.sum (frmIn_head 0 (by decide) (by decide)).ok.key (headM 0 0 0).att.hk (headM 0 0 0).att.hr (headM 0 0 0).att.ht (frmIn_head 0 (by decide) (by decide)).ok.root)) frmL_all (by kernel_rfl) (by kernel_rfl) 39 ((frmh 0 0 0).flatten.toArray) hb9 (frmL_size (frmL_sz rfl rfl rfl rfl rfl rfl))) ?_
    rintro W23 ⟨hb10, ch22⟩
    have zz22 := ch22.size
    refine rP 13 12 (.int .i64 5) rfl rfl ?_
    refine rEnd 14 rfl (nxt (wp_seq (reg ?_)))
    refine rP 0 66 (.slice A n c) rfl rfl ?_
    refine rP 1 67 (.slice B m d) rfl rfl ?_
    refine rP 2 68 (.slice B m d) rfl rfl ?_
    refine rP 3 69 (.int .i64 ((m : Nat) : Int)) rfl rfl ?_
    refine rQ 4 70 _ rfl rfl (qint64 (n := ((m : Nat) : Int) - 1) (z := ((m - 1 : Nat) : Int)) (by omega) (by omega) (by omega)) ?_
    have kk32 := Chg.step kk12 ch11 trivial
    have kk33 := Chg.step kk32 ch21 trivial
    have kk34 := Chg.step kk33 ch22 ⟨.inr (by omega), trivial⟩
    obtain ⟨Ac2, hAc2⟩ : ∃ x_, x_ = Mur.cutA B d 0 := ⟨_, rfl⟩
    have hbc2 : Byt w Ac2 (m - 1) (b.take (m - 1)) := by rw [hAc2]; exact byt_to hbB (m - 1) (by omega) (by omega)
    refine rQ 5 71 (.slice Ac2 (m - 1) d) rfl rfl (by rw [hAc2]; exact run_op_cut_to 22 (.tmp 67) (.tmp 70) rfl 5 Tryd.underlying22 (by kernel_rfl) B m d (m - 1) (by kernel_rfl) (by kernel_rfl) (by omega) (by omega)) ?_
    refine rC 6 72 7 [.tmp 66, .tmp 71] #[22, 22] [.slice A n c, .slice Ac2 (m - 1) d] rfl rfl rfl ?_
    refine (ReadF_any s A n c T (b.take (m - 1)) Ac2 (m - 1) d W23 (HV.out.below (Chg.below0 kk34)) (byt_chg HBY.out kk34 (fun g off e hl => trivial)) ⟨by omega, by omega⟩ HA.out (by omega) hTs hTsl (byt_chg hbc2 kk34 (fun g off e hl => trivial)) ⟨by omega, by omega⟩ (fun h_ => by rw [hAc2] at h_; exact cutA_nil hbn h_)).mono ?_
    rintro _ W24 ⟨FF4, ZZ4, er5, rfl, hLs4, hZin4, hc5, ch23⟩
    have zz23 := ch23.size
    rcases hc5 with ⟨rfl, htd4, hIn4⟩ | ⟨rfl, htd4, rfl⟩ | ⟨rfl, htd4, rfl⟩ | ⟨rfl, htd4, rfl⟩
    ·exfalso; rw [show m - 1 = b.length - 1 by omega, read_one_less htd1] at htd4; cases htd4
    ·exfalso; rw [show m - 1 = b.length - 1 by omega, read_one_less htd1] at htd4; cases htd4
    ·refine ⟨_, rfl, ?_⟩
     refine rP 7 65 (.tuple #[.agg ((frmP (headM 0 0 0) ZZ4).flatten.toArray), .int .i64 5]) rfl rfl ?_
     refine rP 8 73 (.agg ((frmP (headM 0 0 0) ZZ4).flatten.toArray)) rfl rfl ?_
     refine rP 9 74 (.int .i64 5) rfl rfl ?_
     refine rX 10 13 rfl rfl (new_ex (pt W24.heap.size 0) ((frmh 0 0 0).flatten.toArray) 39 (by kernel_rfl)) ?_
     rintro _ W25 ⟨rfl, hb11, ch24, sz7⟩
     have zz24 := ch24.size
     refine rY 11 rfl rfl (Mur.storeArr 39 (.tmp 13) (.tmp 73) rfl W24.heap.size (by kernel_rfl) (frmP (headM 0 0 0) ZZ4).flatten.toArray 213 (frmL_size (frmL_sz (frmIn_head 0 (by decide) (by decide)).ok.sum (frmIn_head 0 (by decide) (by decide)).ok.key (headM 0 0 0).att.hk (headM 0 0 0).att.hr (headM 0 0 0).att.ht (frmIn_head 0 (by decide) (by decide)).ok.root)) frmL_all (by kernel_rfl) (by kernel_rfl) 39 ((frmh 0 0 0).flatten.toArray) hb11 (frmL_size (frmL_sz rfl rfl rfl rfl rfl rfl))) ?_
     rintro W26 ⟨hb12, ch25⟩
     have zz25 := ch25.size
     refine rP 12 14 (.int .i64 5) rfl rfl ?_
     refine rEnd 13 rfl (nxt (wp_seq (reg ?_)))
     refine rP 0 75 (pt W3.heap.size 0) rfl rfl ?_
     refine rQ 1 76 _ rfl rfl (ld 5 75 W3.heap.size 0 (.int .u8 ((FF1.kind.toNat : Nat) : Int)) (show World.cell? _ ⟨_, 0 + 0, _⟩ = _ from segs_cell (frmL_sz hIn1.ok.sum hIn1.ok.key FF1.att.hk FF1.att.hr FF1.att.ht hIn1.ok.root) (range_row (Chg.hp ch25 (Chg.hp ch24 (Chg.hp ch23 (Chg.hp ch22 (Chg.hp ch21 (Chg.hp ch11 (Chg.hp ch10 (Chg.hp ch9 (Chg.hp ch8 (Chg.hp ch7 (Chg.hp ch6 hb2 trivial) trivial) (off_blk (fun gz hgz => by have := ow2.lt gz hgz; omega))) trivial) (off_blk (fun gz hgz => by have := ow3.lt gz hgz; omega))) trivial) trivial) ⟨by omega, trivial⟩) trivial) trivial) ⟨by omega, trivial⟩)) 0 rfl rfl)) ?_
     by_cases hx6 : ((FF1.kind.toNat : Nat) : Int) > (4 : Int)
     ·refine rQ 2 77 _ rfl rfl (qboolT (b := decide (((FF1.kind.toNat : Nat) : Int) > (4 : Int))) (decide_eq_true (by first | exact hx6 | omega))) ?_
      refine rP 3 78 (.bool true) rfl rfl ?_
      refine rP 4 79 (.int .i64 5) rfl rfl ?_
      refine rQ 5 80 _ rfl rfl (qboolF (b := ((5 : Int) != (5 : Int))) (bne_eq_false_iff_eq.2 (by decide))) ?_
      refine rP 6 81 (.bool false) rfl rfl ?_
      refine rP 7 82 (.bool false) rfl rfl ?_
      refine rP 8 83 (.int .i64 5) rfl rfl ?_
      refine rQ 9 84 _ rfl rfl (qboolF (b := ((5 : Int) == (0 : Int))) (beq_eq_false_iff_ne.2 (by decide))) ?_
      refine rP 10 85 (.bool false) rfl rfl ?_
      refine rP 11 15 (.bool false) rfl rfl ?_
      refine rEnd 12 rfl (nxt (wp_seq (reg ?_)))
      refine rP 0 86 (.int .i64 5) rfl rfl ?_
      refine rQ 1 87 _ rfl rfl (qboolT (b := ((5 : Int) == (5 : Int))) (beq_iff_eq.2 (by decide))) ?_
      refine rP 2 88 (.bool true) rfl rfl ?_
      refine rPass 3 (some 89) rfl rfl (by kernel_rfl) ?_
      refine rPass 4 (some 90) rfl rfl (by kernel_rfl) ?_
      refine rPass 5 (some 91) rfl rfl (by kernel_rfl) ?_
      refine rPass 6 (some 92) rfl rfl (by kernel_rfl) ?_
      refine rPass 7 (some 93) rfl rfl (by kernel_rfl) ?_
      refine rPass 8 (some 94) rfl rfl (by kernel_rfl) ?_
      refine rPass 9 (some 95) rfl rfl (by kernel_rfl) ?_
      refine rP 10 96 (.bool true) rfl rfl ?_
      refine rP 11 97 (.bool true) rfl rfl ?_
      refine rPass 12 (some 98) rfl rfl (by kernel_rfl) ?_
      refine rPass 13 (some 99) rfl rfl (by kernel_rfl) ?_
      refine rP 14 100 (.bool true) rfl rfl ?_
      refine rP 15 101 (.bool true) rfl rfl ?_
      refine rP 16 102 (.bool false) rfl rfl ?_
      refine rP 17 103 (.bool true) rfl rfl ?_
      refine rP 18 104 (.bool true) rfl rfl ?_
      refine rP 19 105 (.bool true) rfl rfl ?_
      refine rC 20 106 6 [] #[] [] rfl rfl rfl ?_
      have kk35 := Chg.step kk34 ch23 trivial
      have kk36 := Chg.step kk35 ch24 trivial
      have kk37 := Chg.step kk36 ch25 ⟨.inr (by omega), trivial⟩
      refine (Known25_any W26 (HV.out.below (Chg.below0 kk37))).mono ?_
      rintro _ W27 ⟨rfl, ch26⟩
      have zz26 := ch26.size
      refine ⟨_, rfl, ?_⟩
      refine rP 21 107 (.bool true) rfl rfl ?_
      refine rP 22 6 (.bool true) rfl rfl ?_
      refine rEnd 23 rfl (nxt (wp_ret ?_))
      have kk38 := Chg.step kk37 ch26 trivial
      refine Wk.ret (.bool true) rfl (by kernel_rfl) ?_
      exact ⟨rfl, Chg.below0 kk38⟩
     refine rQ 2 77 _ rfl rfl (qboolF (b := decide (((FF1.kind.toNat : Nat) : Int) > (4 : Int))) (decide_eq_false (by first | exact hx6 | omega))) ?_
     refine rP 3 78 (.bool false) rfl rfl ?_
     refine rPass 4 (some 79) rfl rfl (by kernel_rfl) ?_
     refine rPass 5 (some 80) rfl rfl (by kernel_rfl) ?_
     refine rP 6 81 (.bool false) rfl rfl ?_
     refine rP 7 82 (.bool false) rfl rfl ?_
     refine rP 8 83 (.int .i64 5) rfl rfl ?_
     refine rQ 9 84 _ rfl rfl (qboolF (b := ((5 : Int) == (0 : Int))) (beq_eq_false_iff_ne.2 (by decide))) ?_
     refine rP 10 85 (.bool false) rfl rfl ?_
     refine rP 11 15 (.bool false) rfl rfl ?_
     refine rEnd 12 rfl (nxt (wp_seq (reg ?_)))
     refine rP 0 86 (.int .i64 5) rfl rfl ?_
     refine rQ 1 87 _ rfl rfl (qboolT (b := ((5 : Int) == (5 : Int))) (beq_iff_eq.2 (by decide))) ?_
     refine rP 2 88 (.bool true) rfl rfl ?_
     refine rPass 3 (some 89) rfl rfl (by kernel_rfl) ?_
     refine rPass 4 (some 90) rfl rfl (by kernel_rfl) ?_
     refine rPass 5 (some 91) rfl rfl (by kernel_rfl) ?_
     refine rPass 6 (some 92) rfl rfl (by kernel_rfl) ?_
     refine rPass 7 (some 93) rfl rfl (by kernel_rfl) ?_
     refine rPass 8 (some 94) rfl rfl (by kernel_rfl) ?_
     refine rPass 9 (some 95) rfl rfl (by kernel_rfl) ?_
     refine rP 10 96 (.bool true) rfl rfl ?_
     refine rP 11 97 (.bool true) rfl rfl ?_
     refine rPass 12 (some 98) rfl rfl (by kernel_rfl) ?_
     refine rPass 13 (some 99) rfl rfl (by kernel_rfl) ?_
     refine rP 14 100 (.bool true) rfl rfl ?_
     refine rP 15 101 (.bool true) rfl rfl ?_
     refine rP 16 102 (.bool false) rfl rfl ?_
     refine rP 17 103 (.bool true) rfl rfl ?_
     refine rP 18 104 (.bool true) rfl rfl ?_
     refine rP 19 105 (.bool true) rfl rfl ?_
     refine rC 20 106 6 [] #[] [] rfl rfl rfl ?_
     have kk39 := Chg.step kk34 ch23 trivial
     have kk40 := Chg.step kk39 ch24 trivial
     have kk41 := Chg.step kk40 ch25 ⟨.inr (by omega), trivial⟩
     refine (Known25_any W26 (HV.out.below (Chg.below0 kk41))).mono ?_
     rintro _ W28 ⟨rfl, ch27⟩
     have zz27 := ch27.size
     refine ⟨_, rfl, ?_⟩
     refine rP 21 107 (.bool true) rfl rfl ?_
     refine rP 22 6 (.bool true) rfl rfl ?_
     refine rEnd 23 rfl (nxt (wp_ret ?_))
     have kk42 := Chg.step kk41 ch27 trivial
     refine Wk.ret (.bool true) rfl (by kernel_rfl) ?_
     exact ⟨rfl, Chg.below0 kk42⟩
    exfalso; rw [show m - 1 = b.length - 1 by omega, read_one_less htd1] at htd4; cases htd4
   exfalso; rw [read_more htd1 more] at htd2; split at htd2 <;> cases htd2
  exact absurd (bytes_read htd1).1 hmy1
 ·refine ⟨_, rfl, ?_⟩
  refine rP 3 25 (.tuple #[.agg ((frmP (headM 0 0 0) ZZ1).flatten.toArray), .int .i64 3]) rfl rfl ?_
  refine rP 4 29 (.agg ((frmP (headM 0 0 0) ZZ1).flatten.toArray)) rfl rfl ?_
  refine rP 5 30 (.int .i64 3) rfl rfl ?_
  refine rX 6 7 rfl rfl (new_ex (pt W3.heap.size 0) ((frmh 0 0 0).flatten.toArray) 39 (by kernel_rfl)) ?_
  rintro _ W29 ⟨rfl, hb13, ch28, sz8⟩
  have zz28 := ch28.size
  refine rY 7 rfl rfl (Mur.storeArr 39 (.tmp 7) (.tmp 29) rfl W3.heap.size (by kernel_rfl) (frmP (headM 0 0 0) ZZ1).flatten.toArray 213 (frmL_size (frmL_sz (frmIn_head 0 (by decide) (by decide)).ok.sum (frmIn_head 0 (by decide) (by decide)).ok.key (headM 0 0 0).att.hk (headM 0 0 0).att.hr (headM 0 0 0).att.ht (frmIn_head 0 (by decide) (by decide)).ok.root)) frmL_all (by kernel_rfl) (by kernel_rfl) 39 ((frmh 0 0 0).flatten.toArray) hb13 (frmL_size (frmL_sz rfl rfl rfl rfl rfl rfl))) ?_
  rintro W30 ⟨hb14, ch29⟩
  have zz29 := ch29.size
  refine rP 8 8 (.int .i64 3) rfl rfl ?_
  refine rEnd 9 rfl (nxt (wp_seq (wp_seq (reg ?_))))
  refine rP 0 31 (.int .i64 3) rfl rfl ?_
  refine rQ 1 32 _ rfl rfl (qboolT (b := ((3 : Int) != (0 : Int))) (bne_iff_ne.2 (by decide))) ?_
  refine rEnd 2 rfl (nxt (wp_cond_true (by kernel_rfl) (wp_seq (reg ?_))))
  refine rC 0 33 6 [] #[] [] rfl rfl rfl ?_
  have kk43 : Chg [] w W3 := Chg.step ((Chg.refl _).more (by simp)) ch3 trivial
  have kk44 := Chg.step kk43 ch28 trivial
  have kk45 := Chg.step kk44 ch29 ⟨.inr (by omega), trivial⟩
  refine (Known25_any W30 (HV.out.below (Chg.below0 kk45))).mono ?_
  rintro _ W31 ⟨rfl, ch30⟩
  have zz30 := ch30.size
  refine ⟨_, rfl, ?_⟩
  refine rP 1 6 (.bool true) rfl rfl ?_
  refine rEnd 2 rfl (nxt (wp_ret (thR ?_)))
  have kk46 := Chg.step kk45 ch30 trivial
  refine Wk.ret (.bool true) rfl (by kernel_rfl) ?_
  exact ⟨rfl, Chg.below0 kk46⟩
 ·refine ⟨_, rfl, ?_⟩
  refine rP 3 25 (.tuple #[.agg ((frmP (headM 0 0 0) ZZ1).flatten.toArray), .int .i64 5]) rfl rfl ?_
  refine rP 4 29 (.agg ((frmP (headM 0 0 0) ZZ1).flatten.toArray)) rfl rfl ?_
  refine rP 5 30 (.int .i64 5) rfl rfl ?_
  refine rX 6 7 rfl rfl (new_ex (pt W3.heap.size 0) ((frmh 0 0 0).flatten.toArray) 39 (by kernel_rfl)) ?_
  rintro _ W32 ⟨rfl, hb15, ch31, sz9⟩
  have zz31 := ch31.size
  refine rY 7 rfl rfl (Mur.storeArr 39 (.tmp 7) (.tmp 29) rfl W3.heap.size (by kernel_rfl) (frmP (headM 0 0 0) ZZ1).flatten.toArray 213 (frmL_size (frmL_sz (frmIn_head 0 (by decide) (by decide)).ok.sum (frmIn_head 0 (by decide) (by decide)).ok.key (headM 0 0 0).att.hk (headM 0 0 0).att.hr (headM 0 0 0).att.ht (frmIn_head 0 (by decide) (by decide)).ok.root)) frmL_all (by kernel_rfl) (by kernel_rfl) 39 ((frmh 0 0 0).flatten.toArray) hb15 (frmL_size (frmL_sz rfl rfl rfl rfl rfl rfl))) ?_
  rintro W33 ⟨hb16, ch32⟩
  have zz32 := ch32.size
  refine rP 8 8 (.int .i64 5) rfl rfl ?_
  refine rEnd 9 rfl (nxt (wp_seq (wp_seq (reg ?_))))
  refine rP 0 31 (.int .i64 5) rfl rfl ?_
  refine rQ 1 32 _ rfl rfl (qboolT (b := ((5 : Int) != (0 : Int))) (bne_iff_ne.2 (by decide))) ?_
  refine rEnd 2 rfl (nxt (wp_cond_true (by kernel_rfl) (wp_seq (reg ?_))))
  refine rC 0 33 6 [] #[] [] rfl rfl rfl ?_
  have kk47 : Chg [] w W3 := Chg.step ((Chg.refl _).more (by simp)) ch3 trivial
  have kk48 := Chg.step kk47 ch31 trivial
  have kk49 := Chg.step kk48 ch32 ⟨.inr (by omega), trivial⟩
  refine (Known25_any W33 (HV.out.below (Chg.below0 kk49))).mono ?_
  rintro _ W34 ⟨rfl, ch33⟩
  have zz33 := ch33.size
  refine ⟨_, rfl, ?_⟩
  refine rP 1 6 (.bool true) rfl rfl ?_
  refine rEnd 2 rfl (nxt (wp_ret (thR ?_)))
  have kk50 := Chg.step kk49 ch33 trivial
  refine Wk.ret (.bool true) rfl (by kernel_rfl) ?_
  exact ⟨rfl, Chg.below0 kk50⟩
 refine ⟨_, rfl, ?_⟩
 refine rP 3 25 (.tuple #[.agg ((frmP (headM 0 0 0) ZZ1).flatten.toArray), .int .i64 250]) rfl rfl ?_
 refine rP 4 29 (.agg ((frmP (headM 0 0 0) ZZ1).flatten.toArray)) rfl rfl ?_
 refine rP 5 30 (.int .i64 250) rfl rfl ?_
 refine rX 6 7 rfl rfl (new_ex (pt W3.heap.size 0) ((frmh 0 0 0).flatten.toArray) 39 (by kernel_rfl)) ?_
 rintro _ W35 ⟨rfl, hb17, ch34, sz10⟩
 have zz34 := ch34.size
 refine rY 7 rfl rfl (Mur.storeArr 39 (.tmp 7) (.tmp 29) rfl W3.heap.size (by kernel_rfl) (frmP (headM 0 0 0) ZZ1).flatten.toArray 213 (frmL_size (frmL_sz (frmIn_head 0 (by decide) (by decide)).ok.sum (frmIn_head 0 (by decide) (by decide)).ok.key (headM 0 0 0).att.hk (headM 0 0 0).att.hr (headM 0 0 0).att.ht (frmIn_head 0 (by decide) (by decide)).ok.root)) frmL_all (by kernel_rfl) (by kernel_rfl) 39 ((frmh 0 0 0).flatten.toArray) hb17 (frmL_size (frmL_sz rfl rfl rfl rfl rfl rfl))) ?_
 rintro W36 ⟨hb18, ch35⟩
 have zz35 := ch35.size
 refine rP 8 8 (.int .i64 250) rfl rfl ?_
 refine rEnd 9 rfl (nxt (wp_seq (wp_seq (reg ?_))))
 refine rP 0 31 (.int .i64 250) rfl rfl ?_
 refine rQ 1 32 _ rfl rfl (qboolT (b := ((250 : Int) != (0 : Int))) (bne_iff_ne.2 (by decide))) ?_
 refine rEnd 2 rfl (nxt (wp_cond_true (by kernel_rfl) (wp_seq (reg ?_))))
 refine rC 0 33 6 [] #[] [] rfl rfl rfl ?_
 have kk51 : Chg [] w W3 := Chg.step ((Chg.refl _).more (by simp)) ch3 trivial
 have kk52 := Chg.step kk51 ch34 trivial
 have kk53 := Chg.step kk52 ch35 ⟨.inr (by omega), trivial⟩
 refine (Known25_any W36 (HV.out.below (Chg.below0 kk53))).mono ?_
 rintro _ W37 ⟨rfl, ch36⟩
 have zz36 := ch36.size
 refine ⟨_, rfl, ?_⟩
 refine rP 1 6 (.bool true) rfl rfl ?_
 refine rEnd 2 rfl (nxt (wp_ret (thR ?_)))
 have kk54 := Chg.step kk53 ch36 trivial
 refine Wk.ret (.bool true) rfl (by kernel_rfl) ?_
 exact ⟨rfl, Chg.below0 kk54⟩
end Go.Proofs.YtgbadghjnpbiaaaDoor
