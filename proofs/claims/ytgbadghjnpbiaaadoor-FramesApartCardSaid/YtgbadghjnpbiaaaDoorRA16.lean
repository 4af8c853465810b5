/- What the row rests on, part 16. -/
import Derived.Test.YtgbadghjnpbiaaaDoorProg
import Derived.Test.YtgbadghjnpbiaaaDoorRA6
import Derived.Test.YtgbadghjnpbiaaaDoorRA14
import Derived.Test.YtgbadghjnpbiaaaDoorRA15
import Derived.Test.YtgbadghjnpbiaaaDoorRA2
import Derived.Test.YtgbadghjnpbiaaaDoorRA3
import Derived.Test.YtgbadghjnpbiaaaDoorRA5
namespace Go.Proofs.YtgbadghjnpbiaaaDoor
open Go.RowKit Wk
open Mur (b8s Byt Own8 Seg Segs flat cutA attC Att SlA OwnA rowA msgC frmP zs0 frmL sl0 z32 run_built frmL_size frmL_sz frmL_all hmac_length byt_row lies_none want_in bytesFM want_bytes want_read clm_read headM frmIn_head run_str byt_chg)
set_option maxRecDepth 100000
set_option maxHeartbeats 4000000
theorem Want_any (b : Int) (w : World) : Calls Tryd.prog 14 #[.int .i64 b] w fun e w' => e = .returned (.agg (frmP (Mur.wantM b) zs0).flatten.toArray) ∧ Chg [] w w' := by
 refine calls_of_wp Tryd.func14 rfl ?_
 refine wp_seq (reg ?_)
 refine rX 0 2 rfl rfl (new_ex (pt w.heap.size 0) ((frmh 0 0 0).flatten.toArray) 39 (by kernel_rfl)) ?_
 rintro _ W1 ⟨rfl, hb1, ch1, sz1⟩
 have zz1 := ch1.size
 refine rEnd 1 rfl (nxt (wp_seq (reg ?_)))
 refine rP 0 3 (.int .i64 b) ?_
 refine rQ 1 4 (.agg ((frmL 5 1 b 0 0 0 0 sl0 0 sl0 z32 0 sl0 false z32 0 0 0 false z32 z32 0 z32 z32 3 sl0 sl0).flatten.toArray)) rfl rfl (run_built 39 _ rfl [(0, .int .u8 5), (1, .int .i64 1), (2, .int .i64 b), (8, .int .i64 3)] (by kernel_rfl) _ (built_want b)) ?_
 refine rY 2 rfl rfl (Mur.storeArr 39 (.tmp 2) (.tmp 4) rfl w.heap.size (by kernel_rfl) (frmL 5 1 b 0 0 0 0 sl0 0 sl0 z32 0 sl0 false z32 0 0 0 false z32 z32 0 z32 z32 3 sl0 sl0).flatten.toArray 213 (frmL_size (frmL_sz rfl rfl rfl rfl rfl rfl)) frmL_all (by kernel_rfl) (by kernel_rfl) 39 ((frmh 0 0 0).flatten.toArray) hb1 (frmL_size (frmL_sz rfl rfl rfl rfl rfl rfl))) ?_
 rintro W2 ⟨hb2, ch2⟩
 have zz2 := ch2.size
 refine rEnd 3 rfl (nxt (wp_ret ?_))
 have kk1 : Chg [] w W1 := Chg.step ((Chg.refl _).more (by simp)) ch1 trivial
 have kk2 := Chg.step kk1 ch2 ⟨.inr (by omega), trivial⟩
 refine Wk.ret (.agg (frmL 5 1 b 0 0 0 0 sl0 0 sl0 z32 0 sl0 false z32 0 0 0 false z32 z32 0 z32 z32 3 sl0 sl0).flatten.toArray) rfl (results_cell_row rfl _ _ w.heap.size 39 (frmL 5 1 b 0 0 0 0 sl0 0 sl0 z32 0 sl0 false z32 0 0 0 false z32 z32 0 z32 z32 3 sl0 sl0).flatten.toArray (0, 0) _ (by kernel_rfl) hb2 Tryd.underlying39 rfl (by rw [(frmL_size (frmL_sz rfl rfl rfl rfl rfl rfl))]; kernel_rfl)) ?_
 exact ⟨rfl, kk2⟩
theorem Known25_any (w : World) (hv : ShaVars w) : Calls Tryd.prog 6 #[] w fun e w' => e = .returned (.bool true) ∧ Chg [] w w' := by
 have HV := Go.Lib.hid hv
 clear hv
 have hml_ : Go.maxLen = 9223372036854775807 := rfl
 obtain ⟨Ts, hTs⟩ : ∃ T : List UInt8 → List UInt8, ∀ x, T x = Mur.hmac [115] (18 :: x) := ⟨_, fun _ => rfl⟩
 have hTsl : ∀ x, (Ts x).length = 32 := fun x => by rw [hTs]; exact hmac_length _ _
 obtain ⟨Tt, hTt⟩ : ∃ T : List UInt8 → List UInt8, ∀ x, T x = Mur.hmac [116] (18 :: x) := ⟨_, fun _ => rfl⟩
 have hTtl : ∀ x, (Tt x).length = 32 := fun x => by rw [hTt]; exact hmac_length _ _
 refine calls_of_wp Tryd.func6 rfl ?_
 refine wp_seq (reg ?_)
 refine rP 0 0 (.bool false) ?_
 refine rEnd 1 rfl (nxt (wp_seq (reg ?_)))
 refine rX 0 13 rfl rfl (new_ex (.slice (some ⟨w.heap.size, 0, none⟩) 1 1) #[.int .u8 115] 5 (by kernel_rfl)) ?_
 rintro _ W1 ⟨rfl, hb1, ch1, sz1⟩
 have zz1 := ch1.size
 refine rX 1 14 rfl rfl (Mur.run_mark 22 (.tmp 13) 5 rfl Tryd.underlying22 Tryd.underlying5 w.heap.size 1 1 #[.int .u8 115] (by kernel_rfl) hb1) ?_
 rintro _ W2 ⟨rfl, hb2, ch2⟩
 have zz2 := ch2.size
 refine rC 2 15 14 [.const (.int .i64 2)] #[3] [.int .i64 2] ?_
 refine (Want_any 2 W2).mono ?_
 rintro _ W3 ⟨rfl, ch3⟩
 have zz3 := ch3.size
 refine ⟨_, rfl, ?_⟩
 refine rC 3 16 8 [.tmp 14, .tmp 15] #[22, 39] [.slice (some ⟨w.heap.size, 0, none⟩) 1 1, .agg ((frmP (Mur.wantM 2) zs0).flatten.toArray)] ?_
 have kk1 : Chg [] w W1 := Chg.step ((Chg.refl _).more (by simp)) ch1 trivial
 have kk2 := Chg.step kk1 ch2 ⟨.inr (by omega), trivial⟩
 have kk3 := Chg.step kk2 ch3 trivial
 refine (BytesF_any ([115]) (some ⟨w.heap.size, 0, none⟩) 1 1 Ts (Mur.wantM 2) zs0 W3 (HV.out.below (Chg.below0 kk3)) (byt_row [115] (Chg.hp ch3 hb2 trivial)) ⟨by omega, by omega⟩ (fun h => by cases h) (by omega) hTs hTsl (lies_none rfl rfl rfl rfl rfl) (want_in 2 (by omega))).mono ?_
 rintro _ W4 ⟨AA1, nn1, cc1, er1, rfl, hc1, ch4⟩
 have zz4 := ch4.size
 rcases hc1 with ⟨hmy1, rfl, ow1⟩ | ⟨hmy1, rfl, rfl, rfl, rfl⟩
 ·have hq1 := ow1.nc
  have hq2 := ow1.cm
  have hq3 := ow1.byt.1
  have hlb1 : (bytesFM Ts (Mur.wantM 2)).length = 40 := (congrArg List.length (want_bytes Ts)).trans rfl
  refine ⟨_, rfl, ?_⟩
  refine rP 4 12 (.tuple #[.slice AA1 nn1 cc1, .int .i64 0]) ?_
  refine rP 5 17 (.slice AA1 nn1 cc1) ?_
  refine rP 6 18 (.int .i64 0) ?_
  refine rP 7 1 (.slice AA1 nn1 cc1) ?_
  refine rP 8 2 (.int .i64 0) ?_
  refine rEnd 9 rfl (nxt (wp_seq (reg ?_)))
  refine rX 0 20 rfl rfl (new_ex (.slice (some ⟨W4.heap.size, 0, none⟩) 1 1) #[.int .u8 115] 5 (by kernel_rfl)) ?_
  rintro _ W5 ⟨rfl, hb3, ch5, sz2⟩
  have zz5 := ch5.size
  refine rX 1 21 rfl rfl (Mur.run_mark 22 (.tmp 20) 5 rfl Tryd.underlying22 Tryd.underlying5 W4.heap.size 1 1 #[.int .u8 115] (by kernel_rfl) hb3) ?_
  rintro _ W6 ⟨rfl, hb4, ch6⟩
  have zz6 := ch6.size
  refine rC 2 22 14 [.const (.int .i64 1)] #[3] [.int .i64 1] ?_
  refine (Want_any 1 W6).mono ?_
  rintro _ W7 ⟨rfl, ch7⟩
  have zz7 := ch7.size
  refine ⟨_, rfl, ?_⟩
  refine rC 3 23 8 [.tmp 21, .tmp 22] #[22, 39] [.slice (some ⟨W4.heap.size, 0, none⟩) 1 1, .agg ((frmP (Mur.wantM 1) zs0).flatten.toArray)] ?_
  have kk4 := Chg.step kk3 ch4 trivial
  have kk5 := Chg.step kk4 ch5 trivial
  have kk6 := Chg.step kk5 ch6 ⟨.inr (by omega), trivial⟩
  have kk7 := Chg.step kk6 ch7 trivial
  refine (BytesF_any ([115]) (some ⟨W4.heap.size, 0, none⟩) 1 1 Ts (Mur.wantM 1) zs0 W7 (HV.out.below (Chg.below0 kk7)) (byt_row [115] (Chg.hp ch7 hb4 trivial)) ⟨by omega, by omega⟩ (fun h => by cases h) (by omega) hTs hTsl (lies_none rfl rfl rfl rfl rfl) (want_in 1 (by omega))).mono ?_
  rintro _ W8 ⟨AA2, nn2, cc2, er2, rfl, hc2, ch8⟩
  have zz8 := ch8.size
  rcases hc2 with ⟨hmy2, rfl, ow2⟩ | ⟨hmy2, rfl, rfl, rfl, rfl⟩
  ·exact absurd hmy2 Mur.want_no
  refine ⟨_, rfl, ?_⟩
  refine rP 4 19 (.tuple #[.slice none 0 0, .int .i64 2]) ?_
  refine rP 5 24 (.slice none 0 0) ?_
  refine rP 6 25 (.int .i64 2) ?_
  refine rP 7 3 (.slice none 0 0) ?_
  refine rP 8 4 (.int .i64 2) ?_
  refine rEnd 9 rfl (nxt (wp_seq (reg ?_)))
  refine rX 0 27 rfl rfl (new_ex (.slice (some ⟨W8.heap.size, 0, none⟩) 1 1) #[.int .u8 116] 5 (by kernel_rfl)) ?_
  rintro _ W10 ⟨rfl, hb5, ch9, sz3⟩
  have zz9 := ch9.size
  refine rX 1 28 rfl rfl (Mur.run_mark 22 (.tmp 27) 5 rfl Tryd.underlying22 Tryd.underlying5 W8.heap.size 1 1 #[.int .u8 116] (by kernel_rfl) hb5) ?_
  rintro _ W11 ⟨rfl, hb6, ch10⟩
  have zz10 := ch10.size
  refine rP 2 29 (.slice AA1 nn1 cc1) ?_
  refine rC 3 30 7 [.tmp 28, .tmp 29] #[22, 22] [.slice (some ⟨W8.heap.size, 0, none⟩) 1 1, .slice AA1 nn1 cc1] ?_
  have ow3 := Mur.own8 (own_chg ow1.own ch5 (fun q e _ _ => trivial))
  have ow4 := Mur.own8 (own_chg ow3.own ch6 (fun q e _ _ => ⟨by have := ow1.lt q e; omega, trivial⟩))
  have ow5 := Mur.own8 (own_chg ow4.own ch7 (fun q e _ _ => trivial))
  have ow6 := Mur.own8 (own_chg ow5.own ch8 (fun q e _ _ => trivial))
  have ow7 := Mur.own8 (own_chg ow6.own ch9 (fun q e _ _ => trivial))
  have ow8 := Mur.own8 (own_chg ow7.own ch10 (fun q e _ _ => ⟨by have := ow1.lt q e; omega, trivial⟩))
  have kk8 := Chg.step kk7 ch8 trivial
  have kk9 := Chg.step kk8 ch9 trivial
  have kk10 := Chg.step kk9 ch10 ⟨.inr (by omega), trivial⟩
  refine (ReadF_any ([116]) (some ⟨W8.heap.size, 0, none⟩) 1 1 Tt (bytesFM Ts (Mur.wantM 2)) AA1 nn1 cc1 W11 (HV.out.below (Chg.below0 kk10)) (byt_row [116] hb6) ⟨by omega, by omega⟩ (fun h => by cases h) (by omega) hTt hTtl ow8.byt ⟨by omega, by omega⟩ ow8.nil).mono ?_
  rintro _ W12 ⟨FF1, ZZ1, er3, rfl, hLs1, hZin1, hc3, ch11⟩
  have zz11 := ch11.size
  rcases hc3 with ⟨rfl, htd1, hIn1⟩ | ⟨rfl, htd1, rfl⟩ | ⟨rfl, htd1, rfl⟩ | ⟨rfl, htd1, rfl⟩
  ·obtain rfl : FF1 = Mur.wantM 2 := by have h_ := htd1.symm.trans (want_read Ts Tt hTsl); injection h_
   refine ⟨_, rfl, ?_⟩
   refine rP 4 26 (.tuple #[.agg ((frmP (Mur.wantM 2) ZZ1).flatten.toArray), .int .i64 0]) ?_
   refine rP 5 31 (.agg ((frmP (Mur.wantM 2) ZZ1).flatten.toArray)) ?_
   refine rP 6 32 (.int .i64 0) ?_
   refine rX 7 5 rfl rfl (new_ex (pt W12.heap.size 0) ((frmh 0 0 0).flatten.toArray) 39 (by kernel_rfl)) ?_
   rintro _ W13 ⟨rfl, hb7, ch12, sz4⟩
   have zz12 := ch12.size
   refine rY 8 rfl rfl (Mur.storeArr 39 (.tmp 5) (.tmp 31) rfl W12.heap.size (by kernel_rfl) (frmP (Mur.wantM 2) ZZ1).flatten.toArray 213 (frmL_size (frmL_sz (want_in 2 (by omega)).ok.sum (want_in 2 (by omega)).ok.key (Mur.wantM 2).att.hk (Mur.wantM 2).att.hr (Mur.wantM 2).att.ht (want_in 2 (by omega)).ok.root)) frmL_all (by kernel_rfl) (by kernel_rfl) 39 ((frmh 0 0 0).flatten.toArray) hb7 (frmL_size (frmL_sz rfl rfl rfl rfl rfl rfl))) ?_
   rintro W14 ⟨hb8, ch13⟩
   have zz13 := ch13.size
   refine rP 9 6 (.int .i64 0) ?_
   refine rEnd 10 rfl (nxt (wp_seq (reg ?_)))
   refine rQ 0 33 (.agg ((Mur.claimC z32 1 0 0 false).toArray)) rfl rfl (run_built 34 _ rfl [(1, .int .i64 1)] (by kernel_rfl) _ built_claim1) ?_
   refine rQ 1 34 (.agg ((frmL 3 1 2 0 0 0 0 sl0 0 sl0 z32 0 sl0 false z32 1 0 0 false z32 z32 0 z32 z32 0 sl0 sl0).flatten.toArray)) rfl rfl (run_built 39 _ rfl [(0, .int .u8 3), (1, .int .i64 1), (2, .int .i64 2), (5, .agg ((Mur.claimC z32 1 0 0 false).toArray))] (by kernel_rfl) _ built_frmc) ?_
   refine rX 2 7 rfl rfl (new_ex (pt W14.heap.size 0) ((frmh 0 0 0).flatten.toArray) 39 (by kernel_rfl)) ?_
   rintro _ W15 ⟨rfl, hb9, ch14, sz5⟩
   have zz14 := ch14.size
   refine rY 3 rfl rfl (Mur.storeArr 39 (.tmp 7) (.tmp 34) rfl W14.heap.size (by kernel_rfl) (frmL 3 1 2 0 0 0 0 sl0 0 sl0 z32 0 sl0 false z32 1 0 0 false z32 z32 0 z32 z32 0 sl0 sl0).flatten.toArray 213 (frmL_size (frmL_sz rfl rfl rfl rfl rfl rfl)) frmL_all (by kernel_rfl) (by kernel_rfl) 39 ((frmh 0 0 0).flatten.toArray) hb9 (frmL_size (frmL_sz rfl rfl rfl rfl rfl rfl))) ?_
   rintro W16 ⟨hb10, ch15⟩
   have zz15 := ch15.size
   refine rEnd 4 rfl (nxt (wp_seq (reg ?_)))
   refine rX 0 36 rfl rfl (new_ex (.slice (some ⟨W16.heap.size, 0, none⟩) 1 1) #[.int .u8 115] 5 (by kernel_rfl)) ?_
   rintro _ W17 ⟨rfl, hb11, ch16, sz6⟩
   have zz16 := ch16.size
   refine rX 1 37 rfl rfl (Mur.run_mark 22 (.tmp 36) 5 rfl Tryd.underlying22 Tryd.underlying5 W16.heap.size 1 1 #[.int .u8 115] (by kernel_rfl) hb11) ?_
   rintro _ W18 ⟨rfl, hb12, ch17⟩
   have zz17 := ch17.size
   refine rQ 2 38 (.agg ((frmL 3 1 2 0 0 0 0 sl0 0 sl0 z32 0 sl0 false z32 1 0 0 false z32 z32 0 z32 z32 0 sl0 sl0).flatten.toArray)) rfl rfl (Mur.loadArr 39 (.tmp 7) rfl _ Tryd.underlying39 rfl W14.heap.size (by kernel_rfl) (frmL 3 1 2 0 0 0 0 sl0 0 sl0 z32 0 sl0 false z32 1 0 0 false z32 z32 0 z32 z32 0 sl0 sl0).flatten.toArray 213 (frmL_size (frmL_sz rfl rfl rfl rfl rfl rfl)) (by kernel_rfl) 39 (0, 0) (Chg.hp ch17 (Chg.hp ch16 hb10 trivial) ⟨by omega, trivial⟩)) ?_
   refine rC 3 39 8 [.tmp 37, .tmp 38] #[22, 39] [.slice (some ⟨W16.heap.size, 0, none⟩) 1 1, .agg ((frmL 3 1 2 0 0 0 0 sl0 0 sl0 z32 0 sl0 false z32 1 0 0 false z32 z32 0 z32 z32 0 sl0 sl0).flatten.toArray)] ?_
   have kk11 := Chg.step kk10 ch11 trivial
   have kk12 := Chg.step kk11 ch12 trivial
   have kk13 := Chg.step kk12 ch13 ⟨.inr (by omega), trivial⟩
   have kk14 := Chg.step kk13 ch14 trivial
   have kk15 := Chg.step kk14 ch15 ⟨.inr (by omega), trivial⟩
   have kk16 := Chg.step kk15 ch16 trivial
   have kk17 := Chg.step kk16 ch17 ⟨.inr (by omega), trivial⟩
   refine (BytesF_any ([115]) (some ⟨W16.heap.size, 0, none⟩) 1 1 Ts Mur.clmM zs0 W18 (HV.out.below (Chg.below0 kk17)) (byt_row [115] hb12) ⟨by omega, by omega⟩ (fun h => by cases h) (by omega) hTs hTsl (lies_none rfl rfl rfl rfl rfl) Mur.clm_in).mono ?_
   rintro _ W19 ⟨AA3, nn3, cc3, er4, rfl, hc4, ch18⟩
   have zz18 := ch18.size
   rcases hc4 with ⟨hmy3, rfl, ow9⟩ | ⟨hmy3, rfl, rfl, rfl, rfl⟩
   ·have hq4 := ow9.nc
    have hq5 := ow9.cm
    have hq6 := ow9.byt.1
    have hlb2 : (bytesFM Ts Mur.clmM).length = 73 := Mur.clm_len Ts hTsl
    refine ⟨_, rfl, ?_⟩
    refine rP 4 35 (.tuple #[.slice AA3 nn3 cc3, .int .i64 0]) ?_
    refine rP 5 40 (.slice AA3 nn3 cc3) ?_
    refine rP 6 41 (.int .i64 0) ?_
    refine rP 7 8 (.slice AA3 nn3 cc3) ?_
    refine rP 8 9 (.int .i64 0) ?_
    refine rEnd 9 rfl (nxt (wp_seq (reg ?_)))
    refine rX 0 43 rfl rfl (new_ex (.slice (some ⟨W19.heap.size, 0, none⟩) 1 1) #[.int .u8 116] 5 (by kernel_rfl)) ?_
    rintro _ W20 ⟨rfl, hb13, ch19, sz7⟩
    have zz19 := ch19.size
    refine rX 1 44 rfl rfl (Mur.run_mark 22 (.tmp 43) 5 rfl Tryd.underlying22 Tryd.underlying5 W19.heap.size 1 1 #[.int .u8 116] (by kernel_rfl) hb13) ?_
    rintro _ W21 ⟨rfl, hb14, ch20⟩
    have zz20 := ch20.size
    refine rP 2 45 (.slice AA3 nn3 cc3) ?_
    refine rC 3 46 7 [.tmp 44, .tmp 45] #[22, 22] [.slice (some ⟨W19.heap.size, 0, none⟩) 1 1, .slice AA3 nn3 cc3] ?_
    have ow10 := Mur.own8 (own_chg ow9.own ch19 (fun q e _ _ => trivial))
    have ow11 := Mur.own8 (own_chg ow10.own ch20 (fun q e _ _ => ⟨by have := ow9.lt q e; omega, trivial⟩))
    have kk18 := Chg.step kk17 ch18 trivial
    have kk19 := Chg.step kk18 ch19 trivial
    have kk20 := Chg.step kk19 ch20 ⟨.inr (by omega), trivial⟩
    refine (ReadF_any ([116]) (some ⟨W19.heap.size, 0, none⟩) 1 1 Tt (bytesFM Ts Mur.clmM) AA3 nn3 cc3 W21 (HV.out.below (Chg.below0 kk20)) (byt_row [116] hb14) ⟨by omega, by omega⟩ (fun h => by cases h) (by omega) hTt hTtl ow11.byt ⟨by omega, by omega⟩ ow11.nil).mono ?_
    rintro _ W22 ⟨FF2, ZZ2, er5, rfl, hLs2, hZin2, hc5, ch21⟩
    have zz21 := ch21.size
    rcases hc5 with ⟨rfl, htd2, hIn2⟩ | ⟨rfl, htd2, rfl⟩ | ⟨rfl, htd2, rfl⟩ | ⟨rfl, htd2, rfl⟩
    ·exact absurd (htd2.symm.trans (clm_read Ts Tt hTs hTt hTsl)) (by intro h_; cases h_)
    ·exact absurd (htd2.symm.trans (clm_read Ts Tt hTs hTt hTsl)) (by intro h_; cases h_)
    ·exact absurd (htd2.symm.trans (clm_read Ts Tt hTs hTt hTsl)) (by intro h_; cases h_)
    refine ⟨_, rfl, ?_⟩
    refine rP 4 42 (.tuple #[.agg ((frmP (headM 0 0 0) ZZ2).flatten.toArray), .int .i64 250]) ?_
    refine rP 5 47 (.agg ((frmP (headM 0 0 0) ZZ2).flatten.toArray)) ?_
    refine rP 6 48 (.int .i64 250) ?_
    refine rX 7 10 rfl rfl (new_ex (pt W22.heap.size 0) ((frmh 0 0 0).flatten.toArray) 39 (by kernel_rfl)) ?_
    rintro _ W23 ⟨rfl, hb15, ch22, sz8⟩
    have zz22 := ch22.size
    refine rY 8 rfl rfl (Mur.storeArr 39 (.tmp 10) (.tmp 47) rfl W22.heap.size (by kernel_rfl) (frmP (headM 0 0 0) ZZ2).flatten.toArray 213 (frmL_size (frmL_sz (frmIn_head 0 (by decide) (by decide)).ok.sum (frmIn_head 0 (by decide) (by decide)).ok.key (headM 0 0 0).att.hk (headM 0 0 0).att.hr (headM 0 0 0).att.ht (frmIn_head 0 (by decide) (by decide)).ok.root)) frmL_all (by kernel_rfl) (by kernel_rfl) 39 ((frmh 0 0 0).flatten.toArray) hb15 (frmL_size (frmL_sz rfl rfl rfl rfl rfl rfl))) ?_
    rintro W24 ⟨hb16, ch23⟩
    have zz23 := ch23.size
    refine rP 9 11 (.int .i64 250) ?_
    refine rEnd 10 rfl (nxt (wp_seq ?_))
    refine dReg ([]) (by kernel_rfl) ?_
    intro W25 ch24 sz9
    have zz24 := ch24.size
    have sS1 : Chg ([]) W25 W25 := (Chg.refl _).more (by simp)
    refine dW 0 49 (.int .i64 0) sS1 ?_
    refine dV 1 50 (.bool true) rfl rfl (fun w' hw' => (boolT (b := ((0 : Int) == (0 : Int))) (beq_iff_eq.2 (by decide)) (by kernel_rfl))) sS1 ?_
    refine dW 2 51 (.bool true) sS1 ?_
    refine dW 3 52 (.int .i64 2) sS1 ?_
    refine dV 4 53 (.bool true) rfl rfl (fun w' hw' => (boolT (b := ((2 : Int) == (2 : Int))) (beq_iff_eq.2 (by decide)) (by kernel_rfl))) sS1 ?_
    refine dW 5 54 (.bool true) sS1 ?_
    refine dW 6 55 (.bool true) sS1 ?_
    refine dW 7 56 (.slice AA1 nn1 cc1) sS1 ?_
    refine dV 8 57 (.string (Mur.str (bytesFM Ts (Mur.wantM 2)))) rfl rfl (fun w' hw' => (run_str 22 9 (.tmp 56) 5 rfl Tryd.underlying22 Tryd.underlying5 Tryd.underlying9 AA1 nn1 cc1 (bytesFM Ts (Mur.wantM 2)) (by kernel_rfl) (byt_chg (byt_chg (byt_chg (byt_chg (byt_chg (byt_chg (byt_chg (byt_chg (byt_chg (byt_chg (byt_chg (byt_chg (byt_chg (byt_chg (byt_chg ow8.byt ch11 (fun g off e hl => trivial)) ch12 (fun g off e hl => trivial)) ch13 (fun g off e hl => ⟨by have := ow8.at_ g off e; omega, trivial⟩)) ch14 (fun g off e hl => trivial)) ch15 (fun g off e hl => ⟨by have := ow8.at_ g off e; omega, trivial⟩)) ch16 (fun g off e hl => trivial)) ch17 (fun g off e hl => ⟨by have := ow8.at_ g off e; omega, trivial⟩)) ch18 (fun g off e hl => trivial)) ch19 (fun g off e hl => trivial)) ch20 (fun g off e hl => ⟨by have := ow8.at_ g off e; omega, trivial⟩)) ch21 (fun g off e hl => trivial)) ch22 (fun g off e hl => trivial)) ch23 (fun g off e hl => ⟨by have := ow8.at_ g off e; omega, trivial⟩)) ch24 (fun g off e hl => trivial)) hw' (fun g off e hl => trivial)))) sS1 ?_
    refine dOp 9 (by kernel_rfl) ?_
    refine oEx (some 58) _ rfl rfl (by kernel_rfl) (new_ex (.slice (some ⟨W25.heap.size, 0, none⟩) 32 32) Z32 5 (by kernel_rfl)) ?_
    rintro _ W26 ⟨rfl, hb17, ch25, sz10⟩
    have zz25 := ch25.size
    have sS2 := Chg.step sS1 ch25 trivial
    refine ⟨sS2, ?_⟩
    refine dOp 10 (by kernel_rfl) ?_
    refine Wk.oVal (some 59) (.string (Mur.str ([0, 0, 0, 0, 0, 0, 0, 0, 0, 0, 0, 0, 0, 0, 0, 0, 0, 0, 0, 0, 0, 0, 0, 0, 0, 0, 0, 0, 0, 0, 0, 0]))) rfl rfl (by kernel_rfl) (run_str 22 9 (.tmp 58) 5 rfl Tryd.underlying22 Tryd.underlying5 Tryd.underlying9 (some ⟨W25.heap.size, 0, none⟩) 32 32 ([0, 0, 0, 0, 0, 0, 0, 0, 0, 0, 0, 0, 0, 0, 0, 0, 0, 0, 0, 0, 0, 0, 0, 0, 0, 0, 0, 0, 0, 0, 0, 0]) (by kernel_rfl) (byt_row [0, 0, 0, 0, 0, 0, 0, 0, 0, 0, 0, 0, 0, 0, 0, 0, 0, 0, 0, 0, 0, 0, 0, 0, 0, 0, 0, 0, 0, 0, 0, 0] hb17)) ?_
    refine ⟨sS2, ?_⟩
    refine dV 11 60 (.string (Mur.str (([1, 5, 1, 1, 1, 2]) ++ ([0, 0, 0, 0, 0, 0, 0, 0, 0, 0, 0, 0, 0, 0, 0, 0, 0, 0, 0, 0, 0, 0, 0, 0, 0, 0, 0, 0, 0, 0, 0, 0])))) rfl rfl (fun w' hw' => (Mur.stradd 9 9 (.const (.string ({ data := #[1, 5, 1, 1, 1, 2] }))) (.tmp 59) rfl ([1, 5, 1, 1, 1, 2]) ([0, 0, 0, 0, 0, 0, 0, 0, 0, 0, 0, 0, 0, 0, 0, 0, 0, 0, 0, 0, 0, 0, 0, 0, 0, 0, 0, 0, 0, 0, 0, 0]) (by kernel_rfl) (by kernel_rfl) (by decide) (by decide))) sS2 ?_
    refine dV 12 61 (.string (Mur.str ((([1, 5, 1, 1, 1, 2]) ++ ([0, 0, 0, 0, 0, 0, 0, 0, 0, 0, 0, 0, 0, 0, 0, 0, 0, 0, 0, 0, 0, 0, 0, 0, 0, 0, 0, 0, 0, 0, 0, 0])) ++ ([1, 3])))) rfl rfl (fun w' hw' => (Mur.stradd 9 9 (.tmp 60) (.const (.string ({ data := #[1, 3] }))) rfl (([1, 5, 1, 1, 1, 2]) ++ ([0, 0, 0, 0, 0, 0, 0, 0, 0, 0, 0, 0, 0, 0, 0, 0, 0, 0, 0, 0, 0, 0, 0, 0, 0, 0, 0, 0, 0, 0, 0, 0])) ([1, 3]) (by kernel_rfl) (by kernel_rfl) (by decide) (by decide))) sS2 ?_
    refine dV 13 62 (.bool true) rfl rfl (fun w' hw' => (boolT (b := decide ((bytesFM Ts (Mur.wantM 2)) = ((([1, 5, 1, 1, 1, 2]) ++ ([0, 0, 0, 0, 0, 0, 0, 0, 0, 0, 0, 0, 0, 0, 0, 0, 0, 0, 0, 0, 0, 0, 0, 0, 0, 0, 0, 0, 0, 0, 0, 0])) ++ ([1, 3])))) (decide_eq_true ((want_bytes Ts).trans rfl)) (Mur.streq 9 9 (.tmp 57) (.tmp 61) rfl (bytesFM Ts (Mur.wantM 2)) ((([1, 5, 1, 1, 1, 2]) ++ ([0, 0, 0, 0, 0, 0, 0, 0, 0, 0, 0, 0, 0, 0, 0, 0, 0, 0, 0, 0, 0, 0, 0, 0, 0, 0, 0, 0, 0, 0, 0, 0])) ++ ([1, 3])) (by kernel_rfl) (by kernel_rfl)))) sS2 ?_
    refine dW 14 63 (.bool true) sS2 ?_
    refine dW 15 64 (.bool true) sS2 ?_
    refine dW 16 65 (.int .i64 0) sS2 ?_
    refine dV 17 66 (.bool true) rfl rfl (fun w' hw' => (boolT (b := ((0 : Int) == (0 : Int))) (beq_iff_eq.2 (by decide)) (by kernel_rfl))) sS2 ?_
    refine dW 18 67 (.bool true) sS2 ?_
    refine dW 19 68 (.bool true) sS2 ?_
    refine dV 20 69 (.agg ((frmP (Mur.wantM 2) ZZ1).flatten.toArray)) rfl rfl (fun w' hw' => (Mur.loadArr 39 (.tmp 5) rfl _ Tryd.underlying39 rfl W12.heap.size (by kernel_rfl) (frmP (Mur.wantM 2) ZZ1).flatten.toArray 213 (frmL_size (frmL_sz (want_in 2 (by omega)).ok.sum (want_in 2 (by omega)).ok.key (Mur.wantM 2).att.hk (Mur.wantM 2).att.hr (Mur.wantM 2).att.ht (want_in 2 (by omega)).ok.root)) (by kernel_rfl) 39 (0, 0) (Chg.hp hw' (Chg.hp ch24 (Chg.hp ch23 (Chg.hp ch22 (Chg.hp ch21 (Chg.hp ch20 (Chg.hp ch19 (Chg.hp ch18 (Chg.hp ch17 (Chg.hp ch16 (Chg.hp ch15 (Chg.hp ch14 hb8 trivial) ⟨by omega, trivial⟩) trivial) ⟨by omega, trivial⟩) trivial) trivial) ⟨by omega, trivial⟩) trivial) trivial) ⟨by omega, trivial⟩) trivial) trivial))) sS2 ?_
    refine dOp 21 (by kernel_rfl) ?_
    refine oCall (some 70) 14 [.const (.int .i64 2)] #[3] [.int .i64 2] rfl rfl (by kernel_rfl) rfl (by kernel_rfl) (by kernel_rfl) ?_
    refine (Want_any 2 W26).mono ?_
    rintro _ W27 ⟨rfl, ch26⟩
    have zz26 := ch26.size
    have sS3 := Chg.step sS2 ch26 trivial
    refine ⟨_, rfl, sS3, ?_⟩
    refine dOp 22 (by kernel_rfl) ?_
    refine oCall (some 71) 15 [.tmp 69, .tmp 70] #[39, 39] [.agg ((frmP (Mur.wantM 2) ZZ1).flatten.toArray), .agg ((frmP (Mur.wantM 2) zs0).flatten.toArray)] rfl rfl (by kernel_rfl) rfl (by kernel_rfl) (by kernel_rfl) ?_
    have kk21 : Chg [] (W12) W13 := Chg.step ((Chg.refl _).more (by simp)) ch12 trivial
    have kk22 := Chg.step kk21 ch13 ⟨.inr (by omega), trivial⟩
    have kk23 := Chg.step kk22 ch14 trivial
    have kk24 := Chg.step kk23 ch15 ⟨.inr (by omega), trivial⟩
    have kk25 := Chg.step kk24 ch16 trivial
    have kk26 := Chg.step kk25 ch17 ⟨.inr (by omega), trivial⟩
    have kk27 := Chg.step kk26 ch18 trivial
    have kk28 := Chg.step kk27 ch19 trivial
    have kk29 := Chg.step kk28 ch20 ⟨.inr (by omega), trivial⟩
    have kk30 := Chg.step kk29 ch21 trivial
    have kk31 := Chg.step kk30 ch22 trivial
    have kk32 := Chg.step kk31 ch23 ⟨.inr (by omega), trivial⟩
    have kk33 := Chg.step kk32 ch24 trivial
    have kk34 := Chg.step kk33 ch25 trivial
    have kk35 := Chg.step kk34 ch26 trivial
    refine (Same25_any (Mur.wantM 2) ZZ1 (Mur.wantM 2) zs0 W27 (Mur.LiesF.chg hLs1 kk35 ⟨fun _ _ _ _ => trivial, fun _ _ _ _ => trivial, fun _ _ _ _ => trivial, fun _ _ _ _ => trivial, fun _ _ _ _ => trivial⟩) (want_in 2 (by omega)) (lies_none rfl rfl rfl rfl rfl) (want_in 2 (by omega))).mono ?_
    rintro _ W28 ⟨bv1, rfl, hif1, ch27⟩
    have zz27 := ch27.size
    cases bv1
    ·have sS4 := Chg.step sS3 ch27 trivial
     refine ⟨_, rfl, sS4, ?_⟩
     refine dW 23 72 (.bool false) sS4 ?_
     refine dW 24 73 (.bool false) sS4 ?_
     refine dZ 25 74 sS4 ?_
     refine dZ 26 75 sS4 ?_
     refine dW 27 76 (.bool false) sS4 ?_
     refine dW 28 77 (.bool false) sS4 ?_
     refine dZ 29 78 sS4 ?_
     refine dZ 30 79 sS4 ?_
     refine dZ 31 80 sS4 ?_
     refine dW 32 81 (.bool false) sS4 ?_
     refine dW 33 82 (.bool false) sS4 ?_
     refine dZ 34 83 sS4 ?_
     refine dZ 35 84 sS4 ?_
     refine dW 36 85 (.bool false) sS4 ?_
     refine dW 37 0 (.bool false) sS4 ?_
     refine dEnd (by kernel_rfl) (nxt (wp_ret ?_))
     exact absurd rfl (fun q_ => Bool.noConfusion (hif1.2 q_))
    have sS5 := Chg.step sS3 ch27 trivial
    refine ⟨_, rfl, sS5, ?_⟩
    refine dW 23 72 (.bool true) sS5 ?_
    refine dW 24 73 (.bool true) sS5 ?_
    refine dW 25 74 (.int .i64 0) sS5 ?_
    refine dV 26 75 (.bool true) rfl rfl (fun w' hw' => (boolT (b := ((0 : Int) == (0 : Int))) (beq_iff_eq.2 (by decide)) (by kernel_rfl))) sS5 ?_
    refine dW 27 76 (.bool true) sS5 ?_
    refine dW 28 77 (.bool true) sS5 ?_
    refine dW 29 78 (.slice AA3 nn3 cc3) sS5 ?_
    refine dW 30 79 (.int .i64 ((nn3 : Nat) : Int)) sS5 ?_
    refine dV 31 80 (.bool true) rfl rfl (fun w' hw' => (boolT (b := (((nn3 : Nat) : Int) == (73 : Int))) (beq_iff_eq.2 (by omega)) (by kernel_rfl))) sS5 ?_
    refine dW 32 81 (.bool true) sS5 ?_
    refine dW 33 82 (.bool true) sS5 ?_
    refine dW 34 83 (.int .i64 250) sS5 ?_
    refine dV 35 84 (.bool true) rfl rfl (fun w' hw' => (boolT (b := ((250 : Int) == (250 : Int))) (beq_iff_eq.2 (by decide)) (by kernel_rfl))) sS5 ?_
    refine dW 36 85 (.bool true) sS5 ?_
    refine dW 37 0 (.bool true) sS5 ?_
    refine dEnd (by kernel_rfl) (nxt (wp_ret ?_))
    have kk36 := Chg.step kk20 ch21 trivial
    have kk37 := Chg.step kk36 ch22 trivial
    have kk38 := Chg.step kk37 ch23 ⟨.inr (by omega), trivial⟩
    have kk39 := Chg.step kk38 ch24 trivial
    have kk40 := Chg.step kk39 ch25 trivial
    have kk41 := Chg.step kk40 ch26 trivial
    have kk42 := Chg.step kk41 ch27 trivial
    refine rt (.bool true) ?_
    exact ⟨rfl, kk42⟩
   exact absurd Mur.clm_may hmy3
  ·exact absurd (htd1.symm.trans (want_read Ts Tt hTsl)) (by intro h_; cases h_)
  ·exact absurd (htd1.symm.trans (want_read Ts Tt hTsl)) (by intro h_; cases h_)
  exact absurd (htd1.symm.trans (want_read Ts Tt hTsl)) (by intro h_; cases h_)
 exact absurd Mur.want_may hmy1
end Go.Proofs.YtgbadghjnpbiaaaDoor
namespace Go.Proofs.YtgbadghjnpbiaaaDoor
open Go.RowKit Wk
open Mur (b8s Byt Own8 Seg Segs flat cutA attC Att SlA OwnA rowA msgC Frm Zs FrmIn frmP segs_cell frmL_sz LiesF frmL_size byt_chg bytesFM run_str bytesFM_inj)
set_option maxRecDepth 100000
set_option maxHeartbeats 4000000
theorem Great_any (f : Frm) (z : Zs) (w : World) (hI : FrmIn f) : Calls Tryd.prog 9 #[.agg (frmP f z).flatten.toArray] w fun e w' => ∃ v, e = .returned (.bool v) ∧ Chg [] w w' := by
 refine calls_of_wp Tryd.func9 rfl ?_
 refine wp_seq (reg ?_)
 refine rX 0 1 rfl rfl (new_ex (pt w.heap.size 0) ((frmP f z).flatten.toArray) 39 (by kernel_rfl)) ?_
 rintro _ W1 ⟨rfl, hb1, ch1, sz1⟩
 have zz1 := ch1.size
 refine rP 1 2 (.bool false) ?_
 refine rEnd 2 rfl (nxt (wp_seq (reg ?_)))
 refine rP 0 3 (pt w.heap.size 3) ?_
 refine rP 1 4 (pt w.heap.size 7) ?_
 refine rQ 2 5 _ rfl rfl (ld 25 4 w.heap.size 7 (.slice z.u.A z.u.n z.u.c) (show World.cell? _ ⟨_, 0 + 7, _⟩ = _ from segs_cell (frmL_sz hI.ok.sum hI.ok.key f.att.hk f.att.hr f.att.ht hI.ok.root) (range_row hb1) 7 rfl rfl)) ?_
 refine rP 3 6 (.int .i64 ((z.u.n : Nat) : Int)) ?_
 by_cases hx1 : ((z.u.n : Nat) : Int) > (50 : Int)
 ·refine rQ 4 7 _ rfl rfl (qboolT (b := decide (((z.u.n : Nat) : Int) > (50 : Int))) (decide_eq_true (by first | exact hx1 | omega))) ?_
  refine Wk.many 34 26 5 [(7, .bool true)] 33 (.bool true) (by kernel_rfl) (by kernel_rfl) (by kernel_rfl) (by kernel_rfl) ?_
  intro bb1
  refine rP 31 2 (.bool true) ?_
  refine rEnd 32 rfl (nxt (wp_ret ?_))
  have kk1 : Chg [] w W1 := Chg.step ((Chg.refl _).more (by simp)) ch1 trivial
  refine rt (.bool true) ?_
  exact ⟨_, rfl, kk1⟩
 refine rQ 4 7 _ rfl rfl (qboolF (b := decide (((z.u.n : Nat) : Int) > (50 : Int))) (decide_eq_false (by first | exact hx1 | omega))) ?_
 refine rP 5 8 (.bool false) ?_
 refine rP 6 9 (pt w.heap.size 8) ?_
 refine rP 7 10 (pt w.heap.size 9) ?_
 refine rQ 8 11 _ rfl rfl (ld 22 10 w.heap.size 9 (.slice z.p.A z.p.n z.p.c) (show World.cell? _ ⟨_, 0 + 9, _⟩ = _ from segs_cell (frmL_sz hI.ok.sum hI.ok.key f.att.hk f.att.hr f.att.ht hI.ok.root) (range_row hb1) 9 rfl rfl)) ?_
 refine rP 9 12 (.int .i64 ((z.p.n : Nat) : Int)) ?_
 by_cases hx2 : ((z.p.n : Nat) : Int) > (50 : Int)
 ·refine rQ 10 13 _ rfl rfl (qboolT (b := decide (((z.p.n : Nat) : Int) > (50 : Int))) (decide_eq_true (by first | exact hx2 | omega))) ?_
  refine Wk.many 34 20 11 [(8, .bool false), (13, .bool true)] 33 (.bool true) (by kernel_rfl) (by kernel_rfl) (by kernel_rfl) (by kernel_rfl) ?_
  intro bb2
  refine rP 31 2 (.bool true) ?_
  refine rEnd 32 rfl (nxt (wp_ret ?_))
  have kk2 : Chg [] w W1 := Chg.step ((Chg.refl _).more (by simp)) ch1 trivial
  refine rt (.bool true) ?_
  exact ⟨_, rfl, kk2⟩
 refine rQ 10 13 _ rfl rfl (qboolF (b := decide (((z.p.n : Nat) : Int) > (50 : Int))) (decide_eq_false (by first | exact hx2 | omega))) ?_
 refine rP 11 14 (.bool false) ?_
 refine rP 12 15 (.bool false) ?_
 refine rP 13 16 (pt w.heap.size 8) ?_
 refine rP 14 17 (pt w.heap.size 43) ?_
 refine rQ 15 18 _ rfl rfl (ld 30 17 w.heap.size 43 (.slice z.i.A z.i.n z.i.c) (show World.cell? _ ⟨_, 0 + 43, _⟩ = _ from segs_cell (frmL_sz hI.ok.sum hI.ok.key f.att.hk f.att.hr f.att.ht hI.ok.root) (range_row hb1) 12 rfl rfl)) ?_
 refine rP 16 19 (.int .i64 ((z.i.n : Nat) : Int)) ?_
 by_cases hx3 : ((z.i.n : Nat) : Int) > (50 : Int)
 ·refine rQ 17 20 _ rfl rfl (qboolT (b := decide (((z.i.n : Nat) : Int) > (50 : Int))) (decide_eq_true (by first | exact hx3 | omega))) ?_
  refine Wk.many 34 13 18 [(15, .bool false), (20, .bool true)] 33 (.bool true) (by kernel_rfl) (by kernel_rfl) (by kernel_rfl) (by kernel_rfl) ?_
  intro bb3
  refine rP 31 2 (.bool true) ?_
  refine rEnd 32 rfl (nxt (wp_ret ?_))
  have kk3 : Chg [] w W1 := Chg.step ((Chg.refl _).more (by simp)) ch1 trivial
  refine rt (.bool true) ?_
  exact ⟨_, rfl, kk3⟩
 refine rQ 17 20 _ rfl rfl (qboolF (b := decide (((z.i.n : Nat) : Int) > (50 : Int))) (decide_eq_false (by first | exact hx3 | omega))) ?_
 refine rP 18 21 (.bool false) ?_
 refine rP 19 22 (.bool false) ?_
 refine rP 20 23 (pt w.heap.size 211) ?_
 refine rQ 21 24 _ rfl rfl (ld 22 23 w.heap.size 211 (.slice z.y.A z.y.n z.y.c) (show World.cell? _ ⟨_, 0 + 211, _⟩ = _ from segs_cell (frmL_sz hI.ok.sum hI.ok.key f.att.hk f.att.hr f.att.ht hI.ok.root) (range_row hb1) 25 rfl rfl)) ?_
 refine rP 22 25 (.int .i64 ((z.y.n : Nat) : Int)) ?_
 by_cases hx4 : ((z.y.n : Nat) : Int) > (500 : Int)
 ·refine rQ 23 26 _ rfl rfl (qboolT (b := decide (((z.y.n : Nat) : Int) > (500 : Int))) (decide_eq_true (by first | exact hx4 | omega))) ?_
  refine Wk.many 34 7 24 [(22, .bool false), (26, .bool true)] 33 (.bool true) (by kernel_rfl) (by kernel_rfl) (by kernel_rfl) (by kernel_rfl) ?_
  intro bb4
  refine rP 31 2 (.bool true) ?_
  refine rEnd 32 rfl (nxt (wp_ret ?_))
  have kk4 : Chg [] w W1 := Chg.step ((Chg.refl _).more (by simp)) ch1 trivial
  refine rt (.bool true) ?_
  exact ⟨_, rfl, kk4⟩
 refine rQ 23 26 _ rfl rfl (qboolF (b := decide (((z.y.n : Nat) : Int) > (500 : Int))) (decide_eq_false (by first | exact hx4 | omega))) ?_
 refine rP 24 27 (.bool false) ?_
 refine rP 25 28 (.bool false) ?_
 refine rP 26 29 (pt w.heap.size 212) ?_
 refine rQ 27 30 _ rfl rfl (ld 37 29 w.heap.size 212 (.slice z.f.A z.f.n z.f.c) (show World.cell? _ ⟨_, 0 + 212, _⟩ = _ from segs_cell (frmL_sz hI.ok.sum hI.ok.key f.att.hk f.att.hr f.att.ht hI.ok.root) (range_row hb1) 26 rfl rfl)) ?_
 refine rP 28 31 (.int .i64 ((z.f.n : Nat) : Int)) ?_
 by_cases hx5 : ((z.f.n : Nat) : Int) > (50 : Int)
 ·refine rQ 29 32 _ rfl rfl (qboolT (b := decide (((z.f.n : Nat) : Int) > (50 : Int))) (decide_eq_true (by first | exact hx5 | omega))) ?_
  refine rP 30 33 (.bool true) ?_
  refine rP 31 2 (.bool true) ?_
  refine rEnd 32 rfl (nxt (wp_ret ?_))
  have kk5 : Chg [] w W1 := Chg.step ((Chg.refl _).more (by simp)) ch1 trivial
  refine rt (.bool true) ?_
  exact ⟨_, rfl, kk5⟩
 refine rQ 29 32 _ rfl rfl (qboolF (b := decide (((z.f.n : Nat) : Int) > (50 : Int))) (decide_eq_false (by first | exact hx5 | omega))) ?_
 refine rP 30 33 (.bool false) ?_
 refine rP 31 2 (.bool false) ?_
 refine rEnd 32 rfl (nxt (wp_ret ?_))
 have kk6 : Chg [] w W1 := Chg.step ((Chg.refl _).more (by simp)) ch1 trivial
 refine rt (.bool false) ?_
 exact ⟨_, rfl, kk6⟩
theorem Apart_any (s : List UInt8) (A : Option Addr) (n c : Nat) (f : Frm) (z : Zs) (g : Frm) (y : Zs) (w : World) (hv : ShaVars w) (hb : Byt w A n s) (hnc : n ≤ c) (hcm : c ≤ Go.maxLen) (ha : A = none → c = 0) (hL : LiesF w z f) (hI : FrmIn f) (hM : LiesF w y g) (hJ : FrmIn g) : Calls Tryd.prog 5 #[.slice A n c, .agg (frmP f z).flatten.toArray, .agg (frmP g y).flatten.toArray] w fun e w' => e = .returned (.bool true) ∧ Below w.heap.size w w' := by
 have HV := Go.Lib.hid hv
 clear hv
 have HBY := Go.Lib.hid hb
 clear hb
 have HA := Go.Lib.hid ha
 clear ha
 obtain ⟨T, hTs⟩ : ∃ T : List UInt8 → List UInt8, ∀ x, T x = Mur.hmac s (18 :: x) := ⟨_, fun _ => rfl⟩
 have hTsl : ∀ x, (T x).length = 32 := fun x => by rw [hTs]; exact Mur.hmac_length _ _
 have hml_ : Go.maxLen = 9223372036854775807 := rfl
 have hLin_ : z.In fun g => g < w.heap.size → Wk.Off g [] := ⟨fun _ _ _ _ => trivial, fun _ _ _ _ => trivial, fun _ _ _ _ => trivial, fun _ _ _ _ => trivial, fun _ _ _ _ => trivial⟩
 have hLunc_ := hL.nu.nc
 have hLucm_ := hL.nu.cm
 have hLpnc_ := hL.np.nc
 have hLpcm_ := hL.np.cm
 have hLinc_ := hL.ni.nc
 have hLicm_ := hL.ni.cm
 have hLync_ := hL.ny.nc
 have hLycm_ := hL.ny.cm
 have hLfnc_ := hL.nf.nc
 have hLfcm_ := hL.nf.cm
 have hMin_ : y.In fun g => g < w.heap.size → Wk.Off g [] := ⟨fun _ _ _ _ => trivial, fun _ _ _ _ => trivial, fun _ _ _ _ => trivial, fun _ _ _ _ => trivial, fun _ _ _ _ => trivial⟩
 have hMunc_ := hM.nu.nc
 have hMucm_ := hM.nu.cm
 have hMpnc_ := hM.np.nc
 have hMpcm_ := hM.np.cm
 have hMinc_ := hM.ni.nc
 have hMicm_ := hM.ni.cm
 have hMync_ := hM.ny.nc
 have hMycm_ := hM.ny.cm
 have hMfnc_ := hM.nf.nc
 have hMfcm_ := hM.nf.cm
 refine calls_of_wp Tryd.func5 rfl ?_
 refine wp_seq (reg ?_)
 refine rX 0 4 rfl rfl (new_ex (pt w.heap.size 0) ((frmP f z).flatten.toArray) 39 (by kernel_rfl)) ?_
 rintro _ W1 ⟨rfl, hb1, ch1, sz1⟩
 have zz1 := ch1.size
 refine rX 1 5 rfl rfl (new_ex (pt W1.heap.size 0) ((frmP g y).flatten.toArray) 39 (by kernel_rfl)) ?_
 rintro _ W2 ⟨rfl, hb2, ch2, sz2⟩
 have zz2 := ch2.size
 refine rP 2 6 (.bool false) ?_
 refine rEnd 3 rfl (nxt (wp_seq (wp_seq (reg ?_))))
 refine rP 0 11 (.slice A n c) ?_
 refine rP 1 12 (.int .i64 ((n : Nat) : Int)) ?_
 by_cases hx1 : ((n : Nat) : Int) > (100 : Int)
 ·refine rQ 2 13 _ rfl rfl (qboolT (b := decide (((n : Nat) : Int) > (100 : Int))) (decide_eq_true (by first | exact hx1 | omega))) ?_
  refine rP 3 14 (.bool true) ?_
  refine rZ 4 15 ?_
  refine rZ 5 16 ?_
  refine rP 6 17 (.bool true) ?_
  refine rP 7 18 (.bool true) ?_
  refine rZ 8 19 ?_
  refine rZ 9 20 ?_
  refine rP 10 21 (.bool true) ?_
  refine rEnd 11 rfl (nxt (wp_cond_true (by kernel_rfl) (wp_seq (reg ?_))))
  refine rC 0 22 6 [] #[] [] ?_
  have kk1 : Chg [] w W1 := Chg.step ((Chg.refl _).more (by simp)) ch1 trivial
  have kk2 := Chg.step kk1 ch2 trivial
  refine (Known25_any W2 (HV.out.below (Chg.below0 kk2))).mono ?_
  rintro _ W3 ⟨rfl, ch3⟩
  have zz3 := ch3.size
  refine ⟨_, rfl, ?_⟩
  refine rP 1 6 (.bool true) ?_
  refine rEnd 2 rfl (nxt (wp_ret (thR ?_)))
  have kk3 := Chg.step kk2 ch3 trivial
  refine rt (.bool true) ?_
  exact ⟨rfl, Chg.below0 kk3⟩
 refine rQ 2 13 _ rfl rfl (qboolF (b := decide (((n : Nat) : Int) > (100 : Int))) (decide_eq_false (by first | exact hx1 | omega))) ?_
 refine rP 3 14 (.bool false) ?_
 refine rQ 4 15 (.agg ((frmP f z).flatten.toArray)) rfl rfl (Mur.loadArr 39 (.tmp 4) rfl _ Tryd.underlying39 rfl w.heap.size (by kernel_rfl) (frmP f z).flatten.toArray 213 (frmL_size (frmL_sz hI.ok.sum hI.ok.key f.att.hk f.att.hr f.att.ht hI.ok.root)) (by kernel_rfl) 39 (0, 0) (Chg.hp ch2 hb1 trivial)) ?_
 refine rC 5 16 9 [.tmp 15] #[39] [.agg ((frmP f z).flatten.toArray)] ?_
 refine (Great_any f z W2 hI).mono ?_
 rintro _ W4 ⟨bv1, rfl, ch4⟩
 have zz4 := ch4.size
 cases bv1
 ·refine ⟨_, rfl, ?_⟩
  refine rP 6 17 (.bool false) ?_
  refine rP 7 18 (.bool false) ?_
  refine rQ 8 19 (.agg ((frmP g y).flatten.toArray)) rfl rfl (Mur.loadArr 39 (.tmp 5) rfl _ Tryd.underlying39 rfl W1.heap.size (by kernel_rfl) (frmP g y).flatten.toArray 213 (frmL_size (frmL_sz hJ.ok.sum hJ.ok.key g.att.hk g.att.hr g.att.ht hJ.ok.root)) (by kernel_rfl) 39 (0, 0) (Chg.hp ch4 hb2 trivial)) ?_
  refine rC 9 20 9 [.tmp 19] #[39] [.agg ((frmP g y).flatten.toArray)] ?_
  refine (Great_any g y W4 hJ).mono ?_
  rintro _ W5 ⟨bv2, rfl, ch5⟩
  have zz5 := ch5.size
  cases bv2
  ·refine ⟨_, rfl, ?_⟩
   refine rP 10 21 (.bool false) ?_
   refine rEnd 11 rfl (nxt (wp_cond_false (by kernel_rfl) (wp_skip (nxt (wp_seq (reg ?_))))))
   refine rP 0 24 (.slice A n c) ?_
   refine rQ 1 25 (.agg ((frmP f z).flatten.toArray)) rfl rfl (Mur.loadArr 39 (.tmp 4) rfl _ Tryd.underlying39 rfl w.heap.size (by kernel_rfl) (frmP f z).flatten.toArray 213 (frmL_size (frmL_sz hI.ok.sum hI.ok.key f.att.hk f.att.hr f.att.ht hI.ok.root)) (by kernel_rfl) 39 (0, 0) (Chg.hp ch5 (Chg.hp ch4 (Chg.hp ch2 hb1 trivial) trivial) trivial)) ?_
   refine rC 2 26 8 [.tmp 24, .tmp 25] #[22, 39] [.slice A n c, .agg ((frmP f z).flatten.toArray)] ?_
   have kk4 : Chg [] w W1 := Chg.step ((Chg.refl _).more (by simp)) ch1 trivial
   have kk5 := Chg.step kk4 ch2 trivial
   have kk6 := Chg.step kk5 ch4 trivial
   have kk7 := Chg.step kk6 ch5 trivial
   refine (BytesF_any s A n c T f z W5 (HV.out.below (Chg.below0 kk7)) (byt_chg HBY.out kk7 (fun g off e hl => trivial)) ⟨by omega, by omega⟩ HA.out (by omega) hTs hTsl (LiesF.chg hL kk7 hLin_) hI).mono ?_
   rintro _ W6 ⟨AA1, nn1, cc1, er1, rfl, hc1, ch6⟩
   have zz6 := ch6.size
   rcases hc1 with ⟨hmy1, rfl, ow1⟩ | ⟨hmy1, rfl, rfl, rfl, rfl⟩
   ·have hq1 := ow1.nc
    have hq2 := ow1.cm
    have hq3 := ow1.byt.1
    refine ⟨_, rfl, ?_⟩
    refine rP 3 23 (.tuple #[.slice AA1 nn1 cc1, .int .i64 0]) ?_
    refine rP 4 27 (.slice AA1 nn1 cc1) ?_
    refine rP 5 28 (.int .i64 0) ?_
    refine rP 6 7 (.slice AA1 nn1 cc1) ?_
    refine rP 7 8 (.int .i64 0) ?_
    refine rEnd 8 rfl (nxt (wp_seq (reg ?_)))
    refine rP 0 30 (.slice A n c) ?_
    refine rQ 1 31 (.agg ((frmP g y).flatten.toArray)) rfl rfl (Mur.loadArr 39 (.tmp 5) rfl _ Tryd.underlying39 rfl W1.heap.size (by kernel_rfl) (frmP g y).flatten.toArray 213 (frmL_size (frmL_sz hJ.ok.sum hJ.ok.key g.att.hk g.att.hr g.att.ht hJ.ok.root)) (by kernel_rfl) 39 (0, 0) (Chg.hp ch6 (Chg.hp ch5 (Chg.hp ch4 hb2 trivial) trivial) trivial)) ?_
    refine rC 2 32 8 [.tmp 30, .tmp 31] #[22, 39] [.slice A n c, .agg ((frmP g y).flatten.toArray)] ?_
    have kk8 := Chg.step kk7 ch6 trivial
    refine (BytesF_any s A n c T g y W6 (HV.out.below (Chg.below0 kk8)) (byt_chg HBY.out kk8 (fun g off e hl => trivial)) ⟨by omega, by omega⟩ HA.out (by omega) hTs hTsl (LiesF.chg hM kk8 hMin_) hJ).mono ?_
    rintro _ W7 ⟨AA2, nn2, cc2, er2, rfl, hc2, ch7⟩
    have zz7 := ch7.size
    rcases hc2 with ⟨hmy2, rfl, ow2⟩ | ⟨hmy2, rfl, rfl, rfl, rfl⟩
    ·have hq4 := ow2.nc
     have hq5 := ow2.cm
     have hq6 := ow2.byt.1
     refine ⟨_, rfl, ?_⟩
     refine rP 3 29 (.tuple #[.slice AA2 nn2 cc2, .int .i64 0]) ?_
     refine rP 4 33 (.slice AA2 nn2 cc2) ?_
     refine rP 5 34 (.int .i64 0) ?_
     refine rP 6 9 (.slice AA2 nn2 cc2) ?_
     refine rP 7 10 (.int .i64 0) ?_
     refine rEnd 8 rfl (nxt (wp_seq (wp_seq (reg ?_))))
     refine rP 0 35 (.int .i64 0) ?_
     refine rQ 1 36 _ rfl rfl (qboolF (b := ((0 : Int) != (0 : Int))) (bne_eq_false_iff_eq.2 (by decide))) ?_
     refine rP 2 37 (.bool false) ?_
     refine rP 3 38 (.int .i64 0) ?_
     refine rQ 4 39 _ rfl rfl (qboolF (b := ((0 : Int) != (0 : Int))) (bne_eq_false_iff_eq.2 (by decide))) ?_
     refine rP 5 40 (.bool false) ?_
     refine rEnd 6 rfl (nxt (wp_cond_false (by kernel_rfl) (wp_skip (nxt (wp_seq ?_)))))
     refine dReg ([]) (by kernel_rfl) ?_
     intro W8 ch8 sz3
     have zz8 := ch8.size
     have sS1 : Chg ([]) W8 W8 := (Chg.refl _).more (by simp)
     refine dW 0 42 (.slice AA1 nn1 cc1) sS1 ?_
     refine dV 1 43 (.string (Mur.str (bytesFM T f))) rfl rfl (fun w' hw' => (run_str 22 9 (.tmp 42) 5 rfl Tryd.underlying22 Tryd.underlying5 Tryd.underlying9 AA1 nn1 cc1 (bytesFM T f) (by kernel_rfl) (byt_chg (byt_chg (byt_chg ow1.byt ch7 (fun g off e hl => trivial)) ch8 (fun g off e hl => trivial)) hw' (fun g off e hl => trivial)))) sS1 ?_
     refine dW 2 44 (.slice AA2 nn2 cc2) sS1 ?_
     refine dV 3 45 (.string (Mur.str (bytesFM T g))) rfl rfl (fun w' hw' => (run_str 22 9 (.tmp 44) 5 rfl Tryd.underlying22 Tryd.underlying5 Tryd.underlying9 AA2 nn2 cc2 (bytesFM T g) (by kernel_rfl) (byt_chg (byt_chg ow2.byt ch8 (fun g off e hl => trivial)) hw' (fun g off e hl => trivial)))) sS1 ?_
     by_cases hx2 : (bytesFM T f) = (bytesFM T g)
     ·refine dV 4 46 (.bool true) rfl rfl (fun w' hw' => (boolT (b := decide ((bytesFM T f) = (bytesFM T g))) (decide_eq_true (hx2)) (Mur.streq 9 9 (.tmp 43) (.tmp 45) rfl (bytesFM T f) (bytesFM T g) (by kernel_rfl) (by kernel_rfl)))) sS1 ?_
      refine dV 5 47 (.agg ((frmP f z).flatten.toArray)) rfl rfl (fun w' hw' => (Mur.loadArr 39 (.tmp 4) rfl _ Tryd.underlying39 rfl w.heap.size (by kernel_rfl) (frmP f z).flatten.toArray 213 (frmL_size (frmL_sz hI.ok.sum hI.ok.key f.att.hk f.att.hr f.att.ht hI.ok.root)) (by kernel_rfl) 39 (0, 0) (Chg.hp hw' (Chg.hp ch8 (Chg.hp ch7 (Chg.hp ch6 (Chg.hp ch5 (Chg.hp ch4 (Chg.hp ch2 hb1 trivial) trivial) trivial) trivial) trivial) trivial) trivial))) sS1 ?_
      refine dV 6 48 (.agg ((frmP g y).flatten.toArray)) rfl rfl (fun w' hw' => (Mur.loadArr 39 (.tmp 5) rfl _ Tryd.underlying39 rfl W1.heap.size (by kernel_rfl) (frmP g y).flatten.toArray 213 (frmL_size (frmL_sz hJ.ok.sum hJ.ok.key g.att.hk g.att.hr g.att.ht hJ.ok.root)) (by kernel_rfl) 39 (0, 0) (Chg.hp hw' (Chg.hp ch8 (Chg.hp ch7 (Chg.hp ch6 (Chg.hp ch5 (Chg.hp ch4 hb2 trivial) trivial) trivial) trivial) trivial) trivial))) sS1 ?_
      refine dOp 7 (by kernel_rfl) ?_
      refine oCall (some 49) 10 [.tmp 47, .tmp 48] #[39, 39] [.agg ((frmP f z).flatten.toArray), .agg ((frmP g y).flatten.toArray)] rfl rfl (by kernel_rfl) rfl (by kernel_rfl) (by kernel_rfl) ?_
      have kk9 := Chg.step kk8 ch7 trivial
      have kk10 := Chg.step kk9 ch8 trivial
      refine (Same_any f z g y W8 (LiesF.chg hL kk10 hLin_) hI (LiesF.chg hM kk10 hMin_) hJ).mono ?_
      rintro _ W10 ⟨bv3, rfl, hif1, ch9⟩
      have zz9 := ch9.size
      cases bv3
      ·have sS2 := Chg.step sS1 ch9 trivial
       refine ⟨_, rfl, sS2, ?_⟩
       refine dW 8 50 (.bool false) sS2 ?_
       refine dW 9 51 (.bool false) sS2 ?_
       refine dZ 10 52 sS2 ?_
       refine dW 11 53 (.bool false) sS2 ?_
       refine dW 12 6 (.bool false) sS2 ?_
       refine dEnd (by kernel_rfl) (nxt (wp_ret ?_))
       have hij_ := bytesFM_inj (T := T) hmy1 hI.ok hmy2 hJ.ok
       exact absurd (hij_.1 (hx2)) (fun q_ => Bool.noConfusion (hif1.2 q_))
      have sS3 := Chg.step sS1 ch9 trivial
      refine ⟨_, rfl, sS3, ?_⟩
      refine dW 8 50 (.bool true) sS3 ?_
      refine dW 9 51 (.bool true) sS3 ?_
      refine dOp 10 (by kernel_rfl) ?_
      refine oCall (some 52) 6 [] #[] [] rfl rfl (by kernel_rfl) rfl (by kernel_rfl) (by kernel_rfl) ?_
      have kk11 := Chg.step kk10 ch9 trivial
      refine (Known25_any W10 (HV.out.below (Chg.below0 kk11))).mono ?_
      rintro _ W11 ⟨rfl, ch10⟩
      have zz10 := ch10.size
      have sS4 := Chg.step sS3 ch10 trivial
      refine ⟨_, rfl, sS4, ?_⟩
      refine dW 11 53 (.bool true) sS4 ?_
      refine dW 12 6 (.bool true) sS4 ?_
      refine dEnd (by kernel_rfl) (nxt (wp_ret ?_))
      have kk12 := Chg.step kk11 ch10 trivial
      refine rt (.bool true) ?_
      exact ⟨rfl, Chg.below0 kk12⟩
     refine dV 4 46 (.bool false) rfl rfl (fun w' hw' => (boolF (b := decide ((bytesFM T f) = (bytesFM T g))) (decide_eq_false (hx2)) (Mur.streq 9 9 (.tmp 43) (.tmp 45) rfl (bytesFM T f) (bytesFM T g) (by kernel_rfl) (by kernel_rfl)))) sS1 ?_
     refine dV 5 47 (.agg ((frmP f z).flatten.toArray)) rfl rfl (fun w' hw' => (Mur.loadArr 39 (.tmp 4) rfl _ Tryd.underlying39 rfl w.heap.size (by kernel_rfl) (frmP f z).flatten.toArray 213 (frmL_size (frmL_sz hI.ok.sum hI.ok.key f.att.hk f.att.hr f.att.ht hI.ok.root)) (by kernel_rfl) 39 (0, 0) (Chg.hp hw' (Chg.hp ch8 (Chg.hp ch7 (Chg.hp ch6 (Chg.hp ch5 (Chg.hp ch4 (Chg.hp ch2 hb1 trivial) trivial) trivial) trivial) trivial) trivial) trivial))) sS1 ?_
     refine dV 6 48 (.agg ((frmP g y).flatten.toArray)) rfl rfl (fun w' hw' => (Mur.loadArr 39 (.tmp 5) rfl _ Tryd.underlying39 rfl W1.heap.size (by kernel_rfl) (frmP g y).flatten.toArray 213 (frmL_size (frmL_sz hJ.ok.sum hJ.ok.key g.att.hk g.att.hr g.att.ht hJ.ok.root)) (by kernel_rfl) 39 (0, 0) (Chg.hp hw' (Chg.hp ch8 (Chg.hp ch7 (Chg.hp ch6 (Chg.hp ch5 (Chg.hp ch4 hb2 trivial) trivial) trivial) trivial) trivial) trivial))) sS1 ?_
     refine dOp 7 (by kernel_rfl) ?_
     refine oCall (some 49) 10 [.tmp 47, .tmp 48] #[39, 39] [.agg ((frmP f z).flatten.toArray), .agg ((frmP g y).flatten.toArray)] rfl rfl (by kernel_rfl) rfl (by kernel_rfl) (by kernel_rfl) ?_
     have kk13 := Chg.step kk8 ch7 trivial
     have kk14 := Chg.step kk13 ch8 trivial
     refine (Same_any f z g y W8 (LiesF.chg hL kk14 hLin_) hI (LiesF.chg hM kk14 hMin_) hJ).mono ?_
     rintro _ W12 ⟨bv4, rfl, hif2, ch11⟩
     have zz11 := ch11.size
     cases bv4
     ·have sS5 := Chg.step sS1 ch11 trivial
      refine ⟨_, rfl, sS5, ?_⟩
      refine dW 8 50 (.bool true) sS5 ?_
      refine dW 9 51 (.bool true) sS5 ?_
      refine dOp 10 (by kernel_rfl) ?_
      refine oCall (some 52) 6 [] #[] [] rfl rfl (by kernel_rfl) rfl (by kernel_rfl) (by kernel_rfl) ?_
      have kk15 := Chg.step kk14 ch11 trivial
      refine (Known25_any W12 (HV.out.below (Chg.below0 kk15))).mono ?_
      rintro _ W13 ⟨rfl, ch12⟩
      have zz12 := ch12.size
      have sS6 := Chg.step sS5 ch12 trivial
      refine ⟨_, rfl, sS6, ?_⟩
      refine dW 11 53 (.bool true) sS6 ?_
      refine dW 12 6 (.bool true) sS6 ?_
      refine dEnd (by kernel_rfl) (nxt (wp_ret ?_))
      have kk16 := Chg.step kk15 ch12 trivial
      refine rt (.bool true) ?_
      exact ⟨rfl, Chg.below0 kk16⟩
     have sS7 := Chg.step sS1 ch11 trivial
     refine ⟨_, rfl, sS7, ?_⟩
     refine dW 8 50 (.bool false) sS7 ?_
     refine dW 9 51 (.bool false) sS7 ?_
     refine dZ 10 52 sS7 ?_
     refine dW 11 53 (.bool false) sS7 ?_
     refine dW 12 6 (.bool false) sS7 ?_
     refine dEnd (by kernel_rfl) (nxt (wp_ret ?_))
     have hij_ := bytesFM_inj (T := T) hmy1 hI.ok hmy2 hJ.ok
     exact absurd (hij_.2 (hif2.1 rfl)) (hx2)
    refine ⟨_, rfl, ?_⟩
    refine rP 3 29 (.tuple #[.slice none 0 0, .int .i64 2]) ?_
    refine rP 4 33 (.slice none 0 0) ?_
    refine rP 5 34 (.int .i64 2) ?_
    refine rP 6 9 (.slice none 0 0) ?_
    refine rP 7 10 (.int .i64 2) ?_
    refine rEnd 8 rfl (nxt (wp_seq (wp_seq (reg ?_))))
    refine rP 0 35 (.int .i64 0) ?_
    refine rQ 1 36 _ rfl rfl (qboolF (b := ((0 : Int) != (0 : Int))) (bne_eq_false_iff_eq.2 (by decide))) ?_
    refine rP 2 37 (.bool false) ?_
    refine rP 3 38 (.int .i64 2) ?_
    refine rQ 4 39 _ rfl rfl (qboolT (b := ((2 : Int) != (0 : Int))) (bne_iff_ne.2 (by decide))) ?_
    refine rP 5 40 (.bool true) ?_
    refine rEnd 6 rfl (nxt (wp_cond_true (by kernel_rfl) (wp_seq (reg ?_))))
    refine rC 0 41 6 [] #[] [] ?_
    have kk17 := Chg.step kk8 ch7 trivial
    refine (Known25_any W7 (HV.out.below (Chg.below0 kk17))).mono ?_
    rintro _ W14 ⟨rfl, ch13⟩
    have zz13 := ch13.size
    refine ⟨_, rfl, ?_⟩
    refine rP 1 6 (.bool true) ?_
    refine rEnd 2 rfl (nxt (wp_ret (thR ?_)))
    have kk18 := Chg.step kk17 ch13 trivial
    refine rt (.bool true) ?_
    exact ⟨rfl, Chg.below0 kk18⟩
   refine ⟨_, rfl, ?_⟩
   refine rP 3 23 (.tuple #[.slice none 0 0, .int .i64 2]) ?_
   refine rP 4 27 (.slice none 0 0) ?_
   refine rP 5 28 (.int .i64 2) ?_
   refine rP 6 7 (.slice none 0 0) ?_
   refine rP 7 8 (.int .i64 2) ?_
   refine rEnd 8 rfl (nxt (wp_seq (reg ?_)))
   refine rP 0 30 (.slice A n c) ?_
   refine rQ 1 31 (.agg ((frmP g y).flatten.toArray)) rfl rfl (Mur.loadArr 39 (.tmp 5) rfl _ Tryd.underlying39 rfl W1.heap.size (by kernel_rfl) (frmP g y).flatten.toArray 213 (frmL_size (frmL_sz hJ.ok.sum hJ.ok.key g.att.hk g.att.hr g.att.ht hJ.ok.root)) (by kernel_rfl) 39 (0, 0) (Chg.hp ch6 (Chg.hp ch5 (Chg.hp ch4 hb2 trivial) trivial) trivial)) ?_
   refine rC 2 32 8 [.tmp 30, .tmp 31] #[22, 39] [.slice A n c, .agg ((frmP g y).flatten.toArray)] ?_
   have kk19 := Chg.step kk7 ch6 trivial
   refine (BytesF_any s A n c T g y W6 (HV.out.below (Chg.below0 kk19)) (byt_chg HBY.out kk19 (fun g off e hl => trivial)) ⟨by omega, by omega⟩ HA.out (by omega) hTs hTsl (LiesF.chg hM kk19 hMin_) hJ).mono ?_
   rintro _ W15 ⟨AA3, nn3, cc3, er3, rfl, hc3, ch14⟩
   have zz14 := ch14.size
   rcases hc3 with ⟨hmy3, rfl, ow3⟩ | ⟨hmy3, rfl, rfl, rfl, rfl⟩
   ·have hq7 := ow3.nc
    have hq8 := ow3.cm
    have hq9 := ow3.byt.1
    refine ⟨_, rfl, ?_⟩
    refine rP 3 29 (.tuple #[.slice AA3 nn3 cc3, .int .i64 0]) ?_
    refine rP 4 33 (.slice AA3 nn3 cc3) ?_
    refine rP 5 34 (.int .i64 0) ?_
    refine rP 6 9 (.slice AA3 nn3 cc3) ?_
    refine rP 7 10 (.int .i64 0) ?_
    refine rEnd 8 rfl (nxt (wp_seq (wp_seq (reg ?_))))
    refine rP 0 35 (.int .i64 2) ?_
    refine rQ 1 36 _ rfl rfl (qboolT (b := ((2 : Int) != (0 : Int))) (bne_iff_ne.2 (by decide))) ?_
    refine rP 2 37 (.bool true) ?_
    refine rZ 3 38 ?_
    refine rZ 4 39 ?_
    refine rP 5 40 (.bool true) ?_
    refine rEnd 6 rfl (nxt (wp_cond_true (by kernel_rfl) (wp_seq (reg ?_))))
    refine rC 0 41 6 [] #[] [] ?_
    have kk20 := Chg.step kk19 ch14 trivial
    refine (Known25_any W15 (HV.out.below (Chg.below0 kk20))).mono ?_
    rintro _ W16 ⟨rfl, ch15⟩
    have zz15 := ch15.size
    refine ⟨_, rfl, ?_⟩
    refine rP 1 6 (.bool true) ?_
    refine rEnd 2 rfl (nxt (wp_ret (thR ?_)))
    have kk21 := Chg.step kk20 ch15 trivial
    refine rt (.bool true) ?_
    exact ⟨rfl, Chg.below0 kk21⟩
   refine ⟨_, rfl, ?_⟩
   refine rP 3 29 (.tuple #[.slice none 0 0, .int .i64 2]) ?_
   refine rP 4 33 (.slice none 0 0) ?_
   refine rP 5 34 (.int .i64 2) ?_
   refine rP 6 9 (.slice none 0 0) ?_
   refine rP 7 10 (.int .i64 2) ?_
   refine rEnd 8 rfl (nxt (wp_seq (wp_seq (reg ?_))))
   refine rP 0 35 (.int .i64 2) ?_
   refine rQ 1 36 _ rfl rfl (qboolT (b := ((2 : Int) != (0 : Int))) (bne_iff_ne.2 (by decide))) ?_
   refine rP 2 37 (.bool true) ?_
   refine rZ 3 38 ?_
   refine rZ 4 39 ?_
   refine rP 5 40 (.bool true) ?_
   refine rEnd 6 rfl (nxt (wp_cond_true (by kernel_rfl) (wp_seq (reg ?_))))
   refine rC 0 41 6 [] #[] [] ?_
   have kk22 := Chg.step kk19 ch14 trivial
   refine (Known25_any W15 (HV.out.below (Chg.below0 kk22))).mono ?_
   rintro _ W17 ⟨rfl, ch16⟩
   have zz16 := ch16.size
   refine ⟨_, rfl, ?_⟩
   refine rP 1 6 (.bool true) ?_
   refine rEnd 2 rfl (nxt (wp_ret (thR ?_)))
   have kk23 := Chg.step kk22 ch16 trivial
   refine rt (.bool true) ?_
   exact ⟨rfl, Chg.below0 kk23⟩
  refine ⟨_, rfl, ?_⟩
  refine rP 10 21 (.bool true) ?_
  refine rEnd 11 rfl (nxt (wp_cond_true (by kernel_rfl) (wp_seq (reg ?_))))
  refine rC 0 22 6 [] #[] [] ?_
  have kk24 : Chg [] w W1 := Chg.step ((Chg.refl _).more (by simp)) ch1 trivial
  have kk25 := Chg.step kk24 ch2 trivial
  have kk26 := Chg.step kk25 ch4 trivial
  have kk27 := Chg.step kk26 ch5 trivial
  refine (Known25_any W5 (HV.out.below (Chg.below0 kk27))).mono ?_
  rintro _ W18 ⟨rfl, ch17⟩
  have zz17 := ch17.size
  refine ⟨_, rfl, ?_⟩
  refine rP 1 6 (.bool true) ?_
  refine rEnd 2 rfl (nxt (wp_ret (thR ?_)))
  have kk28 := Chg.step kk27 ch17 trivial
  refine rt (.bool true) ?_
  exact ⟨rfl, Chg.below0 kk28⟩
 refine ⟨_, rfl, ?_⟩
 refine rP 6 17 (.bool true) ?_
 refine rP 7 18 (.bool true) ?_
 refine rZ 8 19 ?_
 refine rZ 9 20 ?_
 refine rP 10 21 (.bool true) ?_
 refine rEnd 11 rfl (nxt (wp_cond_true (by kernel_rfl) (wp_seq (reg ?_))))
 refine rC 0 22 6 [] #[] [] ?_
 have kk29 : Chg [] w W1 := Chg.step ((Chg.refl _).more (by simp)) ch1 trivial
 have kk30 := Chg.step kk29 ch2 trivial
 have kk31 := Chg.step kk30 ch4 trivial
 refine (Known25_any W4 (HV.out.below (Chg.below0 kk31))).mono ?_
 rintro _ W19 ⟨rfl, ch18⟩
 have zz18 := ch18.size
 refine ⟨_, rfl, ?_⟩
 refine rP 1 6 (.bool true) ?_
 refine rEnd 2 rfl (nxt (wp_ret (thR ?_)))
 have kk32 := Chg.step kk31 ch18 trivial
 refine rt (.bool true) ?_
 exact ⟨rfl, Chg.below0 kk32⟩
end Go.Proofs.YtgbadghjnpbiaaaDoor
namespace Mur
open Go Go.RowKit Go.WideShapes Go.ChangeShapes
theorem all2_split {α β : Type} {R : α → β → Prop} : ∀ {l1 l2 : List α} {cs : List β}, All2 R (l1 ++ l2) cs → ∃ c1 c2, cs = c1 ++ c2 ∧ All2 R l1 c1 ∧ All2 R l2 c2
  | [], _, cs, h => ⟨[], cs, rfl, .nil, h⟩
  | x :: l1, l2, cs, h => by
    rcases h with _ | ⟨h0, h⟩
    obtain ⟨c1, c2, rfl, h1, h2⟩ := all2_split h
    exact ⟨_ :: c1, c2, rfl, .cons h0 h1, h2⟩
section
variable {H : Type} {enc : TypeId × Value → H} {P : Program} {W : World}
end
end Mur
namespace Go.Proofs.YtgbadghjnpbiaaaDoor
theorem leafs_a : Mur.leafs Tryd.prog 3 36 = some (List.replicate 32 5 ++ (List.replicate 32 5 ++ ([3] ++ List.replicate 32 5))) := by kernel_rfl
end Go.Proofs.YtgbadghjnpbiaaaDoor
namespace Go.Proofs.YtgbadghjnpbiaaaDoor
open Go.RowKit Go.WideShapes Go.ChangeShapes
open Mur (All2 Leaf Att SlA rowA attC b8s)
set_option maxRecDepth 100000
section
variable {H : Type} {enc : TypeId × Value → H} {W : World}
def lsA : List TypeId := (List.replicate 32 5 ++ (List.replicate 32 5 ++ ([3] ++ List.replicate 32 5)))
theorem cAtt : Tryd.prog.cellsOf 36 = lsA.length := by kernel_rfl
theorem leaf_att {cs : List Value} (ha : All2 (Leaf enc Tryd.prog W 0 (fun _ => true) true) lsA cs) : ∃ x : Att, cs = x.C := by
  obtain ⟨c1, c2, e1, h1, ha⟩ := Mur.all2_split ha
  obtain ⟨c3, c4, e2, h2, ha⟩ := Mur.all2_split ha
  obtain ⟨c5, c6, e3, h3, h4⟩ := Mur.all2_split ha
  obtain ⟨k, hk, rfl⟩ := Mur.leaf_u8s Tryd.underlying5 32 _ h1
  obtain ⟨r, hr, rfl⟩ := Mur.leaf_u8s Tryd.underlying5 32 _ h2
  obtain ⟨t, ht, rfl⟩ := Mur.leaf_u8s Tryd.underlying5 32 _ h4
  rcases h3 with _ | ⟨h3, h5⟩
  cases h5
  obtain ⟨n, rfl, hn⟩ := Mur.leaf_int Tryd.underlying3 h3
  refine ⟨⟨k, r, t, n, hk, hr, ht, hn⟩, ?_⟩
  subst e3 e2
  rw [e1]
  rfl
end
end Go.Proofs.YtgbadghjnpbiaaaDoor
namespace Mur
open Go Go.RowKit Go.WideShapes Go.ChangeShapes
section
variable {H : Type} {enc : TypeId × Value → H} {P : Program} {W : World}
theorem leaf_slice {t e : TypeId} {v : Value} (ht : P.underlying t = some (.slice e)) (h : Leaf enc P W 0 (fun _ => true) true t v) : v.cells.toList = [v] ∧ ∃ d ps, DataW.Trod enc P W 0 (fun _ => true) true t v d ps := by
  obtain ⟨m, ⟨d, ps⟩, hf⟩ := h
  have hv : v.cells.toList = [v] := by
    rcases Deep.open_slice ht hf with ⟨h0, _⟩ | ⟨a, len, cap, m, n, D', Pl, h0, _⟩
    · obtain rfl : v = .slice none 0 0 := by simpa using h0
      rfl
    · obtain rfl : v = .slice (some a) len cap := by simpa using h0
      rfl
  exact ⟨hv, d, ps, m, by rw [hv]; exact hf⟩
end
end Mur
namespace Go.Proofs.YtgbadghjnpbiaaaDoor
open Go.RowKit Go.WideShapes Go.ChangeShapes
open Mur (All2 Leaf Att SlA rowA attC b8s msgC)
set_option maxRecDepth 100000
section
variable {H : Type} {enc : TypeId × Value → H} {W : World}
theorem leaf_atts {v : Value} (h : Leaf enc Tryd.prog W 0 (fun _ => true) true 30 v) :
    ∃ A n c L, v = .slice A n c ∧ (n ≤ c ∧ c ≤ 9223372036854775807) ∧ (A = none → c = 0) ∧ SlA W A n L := by
  obtain ⟨hv, d, ps, h⟩ := Mur.leaf_slice Tryd.underlying30 h
  obtain ⟨A, n, c, rows, rfl, hnc, hcm, hnil, hlen, hrows, hat⟩ := Mur.open_rows 3 lsA Tryd.underlying30 leafs_a cAtt (by decide) hv h
  obtain ⟨L, rfl⟩ := Mur.rows_decode Att.C rows fun r hr => leaf_att (hrows r hr)
  have hl : L.length = n := by simpa using hlen
  refine ⟨A, n, c, L, rfl, ⟨hnc, by unfold maxLen at hcm; omega⟩, hnil, hl, by rw [Mur.rowA_len, hl], fun hn => ?_⟩
  have hp : 0 < n := by
    rcases Nat.eq_zero_or_pos n with h0 | h0
    · rw [List.eq_nil_of_length_eq_zero (hl.trans h0)] at hn
      exact absurd rfl hn
    · exact h0
  obtain ⟨g, off, e, hr⟩ := hat hp
  refine ⟨g, off, e, fun j v hv => ?_⟩
  have hj := (List.getElem?_eq_some_iff.1 hv).1
  rw [Mur.rowA_len] at hj
  obtain ⟨x, hx⟩ : ∃ x, L[j / 97]? = some x := ⟨_, List.getElem?_eq_getElem (by omega)⟩
  have h1 := hr (j / 97) x.C (by simp [hx])
  have h2 : x.C[j % 97]? = some v := by
    have e1 : (rowA L)[j]? = ((rowA L).drop (j / 97 * 97))[j % 97]? := by
      rw [List.getElem?_drop]
      congr 1
      omega
    rw [e1, ← Mur.rowA_drop] at hv
    obtain ⟨h3, rfl⟩ := List.getElem?_eq_some_iff.1 hx
    rw [List.drop_eq_getElem_cons h3, Mur.rowA_cons, List.getElem?_append_left (by rw [Att.C_len]; omega)] at hv
    exact hv
  have h4 := h1 (j % 97) v h2
  have e4 : off + j / 97 * lsA.length + j % 97 = off + j := by
    have : lsA.length = 97 := rfl
    rw [this]
    omega
  rw [e4] at h4
  exact h4
theorem cellsU8 : Tryd.prog.cellsOf 5 = 1 := by kernel_rfl
end
end Go.Proofs.YtgbadghjnpbiaaaDoor
namespace Mur
open Go Go.RowKit Go.WideShapes Go.ChangeShapes Wk
theorem decodeQ {α : Type} (enc' : α → List Value) (Q : α → Prop) : ∀ rows : List (List Value), (∀ r ∈ rows, ∃ p, r = enc' p ∧ Q p) → ∃ l : List α, rows = l.map enc' ∧ ∀ x, x ∈ l → Q x
  | [], _ => ⟨[], rfl, fun _ h => (by cases h)⟩
  | r :: rows, h => by
    obtain ⟨p, rfl, hp⟩ := h r (by simp)
    obtain ⟨l, rfl, hl⟩ := decodeQ enc' Q rows fun x hx => h x (by simp [hx])
    exact ⟨p :: l, rfl, fun x hx => (List.mem_cons.1 hx).elim (fun e => e ▸ hp) (hl x)⟩
theorem rows_slR {w : World} {sz n : Nat} {A : Option Addr} {R : List (List Value)} (hz : Sized sz R) (hp : 0 < sz) (hl : R.length = n) (hat : 0 < n → ∃ g off, A = some ⟨g, off, none⟩ ∧ ∀ i r, R[i]? = some r → w.rangeAt g (off + i * sz) r) : SlR w sz A n R := by
  refine ⟨hl, hz, by rw [flatR_len hz, hl], fun hn => ?_⟩
  have hn0 : 0 < n := by
    rcases Nat.eq_zero_or_pos n with h0 | h0
    · rw [List.eq_nil_of_length_eq_zero (hl.trans h0)] at hn
      exact absurd rfl hn
    · exact h0
  obtain ⟨g, off, e, hr⟩ := hat hn0
  refine ⟨g, off, e, fun j v hv => ?_⟩
  have hj := (List.getElem?_eq_some_iff.1 hv).1
  rw [flatR_len hz] at hj
  have hq : j / sz < R.length := Nat.div_lt_of_lt_mul (by rw [Nat.mul_comm]; exact hj)
  have hrow := List.getElem?_eq_getElem hq
  have h1 := hr (j / sz) R[j / sz] hrow
  have hzl := (hz R[j / sz] (List.getElem_mem _)).1
  have hm : j % sz < sz := Nat.mod_lt _ hp
  have hd : j / sz * sz + j % sz = j := by rw [Nat.mul_comm]; exact Nat.div_add_mod j sz
  have h2 : R[j / sz][j % sz]? = some v := by
    have e1 : (flatR R)[j]? = ((flatR R).drop (j / sz * sz))[j % sz]? := by
      rw [List.getElem?_drop, hd]
    rw [e1, ← flatR_drop hz, List.drop_eq_getElem_cons hq] at hv
    have e2 : flatR (R[j / sz] :: R.drop (j / sz + 1)) = R[j / sz] ++ flatR (R.drop (j / sz + 1)) := rfl
    rw [e2, List.getElem?_append_left (by rw [hzl]; exact hm)] at hv
    exact hv
  have h4 := h1 (j % sz) v h2
  rw [show off + j / sz * sz + j % sz = off + j by omega] at h4
  exact h4
end Mur
namespace Go.Proofs.YtgbadghjnpbiaaaDoor
open Go.RowKit Go.WideShapes Go.ChangeShapes
open Mur (All2 Leaf Att SlA rowA attC b8s msgC)
set_option maxRecDepth 100000
section
variable {H : Type} {enc : TypeId × Value → H} {W : World}
def lsU : List TypeId := [3, 5, 24]
theorem leafs_u : Mur.leafs Tryd.prog 3 66 = some lsU := by kernel_rfl
theorem cUpd : Tryd.prog.cellsOf 66 = lsU.length := by kernel_rfl
theorem leaf_upd {cs : List Value} (ha : All2 (Leaf enc Tryd.prog W 0 (fun _ => true) true) lsU cs) : ∃ u : Int × UInt8 × Nat, cs = Mur.updC u ∧ ((-9223372036854775808 ≤ u.1 ∧ u.1 ≤ 9223372036854775807) ∧ u.2.2 < 18446744073709551616) := by
  rcases ha with _ | ⟨k1, ha⟩
  rcases ha with _ | ⟨k2, ha⟩
  rcases ha with _ | ⟨k3, ha⟩
  cases ha
  obtain ⟨a, rfl, ha⟩ := Mur.leaf_int Tryd.underlying3 k1
  obtain ⟨b, rfl⟩ := Mur.leaf_u8 Tryd.underlying5 k2
  obtain ⟨c, rfl, hc⟩ := Mur.leaf_int Tryd.underlying24 k3
  have h1 := bounds_i64 ha
  have h2 := bounds_u64 hc
  refine ⟨(a, b, c.toNat), ?_, by omega, by show c.toNat < _; omega⟩
  unfold Mur.updC
  rw [show ((c.toNat : Nat) : Int) = c by omega]
theorem leaf_upds {v : Value} (h : Leaf enc Tryd.prog W 0 (fun _ => true) true 25 v) :
    ∃ (s : Mur.Sl3) (l : List (Int × UInt8 × Nat)), v = .slice s.A s.n s.c ∧ Mur.SlN s ∧ Mur.SlR W 3 s.A s.n (l.map Mur.updC) ∧ ∀ u, u ∈ l → ((-9223372036854775808 ≤ u.1 ∧ u.1 ≤ 9223372036854775807) ∧ u.2.2 < 18446744073709551616) := by
  obtain ⟨hv, d, ps, h⟩ := Mur.leaf_slice Tryd.underlying25 h
  obtain ⟨A, n, c, rows, rfl, hnc, hcm, hnil, hlen, hrows, hat⟩ := Mur.open_rows 3 lsU Tryd.underlying25 leafs_u cUpd (by decide) hv h
  obtain ⟨l, rfl, hq⟩ := Mur.decodeQ Mur.updC _ rows fun r hr => leaf_upd (hrows r hr)
  exact ⟨⟨A, n, c⟩, l, rfl, ⟨hnil, hnc, by unfold maxLen at hcm; exact hcm⟩, Mur.rows_slR (Mur.upd_sized l) (by decide) hlen hat, hq⟩
def lsD : List TypeId := List.replicate 32 5
theorem leafs_dg : Mur.leafs Tryd.prog 3 29 = some lsD := by kernel_rfl
theorem cDig : Tryd.prog.cellsOf 29 = lsD.length := by kernel_rfl
theorem leaf_digs {v : Value} (h : Leaf enc Tryd.prog W 0 (fun _ => true) true 37 v) :
    ∃ (s : Mur.Sl3) (l : List (List UInt8)), v = .slice s.A s.n s.c ∧ Mur.SlN s ∧ Mur.SlR W 32 s.A s.n (l.map b8s) ∧ ∀ x, x ∈ l → x.length = 32 := by
  obtain ⟨hv, d, ps, h⟩ := Mur.leaf_slice Tryd.underlying37 h
  obtain ⟨A, n, c, rows, rfl, hnc, hcm, hnil, hlen, hrows, hat⟩ := Mur.open_rows 3 lsD Tryd.underlying37 leafs_dg cDig (by decide) hv h
  obtain ⟨l, rfl, hq⟩ := Mur.decodeQ b8s (fun x => x.length = 32) rows fun r hr => (Mur.leaf_u8s Tryd.underlying5 32 _ (hrows r hr)).imp fun x hx => ⟨hx.2, hx.1⟩
  exact ⟨⟨A, n, c⟩, l, rfl, ⟨hnil, hnc, by unfold maxLen at hcm; exact hcm⟩, Mur.rows_slR (Mur.dig_sized hq) (by decide) hlen hat, hq⟩
theorem leaf_bys {v : Value} (h : Leaf enc Tryd.prog W 0 (fun _ => true) true 22 v) : ∃ (s : Mur.Sl3) (l : List UInt8), v = .slice s.A s.n s.c ∧ Mur.SlN s ∧ Mur.Byt W s.A s.n l := by
  obtain ⟨A, n, c, l, rfl, h1, h2, h3, h4⟩ := Mur.leaf_byt Tryd.underlying22 Tryd.underlying5 cellsU8 h
  exact ⟨⟨A, n, c⟩, l, rfl, ⟨h3, h1, by unfold maxLen at h2; exact h2⟩, h4⟩
theorem leaf_at3 {v : Value} (h : Leaf enc Tryd.prog W 0 (fun _ => true) true 30 v) : ∃ (s : Mur.Sl3) (l : List Att), v = .slice s.A s.n s.c ∧ Mur.SlN s ∧ SlA W s.A s.n l := by
  obtain ⟨A, n, c, l, rfl, h1, h2, h3⟩ := leaf_atts h
  exact ⟨⟨A, n, c⟩, l, rfl, ⟨h2, h1.1, h1.2⟩, h3⟩
def lsF : List TypeId := [5, 3, 3, 3, 5, 24, 3, 25, 5, 22] ++ (lsD ++ ([3, 30, 4] ++ (lsD ++ ([3, 24, 24, 4] ++ (lsD ++ (lsD ++ ([3] ++ (lsD ++ (lsD ++ [3, 22, 37])))))))))
theorem leafs_f : Mur.leafs Tryd.prog 4 39 = some lsF := by kernel_rfl
theorem open_frm {v : Value} {d : DataW H} {ps : List MemPlace} (hval : ∃ r b0, Value.okWide Tryd.prog W r b0 39 v) (h : DataW.Trod enc Tryd.prog W 0 (fun _ => true) true 39 v d ps) :
    ∃ (f : Mur.Frm) (z : Mur.Zs), v = .agg (Mur.frmP f z).flatten.toArray ∧ Mur.LiesF W z f ∧ Mur.FrmIn f := by
  obtain ⟨cs, rfl, ha⟩ := Mur.open_agg 4 (.inr ⟨_, Tryd.underlying39⟩) leafs_f hval h
  obtain ⟨c1, cs1, e1, h1, ha⟩ := Mur.all2_split ha
  obtain ⟨c2, cs2, e2, h2, ha⟩ := Mur.all2_split ha
  obtain ⟨c3, cs3, e3, h3, ha⟩ := Mur.all2_split ha
  obtain ⟨c4, cs4, e4, h4, ha⟩ := Mur.all2_split ha
  obtain ⟨c5, cs5, e5, h5, ha⟩ := Mur.all2_split ha
  obtain ⟨c6, cs6, e6, h6, ha⟩ := Mur.all2_split ha
  obtain ⟨c7, cs7, e7, h7, ha⟩ := Mur.all2_split ha
  obtain ⟨c8, cs8, e8, h8, ha⟩ := Mur.all2_split ha
  obtain ⟨c9, cs9, e9, h9, ha⟩ := Mur.all2_split ha
  obtain ⟨c10, c11, e10, h10, h11⟩ := Mur.all2_split ha
  rcases h1 with _ | ⟨k1, h1⟩
  rcases h1 with _ | ⟨k2, h1⟩
  rcases h1 with _ | ⟨k3, h1⟩
  rcases h1 with _ | ⟨k4, h1⟩
  rcases h1 with _ | ⟨k5, h1⟩
  rcases h1 with _ | ⟨k6, h1⟩
  rcases h1 with _ | ⟨k7, h1⟩
  rcases h1 with _ | ⟨k8, h1⟩
  rcases h1 with _ | ⟨k9, h1⟩
  rcases h1 with _ | ⟨k10, h1⟩
  cases h1
  rcases h3 with _ | ⟨m1, h3⟩
  rcases h3 with _ | ⟨m2, h3⟩
  rcases h3 with _ | ⟨m3, h3⟩
  cases h3
  rcases h5 with _ | ⟨n1, h5⟩
  rcases h5 with _ | ⟨n2, h5⟩
  rcases h5 with _ | ⟨n3, h5⟩
  rcases h5 with _ | ⟨n4, h5⟩
  cases h5
  rcases h8 with _ | ⟨o1, h8⟩
  cases h8
  rcases h11 with _ | ⟨q1, h11⟩
  rcases h11 with _ | ⟨q2, h11⟩
  rcases h11 with _ | ⟨q3, h11⟩
  cases h11
  obtain ⟨kd, rfl⟩ := Mur.leaf_u8 Tryd.underlying5 k1
  obtain ⟨a, rfl, w1⟩ := Mur.leaf_int Tryd.underlying3 k2
  obtain ⟨b, rfl, w2⟩ := Mur.leaf_int Tryd.underlying3 k3
  obtain ⟨t, rfl, w3⟩ := Mur.leaf_int Tryd.underlying3 k4
  obtain ⟨pk, rfl⟩ := Mur.leaf_u8 Tryd.underlying5 k5
  obtain ⟨sq, rfl, w4⟩ := Mur.leaf_int Tryd.underlying24 k6
  obtain ⟨ab, rfl, w5⟩ := Mur.leaf_int Tryd.underlying3 k7
  obtain ⟨u, ul, rfl, un, us, uq⟩ := leaf_upds k8
  obtain ⟨gk, rfl⟩ := Mur.leaf_u8 Tryd.underlying5 k9
  obtain ⟨p, pl, rfl, pn, pb⟩ := leaf_bys k10
  obtain ⟨gs, hgs, rfl⟩ := Mur.leaf_u8s Tryd.underlying5 32 _ h2
  obtain ⟨gn, rfl, w6⟩ := Mur.leaf_int Tryd.underlying3 m1
  obtain ⟨i, il, rfl, inn, is⟩ := leaf_at3 m2
  obtain ⟨ga, rfl⟩ := Mur.leaf_bool Tryd.underlying4 m3
  obtain ⟨ck, hck, rfl⟩ := Mur.leaf_u8s Tryd.underlying5 32 _ h4
  obtain ⟨cn, rfl, w7⟩ := Mur.leaf_int Tryd.underlying3 n1
  obtain ⟨ci, rfl, w8⟩ := Mur.leaf_int Tryd.underlying24 n2
  obtain ⟨cc, rfl, w9⟩ := Mur.leaf_int Tryd.underlying24 n3
  obtain ⟨cg, rfl⟩ := Mur.leaf_bool Tryd.underlying4 n4
  obtain ⟨ak, hak, rfl⟩ := Mur.leaf_u8s Tryd.underlying5 32 _ h6
  obtain ⟨ar, har, rfl⟩ := Mur.leaf_u8s Tryd.underlying5 32 _ h7
  obtain ⟨an, rfl, w10⟩ := Mur.leaf_int Tryd.underlying3 o1
  obtain ⟨at_, hat, rfl⟩ := Mur.leaf_u8s Tryd.underlying5 32 _ h9
  obtain ⟨rt, hrt, rfl⟩ := Mur.leaf_u8s Tryd.underlying5 32 _ h10
  obtain ⟨ch, rfl, w11⟩ := Mur.leaf_int Tryd.underlying3 q1
  obtain ⟨y, yl, rfl, yn, yb⟩ := leaf_bys q2
  obtain ⟨f, fl_, rfl, fn, fs, fq⟩ := leaf_digs q3
  have b4 := bounds_u64 w4
  have b8_ := bounds_u64 w8
  have b9 := bounds_u64 w9
  refine ⟨⟨kd, a, b, t, pk, sq.toNat, ab, ul, ⟨gk, pl, gs, gn, il, ga⟩, ck, cn, ci.toNat, cc.toNat, cg, ⟨ak, ar, at_, an, hak, har, hat, w10⟩, rt, ch, yl, fl_⟩, ⟨u, p, i, y, f⟩, ?_, ⟨us, pb, is, yb, fs, un, pn, inn, yn, fn⟩, ⟨⟨?_, ?_, ?_, fun x hx => (uq x hx).2, hgs, hck, hrt, fq⟩, bounds_i64 w1, bounds_i64 w2, bounds_i64 w3, bounds_i64 w5, fun x hx => (uq x hx).1, bounds_i64 w6, bounds_i64 w7, bounds_i64 w11⟩⟩
  · have e4' : ((sq.toNat : Nat) : Int) = sq := by omega
    have e8' : ((ci.toNat : Nat) : Int) = ci := by omega
    have e9' : ((cc.toNat : Nat) : Int) = cc := by omega
    show Value.agg cs = .agg (Mur.frmL kd a b t pk sq.toNat ab u gk p gs gn i ga ck cn ci.toNat cc.toNat cg ak ar an at_ rt ch y f).flatten.toArray
    unfold Mur.frmL
    rw [e4', e8', e9']
    subst e10 e9 e8 e7 e6 e5 e4 e3 e2
    congr 1
    exact (congrArg List.toArray e1).trans (by simp)
  · show sq.toNat < 2 ^ 64
    omega
  · show ci.toNat < 2 ^ 64
    omega
  · show cc.toNat < 2 ^ 64
    omega
end
end Go.Proofs.YtgbadghjnpbiaaaDoor
