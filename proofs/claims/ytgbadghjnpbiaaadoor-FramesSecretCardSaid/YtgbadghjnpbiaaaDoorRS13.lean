/- What the row rests on, part 13. -/
import Derived.Test.YtgbadghjnpbiaaaDoorRS9
import Derived.Test.YtgbadghjnpbiaaaDoorRS12
import Derived.Test.YtgbadghjnpbiaaaDoorRS7
import Derived.Test.YtgbadghjnpbiaaaDoorRS6
import Derived.Test.YtgbadghjnpbiaaaDoorRS11
namespace Go.Proofs.YtgbadghjnpbiaaaDoor
open Go.RowKit Wk
open Mur (b8s Byt Own8 Seg Segs flat cutA attC Att SlA OwnA rowA msgC Frm Zs LiesF FrmIn mayFM frmP bodyFM segs_cell frmL_sz conv_int i64_nat u64n formN slr_lt body_le own8_low segs_rng msg_kind byt_chg byt_blt b8s_length newOr_own segs_row bytesFM frmL_size)
set_option maxRecDepth 100000
set_option maxHeartbeats 4000000
theorem Body_any (f : Frm) (z : Zs) (w : World) (hL : LiesF w z f) (hI : FrmIn f) (hm : mayFM f) : Calls Tryd.prog 23 #[.agg (frmP f z).flatten.toArray] w fun e w' => ∃ A1 n1 c1, e = .returned (.slice A1 n1 c1) ∧ Own8 w' w.heap.size 5 A1 n1 c1 (bodyFM f) ∧ n1 ≤ 1900 ∧ Chg [] w w' := by
 have hLin_ : z.In fun g => g < w.heap.size → Wk.Off g [] := ⟨fun _ _ _ _ => trivial, fun _ _ _ _ => trivial, fun _ _ _ _ => trivial, fun _ _ _ _ => trivial, fun _ _ _ _ => trivial⟩
 have hLunc_ := hL.nu.nc
 have hLucm_ := hL.nu.cm
 have hLpnc_ := hL.np.nc
 have hLpcm_ := hL.np.cm
 have hLinc_ := hL.ni.nc
 have hLicm_ := hL.ni.cm
 have hLync_ := hL.ny.nc
 have hLycm_ := hL.ny.cm
 have hLfnc_ := hL.nf.nc
 have hLfcm_ := hL.nf.cm
 have hpk8_ := f.pKind.toNat_lt
 have hgk8_ := f.gos.kind.toNat_lt
 have hfk8_ := f.kind.toNat_lt
 have hul_ := hL.upd.len
 rw [List.length_map] at hul_
 have hil_ := hL.its.len
 have hfl_ := hL.prf.len
 rw [List.length_map] at hfl_
 have hpl_ := hL.pre.1
 have hyl_ := hL.byt.1
 have hkm_ := Mur.kind_may hm
 have hH4_ : Mur.nodeM f.frm ∧ Mur.nodeM f.dst ∧ f.frm ≠ f.dst ∧ f = Mur.bareM f := ⟨hm.1, hm.2.1, hm.2.2.1, hm.2.2.2.1⟩
 refine calls_of_wp Tryd.func23 rfl ?_
 refine sR<|nW 0 1 ((frmP f z).flatten.toArray) 39 fun W1 hb1 ch1 sz1 => rP 1 2 (.slice none 0 0)<|eN<|sR<|rP 0 5 (.agg #[.slice none 0 0])<|nW 1 6 #[.slice none 0 0] 97 fun W2 hb2 ch2 sz2 => rP 2 3 (pt W1.heap.size 0)<|eN<|sR<|?_
 have ow1 := Mur.own8_none W2 (W1.heap.size + 1) 5
 refine rP 0 7 (pt W1.heap.size 0)<|rP 1 8 (pt w.heap.size 0)<|rF 2 9 0 (.int .u8 f.kind.toNat) hI.sz (qT ch2 hb1) 0<|rq 3 10 (.int .i64 f.kind.toNat) rfl (conv_int 5 3 (.tmp 9) rfl (by kernel_rfl) .i64 Tryd.underlying3 .u8 (f.kind.toNat : Int) (by kernel_rfl) (i64_nat (n := f.kind.toNat) (by omega)))<|rP 4 11 (pt w.heap.size 1)<|rF 5 12 1 (.int .i64 f.frm) hI.sz (qT ch2 hb1) 1<|rP 6 13 (pt w.heap.size 2)<|rF 7 14 2 (.int .i64 f.dst) hI.sz (qT ch2 hb1) 2<|rX 8 15 rfl rfl (new_ex (.slice (some ⟨W2.heap.size, 0, none⟩) 3 3) #[.int .i64 f.kind.toNat, .int .i64 f.frm, .int .i64 f.dst] 3 (by kernel_rfl)) ?_
 rintro _ W3 ⟨rfl, hb3, ch3, sz3⟩
 have zz3 := ch3.size
 have ow2 := Mur.own8 (own_chg ow1.own ch3 (fun q e _ _ => trivial))
 refine rK 9 16 (Wint3_any W1.heap.size (W1.heap.size + 1) none 0 0 ([]) W2.heap.size (f.kind.toNat : Int) f.frm f.dst W3 (qT ch3 hb2) ⟨by omega, by omega⟩ ow2 (by omega) hb3 (by omega)) ?_
 rintro _ W4 ⟨AA1, nn1, cc1, rfl, hgw1, ow3, hle1, ch4⟩
 have zz4 := ch4.size
 have hq1 := ow3.nc
 have hq2 := ow3.cm
 have hq3 := ow3.byt.1
 refine eN<|wp_seq<|sR<|rP 0 17 (pt w.heap.size 0)<|rF 1 18 0 (.int .u8 f.kind.toNat) hI.sz (qO ch4 (qT ch3 (qT ch2 hb1))) 0<|eN<|wp_block<|sR<|?_
 by_cases hx1 : (f.kind.toNat : Int) = (1 : Int)
 ·refine eT 0 20 (f.kind.toNat : Int) (1 : Int)<|rP 1 19 (.bool true)<|eN<|cT<|sR<|?_
  have hk_ : f.kind = 1 := UInt8.toNat_inj.1 (by have h_ : (1 : UInt8).toNat = 1 := rfl; omega)
  have hmk_ := (Mur.mayFM_1 hH4_ hk_).1 hm
  have hu8_ := hmk_.2.2.2.1
  refine rP 0 21 (pt W1.heap.size 0)<|rP 1 22 (pt w.heap.size 3)<|rP 2 23 (pt w.heap.size 4)<|rF 3 24 4 (.int .u8 f.pKind.toNat) hI.sz (qO ch4 (qT ch3 (qT ch2 hb1))) 4<|rq 4 25 (.int .u64 f.pKind.toNat) rfl (conv_int 5 24 (.tmp 24) rfl (by kernel_rfl) .u64 Tryd.underlying24 .u8 (f.pKind.toNat : Int) (by kernel_rfl) (Mur.u64_nat (n := f.pKind.toNat) (by omega)))<|rP 5 26 (pt w.heap.size 3)<|rP 6 27 (pt w.heap.size 5)<|rF 7 28 5 (.int .u64 f.pSeq) hI.sz (qO ch4 (qT ch3 (qT ch2 hb1))) 5<|rP 8 29 (pt w.heap.size 3)<|rP 9 30 (pt w.heap.size 6)<|rF 10 31 6 (.int .i64 f.pAbout) hI.sz (qO ch4 (qT ch3 (qT ch2 hb1))) 6<|rq 11 32 (.int .u64 (u64n f.pAbout : Nat)) rfl (Mur.conv_u64n 3 24 (.tmp 31) rfl (by kernel_rfl) Tryd.underlying24 .i64 f.pAbout (by kernel_rfl))<|rX 12 33 rfl rfl (new_ex (.slice (some ⟨W4.heap.size, 0, none⟩) 3 3) #[.int .u64 f.pKind.toNat, .int .u64 f.pSeq, .int .u64 (u64n f.pAbout : Nat)] 24 (by kernel_rfl)) ?_
  rintro _ W5 ⟨rfl, hb4, ch5, sz4⟩
  have zz5 := ch5.size
  have ow4 := Mur.own8 (own_chg ow3.own ch5 (fun q e _ _ => trivial))
  refine rK 13 34 (Wuint3_any W1.heap.size W3.heap.size AA1 nn1 cc1 (([]) ++ formN (u64n (f.kind.toNat : Int)) ++ formN (u64n f.frm) ++ formN (u64n f.dst)) W4.heap.size f.pKind.toNat f.pSeq (u64n f.pAbout) W5 (qT ch5 hgw1) ⟨by omega, by omega⟩ ow4 (by omega) hb4 (by omega) (by have := f.pKind.toNat_lt; omega) hI.ok.seq (Mur.u64n_lt _)) ?_
  rintro _ W6 ⟨AA2, nn2, cc2, rfl, hgw2, ow5, hle2, ch6⟩
  have zz6 := ch6.size
  have hq4 := ow5.nc
  have hq5 := ow5.cm
  have hq6 := ow5.byt.1
  refine eN<|reg<|rP 0 35 (pt W1.heap.size 0)<|rP 1 36 (pt w.heap.size 3)<|rP 2 37 (pt w.heap.size 7)<|rF 3 38 7 (.slice z.u.A z.u.n z.u.c) hI.sz (qO ch6 (qT ch5 (qO ch4 (qT ch3 (qT ch2 hb1))))) 7<|rP 4 39 (pt W1.heap.size 0)<|rP 5 40 (.func (.func 52) #[pt W1.heap.size 0] #[]) ?_
  have kk1 : Chg [] w W1 := zA ch1
  have kk2 := kA kk1 ch2
  have kk3 := kA kk2 ch3
  have kk4 := kB kk3 ch4
  have kk5 := kA kk4 ch5
  have kk6 := kB kk5 ch6
  refine rK 6 41 (WListU_any W1.heap.size W5.heap.size AA2 nn2 cc2 (([]) ++ formN (u64n (f.kind.toNat : Int)) ++ formN (u64n f.frm) ++ formN (u64n f.dst) ++ formN f.pKind.toNat ++ formN f.pSeq ++ formN (u64n f.pAbout)) f.pUpd z.u.A z.u.n z.u.c W6 hgw2 ⟨by omega, by omega⟩ ow5 (by omega) (LiesF.chg hL kk6 hLin_).upd (fun u_ h_ => hI.ok.upd u_ h_) (by omega) (fun g2 off e_ hn_ => by have h_ := slr_lt hL.upd (by decide) e_ hn_; omega)) ?_
  rintro _ W7 ⟨AA3, nn3, cc3, rfl, hgw3, ow6, hle3, ch7⟩
  have zz7 := ch7.size
  have hq7 := ow6.nc
  have hq8 := ow6.cm
  have hq9 := ow6.byt.1
  refine rE<|inN<|nxt<|sR<|rP 0 137 (pt W1.heap.size 0)<|rP 1 138 (pt W1.heap.size 0)<|rP 2 139 (pt W1.heap.size 0)<|rL 3 140 0 (.slice AA3 nn3 cc3) hgw3<|rP 4 2 (.slice AA3 nn3 cc3)<|eN<|wp_ret<|?_
  have hH_ := ow6
  rw [List.nil_append, Mur.bodyB_1 hm hk_] at hH_
  have hbd_ := body_le hm hI.ok
  have hbl_ := hH_.byt.1
  have kk7 := kB kk6 ch7
  refine rt (.slice AA3 nn3 cc3) ?_
  exact ⟨_, _, _, rfl, own8_low hH_ (by omega), by omega, kk7⟩
 refine eF 0 20 (f.kind.toNat : Int) (1 : Int)<|rP 1 19 (.bool false)<|eN<|cF<|sR<|?_
 by_cases hx2 : (f.kind.toNat : Int) = (2 : Int)
 ·refine eT 0 43 (f.kind.toNat : Int) (2 : Int)<|rP 1 42 (.bool true)<|eN<|cT<|sR<|?_
  have hk_ : f.kind = 2 := UInt8.toNat_inj.1 (by have h_ : (2 : UInt8).toNat = 2 := rfl; omega)
  have hmk_ := (Mur.mayFM_2 hH4_ hk_).1 hm
  have hp8_ := Mur.pre_len hmk_.1
  have hi8_ := hmk_.2.2.2.1
  refine rP 0 44 (pt w.heap.size 8)<|rq 1 45 (.agg ((Mur.msgC f.gos.kind z.p.A z.p.n z.p.c f.gos.sum f.gos.cnt z.i.A z.i.n z.i.c f.gos.ans).toArray)) rfl (lR 8 (Mur.msgC f.gos.kind z.p.A z.p.n z.p.c f.gos.sum f.gos.cnt z.i.A z.i.n z.i.c f.gos.ans) (show World.rangeAt _ _ (0 + 8) _ from segs_rng hI.sz (range_row (qO ch4 (qT ch3 (qT ch2 hb1)))) 8 6 rfl rfl) (by rw [Mur.msgC_length hI.ok.sum]; kernel_rfl))<|nW 2 4 ZM 32 fun W8 hb5 ch8 sz5 => rU 3 rfl (sB (Mur.msgC f.gos.kind z.p.A z.p.n z.p.c f.gos.sum f.gos.cnt z.i.A z.i.n z.i.c f.gos.ans).toArray (Mur.msgC_size hI.ok.sum) Mur.msgC_all hb5 (by kernel_rfl)) fun W10 hb6 ch9 zz9 => eN<|sR<|rP 0 46 (pt W1.heap.size 0)<|rP 1 47 (pt W4.heap.size 0)<|rq 2 48 _ rfl (ld 5 47 W4.heap.size 0 (.int .u8 f.gos.kind.toNat) (show World.cell? _ ⟨_, 0 + 0, _⟩ = _ from msg_kind (range_row hb6)))<|rq 3 49 (.int .i64 f.gos.kind.toNat) rfl (conv_int 5 3 (.tmp 48) rfl (by kernel_rfl) .i64 Tryd.underlying3 .u8 (f.gos.kind.toNat : Int) (by kernel_rfl) (i64_nat (n := f.gos.kind.toNat) (by omega)))<|rX 4 50 rfl rfl (new_ex (.slice (some ⟨W10.heap.size, 0, none⟩) 1 1) #[.int .i64 f.gos.kind.toNat] 3 (by kernel_rfl)) ?_
  rintro _ W11 ⟨rfl, hb7, ch10, sz6⟩
  have zz10 := ch10.size
  have ow7 := Mur.own8 (own_chg ow3.own ch8 (fun q e _ _ => trivial))
  have ow8 := Mur.own8 (own_chg ow7.own ch9 (fun q e _ _ => ⟨by have := ow3.lt q e; omega, trivial⟩))
  have ow9 := Mur.own8 (own_chg ow8.own ch10 (fun q e _ _ => trivial))
  refine rK 5 51 (Wint1_any W1.heap.size W3.heap.size AA1 nn1 cc1 (([]) ++ formN (u64n (f.kind.toNat : Int)) ++ formN (u64n f.frm) ++ formN (u64n f.dst)) W10.heap.size (f.gos.kind.toNat : Int) W11 (qT ch10 (qO ch9 (qT ch8 hgw1))) ⟨by omega, by omega⟩ ow9 (by omega) hb7 (by omega)) ?_
  rintro _ W12 ⟨AA4, nn4, cc4, rfl, hgw4, ow10, hle4, ch11⟩
  have zz11 := ch11.size
  have hq10 := ow10.nc
  have hq11 := ow10.cm
  have hq12 := ow10.byt.1
  refine eN<|sR<|rP 0 52 (pt W1.heap.size 0)<|rP 1 53 (pt W4.heap.size 1)<|rq 2 54 _ rfl (ld 22 53 W4.heap.size 1 (.slice z.p.A z.p.n z.p.c) (show World.cell? _ ⟨_, 0 + 1, _⟩ = _ from Mur.msg_pre (range_row (qO ch11 (qT ch10 hb6))))) ?_
  have kk8 : Chg [] w W1 := zA ch1
  have kk9 := kA kk8 ch2
  have kk10 := kA kk9 ch3
  have kk11 := kB kk10 ch4
  have kk12 := kA kk11 ch8
  have kk13 := kB kk12 ch9
  have kk14 := kA kk13 ch10
  have kk15 := kB kk14 ch11
  refine rK 3 55 (Wbytes_any W1.heap.size W11.heap.size AA4 nn4 cc4 (([]) ++ formN (u64n (f.kind.toNat : Int)) ++ formN (u64n f.frm) ++ formN (u64n f.dst) ++ formN (u64n (f.gos.kind.toNat : Int))) f.gos.pre z.p.A z.p.n z.p.c W12 hgw4 ⟨by omega, by omega⟩ ow10 (by omega) (byt_chg hL.pre kk15 (fun g off e hl => trivial)) ⟨by omega, by omega⟩ hL.np.nil (by omega) (fun g2 off e_ hn_ => by have h_ := byt_blt hL.pre e_ hn_; omega)) ?_
  rintro _ W13 ⟨AA5, nn5, cc5, rfl, hgw5, ow11, hle5, ch12⟩
  have zz12 := ch12.size
  have kk16 := kB kk15 ch12
  have hq13 := ow11.nc
  have hq14 := ow11.cm
  have hq15 := ow11.byt.1
  refine eN<|sR<|rP 0 56 (pt W4.heap.size 0)<|rq 1 57 _ rfl (ld 5 56 W4.heap.size 0 (.int .u8 f.gos.kind.toNat) (show World.cell? _ ⟨_, 0 + 0, _⟩ = _ from msg_kind (range_row (qO ch12 (qO ch11 (qT ch10 hb6)))))) ?_
  by_cases hx3 : (f.gos.kind.toNat : Int) = (1 : Int)
  ·refine eT 2 58 (f.gos.kind.toNat : Int) (1 : Int)<|eN<|cT<|sR<|rP 0 59 (pt W1.heap.size 0)<|rP 1 60 (pt W4.heap.size 2)<|rq 2 61 (.agg ((b8s f.gos.sum).toArray)) rfl (lR 2 (b8s f.gos.sum) (show World.rangeAt _ _ (0 + 2) _ from Mur.msg_sum (range_row (qO ch12 (qO ch11 (qT ch10 hb6))))) (by rw [b8s_length, hI.ok.sum]; kernel_rfl))<|rK 3 62 (Wdigest_any W1.heap.size W12.heap.size AA5 nn5 cc5 (([]) ++ formN (u64n (f.kind.toNat : Int)) ++ formN (u64n f.frm) ++ formN (u64n f.dst) ++ formN (u64n (f.gos.kind.toNat : Int)) ++ (formN f.gos.pre.length ++ f.gos.pre)) f.gos.sum W13 hgw5 ⟨by omega, by omega⟩ ow11 (by omega) hI.ok.sum) ?_
   rintro _ W14 ⟨AA6, nn6, cc6, rfl, hgw6, ow12, hle6, ch13⟩
   have lto1 := ow11.lt
   have zz13 := ch13.size
   have hq16 := ow12.nc
   have hq17 := ow12.cm
   have hq18 := ow12.byt.1
   refine eN<|reg<|rP 0 63 (pt W1.heap.size 0)<|rP 1 64 (pt W4.heap.size 34)<|rq 2 65 _ rfl (ld 3 64 W4.heap.size 34 (.int .i64 f.gos.cnt) (show World.cell? _ ⟨_, 0 + 34, _⟩ = _ from Mur.msg_cnt hI.ok.sum (range_row (Chg.hp ch13 (qO ch12 (qO ch11 (qT ch10 hb6))) ⟨by omega, (off_blk (fun gz hgz => by have := lto1 gz hgz; omega))⟩))))<|rX 3 66 rfl rfl (new_ex (.slice (some ⟨W14.heap.size, 0, none⟩) 1 1) #[.int .i64 f.gos.cnt] 3 (by kernel_rfl)) ?_
   rintro _ W15 ⟨rfl, hb8, ch14, sz7⟩
   have zz14 := ch14.size
   have ow13 := Mur.own8 (own_chg ow12.own ch14 (fun q e _ _ => trivial))
   refine rK 4 67 (Wint1_any W1.heap.size W12.heap.size AA6 nn6 cc6 (([]) ++ formN (u64n (f.kind.toNat : Int)) ++ formN (u64n f.frm) ++ formN (u64n f.dst) ++ formN (u64n (f.gos.kind.toNat : Int)) ++ (formN f.gos.pre.length ++ f.gos.pre) ++ f.gos.sum) W14.heap.size f.gos.cnt W15 (qT ch14 hgw6) ⟨by omega, by omega⟩ ow13 (by omega) hb8 (by omega)) ?_
   rintro _ W16 ⟨AA7, nn7, cc7, rfl, hgw7, ow14, hle7, ch15⟩
   have zz15 := ch15.size
   have hq19 := ow14.nc
   have hq20 := ow14.cm
   have hq21 := ow14.byt.1
   refine rE<|inN<|nxt<|sR<|rP 0 137 (pt W1.heap.size 0)<|rP 1 138 (pt W1.heap.size 0)<|rP 2 139 (pt W1.heap.size 0)<|rL 3 140 0 (.slice AA7 nn7 cc7) hgw7<|rP 4 2 (.slice AA7 nn7 cc7)<|eN<|wp_ret<|?_
   have hH_ := ow14
   have hgk_ : f.gos.kind = 1 := UInt8.toNat_inj.1 (by have h_ : (1 : UInt8).toNat = 1 := rfl; omega)
   rw [List.nil_append, Mur.bodyB_2s hm hk_ hgk_] at hH_
   have hbd_ := body_le hm hI.ok
   have hbl_ := hH_.byt.1
   have kk17 := Chg.step kk16 ch13 (newOr_own (.inr (by omega)) (fun gz hgz => by have := lto1 gz hgz; omega))
   have kk18 := kA kk17 ch14
   have kk19 := kB kk18 ch15
   refine rt (.slice AA7 nn7 cc7) ?_
   exact ⟨_, _, _, rfl, own8_low hH_ (by omega), by omega, kk19⟩
  refine eF 2 58 (f.gos.kind.toNat : Int) (1 : Int)<|eN<|cF<|sR<|rP 0 68 (pt W1.heap.size 0)<|rP 1 69 (pt W4.heap.size 35)<|rq 2 70 _ rfl (ld 30 69 W4.heap.size 35 (.slice z.i.A z.i.n z.i.c) (show World.cell? _ ⟨_, 0 + 35, _⟩ = _ from Mur.msg_items hI.ok.sum (range_row (qO ch12 (qO ch11 (qT ch10 hb6))))))<|rP 3 71 (pt W1.heap.size 0)<|rP 4 72 (.func (.func 56) #[pt W1.heap.size 0] #[])<|rK 5 73 (WListA_any W1.heap.size W12.heap.size AA5 nn5 cc5 (([]) ++ formN (u64n (f.kind.toNat : Int)) ++ formN (u64n f.frm) ++ formN (u64n f.dst) ++ formN (u64n (f.gos.kind.toNat : Int)) ++ (formN f.gos.pre.length ++ f.gos.pre)) f.gos.items z.i.A z.i.n z.i.c W13 hgw5 ⟨by omega, by omega⟩ ow11 (by omega) (LiesF.chg hL kk16 hLin_).its.slR (fun x_ h_ => (hmk_.2.2.2.2.resolve_left (fun q_ => by have h2_ : f.gos.kind.toNat = 1 := congrArg UInt8.toNat q_.1; omega)).2.1 x_ h_ |>.1) (by omega) (fun g2 off e_ hn_ => by have h_ := slr_lt hL.its.slR (by decide) e_ hn_; omega)) ?_
  rintro _ W17 ⟨AA8, nn8, cc8, rfl, hgw8, ow15, hle8, ch16⟩
  have zz16 := ch16.size
  have hq22 := ow15.nc
  have hq23 := ow15.cm
  have hq24 := ow15.byt.1
  refine eN<|reg<|rP 0 74 (pt W1.heap.size 0)<|rP 1 75 (pt W4.heap.size 36)<|rq 2 76 _ rfl (ld 4 75 W4.heap.size 36 (.bool f.gos.ans) (show World.cell? _ ⟨_, 0 + 36, _⟩ = _ from Mur.msg_ans hI.ok.sum (range_row (qO ch16 (qO ch12 (qO ch11 (qT ch10 hb6)))))))<|rK 3 77 (Wflag_any W1.heap.size W13.heap.size AA8 nn8 cc8 (([]) ++ formN (u64n (f.kind.toNat : Int)) ++ formN (u64n f.frm) ++ formN (u64n f.dst) ++ formN (u64n (f.gos.kind.toNat : Int)) ++ (formN f.gos.pre.length ++ f.gos.pre) ++ (formN f.gos.items.length ++ (f.gos.items.map Att.raw).flatten)) f.gos.ans W17 hgw8 ⟨by omega, by omega⟩ ow15 (by omega)) ?_
  rintro _ W18 ⟨AA9, nn9, cc9, rfl, hgw9, ow16, hle9, ch17⟩
  have zz17 := ch17.size
  have hq25 := ow16.nc
  have hq26 := ow16.cm
  have hq27 := ow16.byt.1
  refine rE<|inN<|nxt<|sR<|rP 0 137 (pt W1.heap.size 0)<|rP 1 138 (pt W1.heap.size 0)<|rP 2 139 (pt W1.heap.size 0)<|rL 3 140 0 (.slice AA9 nn9 cc9) hgw9<|rP 4 2 (.slice AA9 nn9 cc9)<|eN<|wp_ret<|?_
  have hH_ := ow16
  have hgk_ : ¬ f.gos.kind = 1 := fun e_ => by have h_ : f.gos.kind.toNat = 1 := congrArg UInt8.toNat e_; omega
  rw [List.nil_append, Mur.bodyB_2i hm hk_ hgk_] at hH_
  have hbd_ := body_le hm hI.ok
  have hbl_ := hH_.byt.1
  have kk20 := kB kk16 ch16
  have kk21 := kB kk20 ch17
  refine rt (.slice AA9 nn9 cc9) ?_
  exact ⟨_, _, _, rfl, own8_low hH_ (by omega), by omega, kk21⟩
 refine eF 0 43 (f.kind.toNat : Int) (2 : Int)<|rP 1 42 (.bool false)<|eN<|cF<|sR<|?_
 by_cases hx4 : (f.kind.toNat : Int) = (3 : Int)
 ·refine eT 0 79 (f.kind.toNat : Int) (3 : Int)<|rP 1 78 (.bool true)<|eN<|cT<|sR<|?_
  have hk_ : f.kind = 3 := UInt8.toNat_inj.1 (by have h_ : (3 : UInt8).toNat = 3 := rfl; omega)
  have hmk_ := (Mur.mayFM_3 hH4_ hk_).1 hm
  refine rP 0 80 (pt W1.heap.size 0)<|rP 1 81 (pt w.heap.size 45)<|rP 2 82 (pt w.heap.size 45)<|rq 3 83 (.agg ((b8s f.cKey).toArray)) rfl (lR 45 (b8s f.cKey) (show World.rangeAt _ _ (0 + 45) _ from segs_row hI.sz (range_row (qO ch4 (qT ch3 (qT ch2 hb1)))) 14 rfl rfl) (by rw [b8s_length, hI.ok.key]; kernel_rfl))<|rK 4 84 (Wdigest_any W1.heap.size W3.heap.size AA1 nn1 cc1 (([]) ++ formN (u64n (f.kind.toNat : Int)) ++ formN (u64n f.frm) ++ formN (u64n f.dst)) f.cKey W4 hgw1 ⟨by omega, by omega⟩ ow3 (by omega) hI.ok.key) ?_
  rintro _ W19 ⟨AA10, nn10, cc10, rfl, hgw10, ow17, hle10, ch18⟩
  have lto2 := ow3.lt
  have zz18 := ch18.size
  have hq28 := ow17.nc
  have hq29 := ow17.cm
  have hq30 := ow17.byt.1
  refine eN<|sR<|rP 0 85 (pt W1.heap.size 0)<|rP 1 86 (pt w.heap.size 45)<|rP 2 87 (pt w.heap.size 78)<|rF 3 88 78 (.int .u64 f.cInc) hI.sz (Chg.hp ch18 (qO ch4 (qT ch3 (qT ch2 hb1))) ⟨by omega, (off_blk (fun gz hgz => by have := lto2 gz hgz; omega))⟩) 16<|rP 4 89 (pt w.heap.size 45)<|rP 5 90 (pt w.heap.size 79)<|rF 6 91 79 (.int .u64 f.cCnt) hI.sz (Chg.hp ch18 (qO ch4 (qT ch3 (qT ch2 hb1))) ⟨by omega, (off_blk (fun gz hgz => by have := lto2 gz hgz; omega))⟩) 17<|rX 7 92 rfl rfl (new_ex (.slice (some ⟨W19.heap.size, 0, none⟩) 2 2) #[.int .u64 f.cInc, .int .u64 f.cCnt] 24 (by kernel_rfl)) ?_
  rintro _ W20 ⟨rfl, hb9, ch19, sz8⟩
  have zz19 := ch19.size
  have ow18 := Mur.own8 (own_chg ow17.own ch19 (fun q e _ _ => trivial))
  refine rK 8 93 (Wuint2_any W1.heap.size W3.heap.size AA10 nn10 cc10 (([]) ++ formN (u64n (f.kind.toNat : Int)) ++ formN (u64n f.frm) ++ formN (u64n f.dst) ++ f.cKey) W19.heap.size f.cInc f.cCnt W20 (qT ch19 hgw10) ⟨by omega, by omega⟩ ow18 (by omega) hb9 (by omega) hI.ok.inc hI.ok.cnt) ?_
  rintro _ W21 ⟨AA11, nn11, cc11, rfl, hgw11, ow19, hle11, ch20⟩
  have zz20 := ch20.size
  have hq31 := ow19.nc
  have hq32 := ow19.cm
  have hq33 := ow19.byt.1
  refine eN<|reg<|rP 0 94 (pt W1.heap.size 0)<|rP 1 95 (pt w.heap.size 45)<|rP 2 96 (pt w.heap.size 80)<|rF 3 97 80 (.bool f.cGone) hI.sz (qO ch20 (qT ch19 (Chg.hp ch18 (qO ch4 (qT ch3 (qT ch2 hb1))) ⟨by omega, (off_blk (fun gz hgz => by have := lto2 gz hgz; omega))⟩))) 18<|rK 4 98 (Wflag_any W1.heap.size W20.heap.size AA11 nn11 cc11 (([]) ++ formN (u64n (f.kind.toNat : Int)) ++ formN (u64n f.frm) ++ formN (u64n f.dst) ++ f.cKey ++ formN f.cInc ++ formN f.cCnt) f.cGone W21 hgw11 ⟨by omega, by omega⟩ ow19 (by omega)) ?_
  rintro _ W22 ⟨AA12, nn12, cc12, rfl, hgw12, ow20, hle12, ch21⟩
  have zz21 := ch21.size
  have hq34 := ow20.nc
  have hq35 := ow20.cm
  have hq36 := ow20.byt.1
  refine rE<|inN<|nxt<|sR<|rP 0 137 (pt W1.heap.size 0)<|rP 1 138 (pt W1.heap.size 0)<|rP 2 139 (pt W1.heap.size 0)<|rL 3 140 0 (.slice AA12 nn12 cc12) hgw12<|rP 4 2 (.slice AA12 nn12 cc12)<|eN<|wp_ret<|?_
  have hH_ := ow20
  rw [List.nil_append, Mur.bodyB_3 hm hk_] at hH_
  have hbd_ := body_le hm hI.ok
  have hbl_ := hH_.byt.1
  have kk22 : Chg [] w W1 := zA ch1
  have kk23 := kA kk22 ch2
  have kk24 := kA kk23 ch3
  have kk25 := kB kk24 ch4
  have kk26 := Chg.step kk25 ch18 (newOr_own (.inr (by omega)) (fun gz hgz => by have := lto2 gz hgz; omega))
  have kk27 := kA kk26 ch19
  have kk28 := kB kk27 ch20
  have kk29 := kB kk28 ch21
  refine rt (.slice AA12 nn12 cc12) ?_
  exact ⟨_, _, _, rfl, own8_low hH_ (by omega), by omega, kk29⟩
 refine eF 0 79 (f.kind.toNat : Int) (3 : Int)<|rP 1 78 (.bool false)<|eN<|cF<|sR<|?_
 by_cases hx5 : (f.kind.toNat : Int) = (4 : Int)
 ·refine eT 0 100 (f.kind.toNat : Int) (4 : Int)<|rP 1 99 (.bool true)<|eN<|cT<|reg<|?_
  have hk_ : f.kind = 4 := UInt8.toNat_inj.1 (by have h_ : (4 : UInt8).toNat = 4 := rfl; omega)
  have hmk_ := (Mur.mayFM_4 hH4_ hk_).1 hm
  refine rP 0 101 (pt W1.heap.size 0)<|rP 1 102 (pt w.heap.size 81)<|rq 2 103 (.agg ((Mur.attC f.att.k f.att.r f.att.n f.att.t).toArray)) rfl (lR 81 (Mur.attC f.att.k f.att.r f.att.n f.att.t) (show World.rangeAt _ _ (0 + 81) _ from segs_rng hI.sz (range_row (qO ch4 (qT ch3 (qT ch2 hb1)))) 19 4 Mur.frmL_att rfl) (by rw [Mur.attC_length f.att.hk f.att.hr f.att.ht]; kernel_rfl))<|rK 3 104 (Wattest_any W1.heap.size W3.heap.size AA1 nn1 cc1 (([]) ++ formN (u64n (f.kind.toNat : Int)) ++ formN (u64n f.frm) ++ formN (u64n f.dst)) f.att W4 hgw1 ⟨by omega, by omega⟩ ow3 (by omega) hmk_) ?_
  rintro _ W23 ⟨AA13, nn13, cc13, rfl, hgw13, ow21, hle13, ch22⟩
  have lto3 := ow3.lt
  have zz22 := ch22.size
  have hq37 := ow21.nc
  have hq38 := ow21.cm
  have hq39 := ow21.byt.1
  refine rE<|inN<|nxt<|sR<|rP 0 137 (pt W1.heap.size 0)<|rP 1 138 (pt W1.heap.size 0)<|rP 2 139 (pt W1.heap.size 0)<|rL 3 140 0 (.slice AA13 nn13 cc13) hgw13<|rP 4 2 (.slice AA13 nn13 cc13)<|eN<|wp_ret<|?_
  have hH_ := ow21
  rw [List.nil_append, Mur.bodyB_4 hm hk_] at hH_
  have hbd_ := body_le hm hI.ok
  have hbl_ := hH_.byt.1
  have kk30 : Chg [] w W1 := zA ch1
  have kk31 := kA kk30 ch2
  have kk32 := kA kk31 ch3
  have kk33 := kB kk32 ch4
  have kk34 := Chg.step kk33 ch22 (newOr_own (.inr (by omega)) (fun gz hgz => by have := lto3 gz hgz; omega))
  refine rt (.slice AA13 nn13 cc13) ?_
  exact ⟨_, _, _, rfl, own8_low hH_ (by omega), by omega, kk34⟩
 refine eF 0 100 (f.kind.toNat : Int) (4 : Int)<|rP 1 99 (.bool false)<|eN<|cF<|sR<|?_
 by_cases hx6 : (f.kind.toNat : Int) = (5 : Int)
 ·refine eT 0 106 (f.kind.toNat : Int) (5 : Int)<|rP 1 105 (.bool true)<|eN<|cT<|sR<|?_
  have hk_ : f.kind = 5 := UInt8.toNat_inj.1 (by have h_ : (5 : UInt8).toNat = 5 := rfl; omega)
  have hmk_ := (Mur.mayFM_5 hH4_ hk_).1 hm
  refine rP 0 107 (pt W1.heap.size 0)<|rP 1 108 (pt w.heap.size 178)<|rq 2 109 (.agg ((b8s f.root).toArray)) rfl (lR 178 (b8s f.root) (show World.rangeAt _ _ (0 + 178) _ from segs_row hI.sz (range_row (qO ch4 (qT ch3 (qT ch2 hb1)))) 23 rfl rfl) (by rw [b8s_length, hI.ok.root]; kernel_rfl))<|rK 3 110 (Wdigest_any W1.heap.size W3.heap.size AA1 nn1 cc1 (([]) ++ formN (u64n (f.kind.toNat : Int)) ++ formN (u64n f.frm) ++ formN (u64n f.dst)) f.root W4 hgw1 ⟨by omega, by omega⟩ ow3 (by omega) hI.ok.root) ?_
  rintro _ W24 ⟨AA14, nn14, cc14, rfl, hgw14, ow22, hle14, ch23⟩
  have lto4 := ow3.lt
  have zz23 := ch23.size
  have hq40 := ow22.nc
  have hq41 := ow22.cm
  have hq42 := ow22.byt.1
  refine eN<|reg<|rP 0 111 (pt W1.heap.size 0)<|rP 1 112 (pt w.heap.size 210)<|rF 2 113 210 (.int .i64 f.chunk) hI.sz (Chg.hp ch23 (qO ch4 (qT ch3 (qT ch2 hb1))) ⟨by omega, (off_blk (fun gz hgz => by have := lto4 gz hgz; omega))⟩) 24<|rX 3 114 rfl rfl (new_ex (.slice (some ⟨W24.heap.size, 0, none⟩) 1 1) #[.int .i64 f.chunk] 3 (by kernel_rfl)) ?_
  rintro _ W25 ⟨rfl, hb10, ch24, sz9⟩
  have zz24 := ch24.size
  have ow23 := Mur.own8 (own_chg ow22.own ch24 (fun q e _ _ => trivial))
  refine rK 4 115 (Wint1_any W1.heap.size W3.heap.size AA14 nn14 cc14 (([]) ++ formN (u64n (f.kind.toNat : Int)) ++ formN (u64n f.frm) ++ formN (u64n f.dst) ++ f.root) W24.heap.size f.chunk W25 (qT ch24 hgw14) ⟨by omega, by omega⟩ ow23 (by omega) hb10 (by omega)) ?_
  rintro _ W26 ⟨AA15, nn15, cc15, rfl, hgw15, ow24, hle15, ch25⟩
  have zz25 := ch25.size
  have hq43 := ow24.nc
  have hq44 := ow24.cm
  have hq45 := ow24.byt.1
  refine rE<|inN<|nxt<|sR<|rP 0 137 (pt W1.heap.size 0)<|rP 1 138 (pt W1.heap.size 0)<|rP 2 139 (pt W1.heap.size 0)<|rL 3 140 0 (.slice AA15 nn15 cc15) hgw15<|rP 4 2 (.slice AA15 nn15 cc15)<|eN<|wp_ret<|?_
  have hH_ := ow24
  rw [List.nil_append, Mur.bodyB_5 hm hk_] at hH_
  have hbd_ := body_le hm hI.ok
  have hbl_ := hH_.byt.1
  have kk35 : Chg [] w W1 := zA ch1
  have kk36 := kA kk35 ch2
  have kk37 := kA kk36 ch3
  have kk38 := kB kk37 ch4
  have kk39 := Chg.step kk38 ch23 (newOr_own (.inr (by omega)) (fun gz hgz => by have := lto4 gz hgz; omega))
  have kk40 := kA kk39 ch24
  have kk41 := kB kk40 ch25
  refine rt (.slice AA15 nn15 cc15) ?_
  exact ⟨_, _, _, rfl, own8_low hH_ (by omega), by omega, kk41⟩
 refine eF 0 106 (f.kind.toNat : Int) (5 : Int)<|rP 1 105 (.bool false)<|eN<|cF<|sR<|?_
 by_cases hx7 : (f.kind.toNat : Int) = (6 : Int)
 ·refine eT 0 117 (f.kind.toNat : Int) (6 : Int)<|rP 1 116 (.bool true)<|eN<|cT<|sR<|?_
  have hk_ : f.kind = 6 := UInt8.toNat_inj.1 (by have h_ : (6 : UInt8).toNat = 6 := rfl; omega)
  have hmk_ := (Mur.mayFM_6 hH4_ hk_).1 hm
  have hy6_ := hmk_.2.1
  have hf6_ := hmk_.2.2
  refine rP 0 118 (pt W1.heap.size 0)<|rP 1 119 (pt w.heap.size 178)<|rq 2 120 (.agg ((b8s f.root).toArray)) rfl (lR 178 (b8s f.root) (show World.rangeAt _ _ (0 + 178) _ from segs_row hI.sz (range_row (qO ch4 (qT ch3 (qT ch2 hb1)))) 23 rfl rfl) (by rw [b8s_length, hI.ok.root]; kernel_rfl))<|rK 3 121 (Wdigest_any W1.heap.size W3.heap.size AA1 nn1 cc1 (([]) ++ formN (u64n (f.kind.toNat : Int)) ++ formN (u64n f.frm) ++ formN (u64n f.dst)) f.root W4 hgw1 ⟨by omega, by omega⟩ ow3 (by omega) hI.ok.root) ?_
  rintro _ W27 ⟨AA16, nn16, cc16, rfl, hgw16, ow25, hle16, ch26⟩
  have lto5 := ow3.lt
  have zz26 := ch26.size
  have hq46 := ow25.nc
  have hq47 := ow25.cm
  have hq48 := ow25.byt.1
  refine eN<|sR<|rP 0 122 (pt W1.heap.size 0)<|rP 1 123 (pt w.heap.size 210)<|rF 2 124 210 (.int .i64 f.chunk) hI.sz (Chg.hp ch26 (qO ch4 (qT ch3 (qT ch2 hb1))) ⟨by omega, (off_blk (fun gz hgz => by have := lto5 gz hgz; omega))⟩) 24<|rX 3 125 rfl rfl (new_ex (.slice (some ⟨W27.heap.size, 0, none⟩) 1 1) #[.int .i64 f.chunk] 3 (by kernel_rfl)) ?_
  rintro _ W28 ⟨rfl, hb11, ch27, sz10⟩
  have zz27 := ch27.size
  have ow26 := Mur.own8 (own_chg ow25.own ch27 (fun q e _ _ => trivial))
  refine rK 4 126 (Wint1_any W1.heap.size W3.heap.size AA16 nn16 cc16 (([]) ++ formN (u64n (f.kind.toNat : Int)) ++ formN (u64n f.frm) ++ formN (u64n f.dst) ++ f.root) W27.heap.size f.chunk W28 (qT ch27 hgw16) ⟨by omega, by omega⟩ ow26 (by omega) hb11 (by omega)) ?_
  rintro _ W29 ⟨AA17, nn17, cc17, rfl, hgw17, ow27, hle17, ch28⟩
  have zz28 := ch28.size
  have hq49 := ow27.nc
  have hq50 := ow27.cm
  have hq51 := ow27.byt.1
  refine eN<|sR<|rP 0 127 (pt W1.heap.size 0)<|rP 1 128 (pt w.heap.size 211)<|rF 2 129 211 (.slice z.y.A z.y.n z.y.c) hI.sz (qO ch28 (qT ch27 (Chg.hp ch26 (qO ch4 (qT ch3 (qT ch2 hb1))) ⟨by omega, (off_blk (fun gz hgz => by have := lto5 gz hgz; omega))⟩))) 25 ?_
  have kk42 : Chg [] w W1 := zA ch1
  have kk43 := kA kk42 ch2
  have kk44 := kA kk43 ch3
  have kk45 := kB kk44 ch4
  have kk46 := Chg.step kk45 ch26 (newOr_own (.inr (by omega)) (fun gz hgz => by have := lto5 gz hgz; omega))
  have kk47 := kA kk46 ch27
  have kk48 := kB kk47 ch28
  refine rK 3 130 (Wbytes_any W1.heap.size W28.heap.size AA17 nn17 cc17 (([]) ++ formN (u64n (f.kind.toNat : Int)) ++ formN (u64n f.frm) ++ formN (u64n f.dst) ++ f.root ++ formN (u64n f.chunk)) f.byt z.y.A z.y.n z.y.c W29 hgw17 ⟨by omega, by omega⟩ ow27 (by omega) (byt_chg hL.byt kk48 (fun g off e hl => trivial)) ⟨by omega, by omega⟩ hL.ny.nil (by omega) (fun g2 off e_ hn_ => by have h_ := byt_blt hL.byt e_ hn_; omega)) ?_
  rintro _ W30 ⟨AA18, nn18, cc18, rfl, hgw18, ow28, hle18, ch29⟩
  have zz29 := ch29.size
  have kk49 := kB kk48 ch29
  have hq52 := ow28.nc
  have hq53 := ow28.cm
  have hq54 := ow28.byt.1
  refine eN<|reg<|rP 0 131 (pt W1.heap.size 0)<|rP 1 132 (pt w.heap.size 212)<|rF 2 133 212 (.slice z.f.A z.f.n z.f.c) hI.sz (qO ch29 (qO ch28 (qT ch27 (Chg.hp ch26 (qO ch4 (qT ch3 (qT ch2 hb1))) ⟨by omega, (off_blk (fun gz hgz => by have := lto5 gz hgz; omega))⟩)))) 26<|rP 3 134 (pt W1.heap.size 0)<|rP 4 135 (.func (.func 54) #[pt W1.heap.size 0] #[])<|rK 5 136 (WListD_any W1.heap.size W29.heap.size AA18 nn18 cc18 (([]) ++ formN (u64n (f.kind.toNat : Int)) ++ formN (u64n f.frm) ++ formN (u64n f.dst) ++ f.root ++ formN (u64n f.chunk) ++ (formN f.byt.length ++ f.byt)) f.prf z.f.A z.f.n z.f.c W30 hgw18 ⟨by omega, by omega⟩ ow28 (by omega) (LiesF.chg hL kk49 hLin_).prf hI.ok.prf (by omega) (fun g2 off e_ hn_ => by have h_ := slr_lt hL.prf (by decide) e_ hn_; omega)) ?_
  rintro _ W31 ⟨AA19, nn19, cc19, rfl, hgw19, ow29, hle19, ch30⟩
  have zz30 := ch30.size
  have hq55 := ow29.nc
  have hq56 := ow29.cm
  have hq57 := ow29.byt.1
  refine rE<|inN<|nxt<|sR<|rP 0 137 (pt W1.heap.size 0)<|rP 1 138 (pt W1.heap.size 0)<|rP 2 139 (pt W1.heap.size 0)<|rL 3 140 0 (.slice AA19 nn19 cc19) hgw19<|rP 4 2 (.slice AA19 nn19 cc19)<|eN<|wp_ret<|?_
  have hH_ := ow29
  rw [List.nil_append, Mur.bodyB_6 hm hk_] at hH_
  have hbd_ := body_le hm hI.ok
  have hbl_ := hH_.byt.1
  have kk50 := kB kk49 ch30
  refine rt (.slice AA19 nn19 cc19) ?_
  exact ⟨_, _, _, rfl, own8_low hH_ (by omega), by omega, kk50⟩
 refine eF 0 117 (f.kind.toNat : Int) (6 : Int)<|rP 1 116 (.bool false)<|eN<|cF<|wp_skip<|inN<|nxt<|sR<|rP 0 137 (pt W1.heap.size 0)<|rP 1 138 (pt W1.heap.size 0)<|rP 2 139 (pt W1.heap.size 0)<|rL 3 140 0 (.slice AA1 nn1 cc1) hgw1<|rP 4 2 (.slice AA1 nn1 cc1)<|eN<|wp_ret<|?_
 exfalso; omega
theorem BytesF_any (s : List UInt8) (A : Option Addr) (n c : Nat) (T : List UInt8 → List UInt8) (f : Frm) (z : Zs) (w : World) (hv : ShaVars w) (hb : Byt w A n s) (hnc : n ≤ c ∧ c ≤ 9223372036854775807) (ha : A = none → c = 0) (hn : n ≤ 1000000) (hT : ∀ x, T x = Mur.hmac s (18 :: x)) (hTl : ∀ x, (T x).length = 32) (hL : LiesF w z f) (hI : FrmIn f) : Calls Tryd.prog 8 #[.slice A n c, .agg (frmP f z).flatten.toArray] w fun e w' => ∃ A1 n1 c1 er, e = .returned (.tuple #[.slice A1 n1 c1, .int .i64 ((er : Nat) : Int)]) ∧ ((mayFM f ∧ er = 0 ∧ Own8 w' w.heap.size 5 A1 n1 c1 (bytesFM T f)) ∨ (¬ mayFM f ∧ er = 2 ∧ A1 = none ∧ n1 = 0 ∧ c1 = 0)) ∧ Chg [] w w' := by
 have HV := Go.Lib.hid hv
 clear hv
 have HBY := Go.Lib.hid hb
 clear hb
 have HA := Go.Lib.hid ha
 clear ha
 have hLin_ : z.In fun g => g < w.heap.size → Wk.Off g [] := ⟨fun _ _ _ _ => trivial, fun _ _ _ _ => trivial, fun _ _ _ _ => trivial, fun _ _ _ _ => trivial, fun _ _ _ _ => trivial⟩
 have hLunc_ := hL.nu.nc
 have hLucm_ := hL.nu.cm
 have hLpnc_ := hL.np.nc
 have hLpcm_ := hL.np.cm
 have hLinc_ := hL.ni.nc
 have hLicm_ := hL.ni.cm
 have hLync_ := hL.ny.nc
 have hLycm_ := hL.ny.cm
 have hLfnc_ := hL.nf.nc
 have hLfcm_ := hL.nf.cm
 have hml_ : Go.maxLen = 9223372036854775807 := rfl
 refine calls_of_wp Tryd.func8 rfl ?_
 refine sR<|nW 0 3 ((frmP f z).flatten.toArray) 39 fun W1 hb1 ch1 sz1 => rP 1 4 (.slice none 0 0)<|rP 2 5 (.int .i64 0)<|eN<|wp_seq<|sR<|rq 0 8 (.agg ((frmP f z).flatten.toArray)) rfl (lA hb1 (frmL_size hI.sz)) ?_
 have kk1 : Chg [] w W1 := zA ch1
 refine rK 1 9 (MayF_any f z W1 (LiesF.chg hL kk1 hLin_) hI) ?_
 rintro _ W2 ⟨bv1, rfl, hif1, ch2⟩
 have zz2 := ch2.size
 cases bv1
 ·refine rP 2 10 (.bool true)<|eN<|cT<|sR<|rP 0 4 (.slice none 0 0)<|rP 1 5 (.int .i64 2)<|eN<|tR<|?_
  have kk2 := kA kk1 ch2
  refine rt (.tuple #[.slice none 0 0, .int .i64 2]) ?_
  exact ⟨_, _, _, 2, rfl, .inr ⟨(fun q_ => Bool.noConfusion (hif1.2 q_)), rfl, rfl, rfl, rfl⟩, kk2⟩
 refine rP 2 10 (.bool false)<|eN<|cF<|wp_skip<|nxt<|sR<|rq 0 11 (.agg ((frmP f z).flatten.toArray)) rfl (lA (qT ch2 hb1) (frmL_size hI.sz)) ?_
 have kk3 := kA kk1 ch2
 refine rK 1 12 (Body_any f z W2 (LiesF.chg hL kk3 hLin_) hI (hif1.1 rfl)) ?_
 rintro _ W3 ⟨AA1, nn1, cc1, rfl, ow1, hle1, ch3⟩
 have zz3 := ch3.size
 have hq1 := ow1.nc
 have hq2 := ow1.cm
 have hq3 := ow1.byt.1
 refine rP 2 6 (.slice AA1 nn1 cc1)<|eN<|wp_seq<|sR<|rP 0 13 (pt w.heap.size 0)<|rF 1 14 0 (.int .u8 f.kind.toNat) hI.sz (qT ch3 (qT ch2 hb1)) 0<|rK 2 15 (Tagged_any f.kind W3) ?_
 by_cases hpr1 : f.kind.toNat ≤ 4
 ·rw [decide_eq_true hpr1]
  rintro _ W4 ⟨rfl, ch4⟩
  have zz4 := ch4.size
  refine eN<|cT<|sR<|rP 0 16 (.slice A n c)<|rP 1 17 (.slice AA1 nn1 cc1) ?_
  have kk4 := kA kk3 ch3
  have kk5 := kA kk4 ch4
  have ow2 := Mur.own8 (own_chg ow1.own ch4 (fun q e _ _ => trivial))
  refine rK 2 18 (TagF_any s A n c T (bodyFM f) AA1 nn1 cc1 W4 (HV.out.below (Chg.below0 kk5)) (byt_chg HBY.out kk5 (fun g off e hl => trivial)) ⟨by omega, by omega⟩ HA.out (by omega) hT hTl ow2.byt ⟨by omega, by omega⟩ ow2.nil (by omega)) ?_
  rintro _ W5 ⟨rfl, ch5⟩
  have zz5 := ch5.size
  refine nW 3 7 Z32 29 fun W6 hb2 ch6 sz2 => rU 4 rfl (sC (T (bodyFM f)) (hTl (bodyFM f)) hb2) fun W7 hb3 ch7 zz7 => eN<|reg<|rP 0 19 (.slice AA1 nn1 cc1)<|rq 1 20 (.slice (some ⟨W5.heap.size, 0, none⟩) 32 32) rfl (Mur.arr_slice 29 5 (.tmp 7) 32 rfl Tryd.underlying29 (by kernel_rfl) W5.heap.size (by kernel_rfl)) ?_
  have ow3 := Mur.own8 (own_chg ow2.own ch5 (fun q e _ _ => trivial))
  have ow4 := Mur.own8 (own_chg ow3.own ch6 (fun q e _ _ => trivial))
  have ow5 := Mur.own8 (own_chg ow4.own ch7 (fun q e _ _ => ⟨by have := ow1.lt q e; omega, trivial⟩))
  refine rX 2 21 rfl rfl (Mur.append8 (.tmp 19) (.tmp 20) 22 5 rfl Tryd.underlying22 (by kernel_rfl) W2.heap.size AA1 nn1 cc1 (bodyFM f) (some ⟨W5.heap.size, 0, none⟩) 32 32 (T (bodyFM f)) (by kernel_rfl) (by kernel_rfl) ow5.own (Mur.byt_blk (T (bodyFM f)) (hTl (bodyFM f)) hb3) (fun h => by cases h) (by omega) (by omega) (nn1 + 32) (by omega) ((bodyFM f) ++ (T (bodyFM f))) rfl) ?_
  rintro _ W8 ⟨AA2, nn2, rfl, ow6, ch8, ha1⟩
  have zz8 := ch8.size
  have hq4 := ow6.nc
  have hq5 := ow6.cm
  refine rP 3 6 (.slice AA2 (nn1 + 32) nn2)<|eN<|sR<|rP 0 22 (.slice AA2 (nn1 + 32) nn2)<|rP 1 4 (.slice AA2 (nn1 + 32) nn2)<|rP 2 5 (.int .i64 0)<|eN<|wp_ret<|?_
  have hH_ := ow6
  have hby_ : bytesFM T f = bodyFM f ++ T (bodyFM f) := by unfold bytesFM; rw [if_pos hpr1]
  have kk6 := kA kk5 ch5
  have kk7 := kA kk6 ch6
  have kk8 := kB kk7 ch7
  have kk9 := Chg.step kk8 ch8 (newOr_blk (fun g hg => by have := ow1.lt g hg; omega))
  refine rt (.tuple #[.slice AA2 (nn1 + 32) nn2, .int .i64 0]) ?_
  exact ⟨_, _, _, 0, rfl, .inl ⟨(hif1.1 rfl), rfl, by rw [hby_]; exact own8_low hH_ (by omega)⟩, kk9⟩
 rw [decide_eq_false hpr1]
 rintro _ W10 ⟨rfl, ch9⟩
 have zz9 := ch9.size
 refine eN<|cF<|wp_skip<|nxt<|sR<|rP 0 22 (.slice AA1 nn1 cc1)<|rP 1 4 (.slice AA1 nn1 cc1)<|rP 2 5 (.int .i64 0)<|eN<|wp_ret<|?_
 have ow7 := Mur.own8 (own_chg ow1.own ch9 (fun q e _ _ => trivial))
 have hH_ := ow7
 have hby_ : bytesFM T f = bodyFM f := by unfold bytesFM; rw [if_neg hpr1]; exact List.append_nil _
 have kk10 := kA kk3 ch3
 have kk11 := kA kk10 ch9
 refine rt (.tuple #[.slice AA1 nn1 cc1, .int .i64 0]) ?_
 exact ⟨_, _, _, 0, rfl, .inl ⟨(hif1.1 rfl), rfl, by rw [hby_]; exact own8_low hH_ (by omega)⟩, kk11⟩
end Go.Proofs.YtgbadghjnpbiaaaDoor
namespace Mur
open Go Go.RowKit Wk
theorem msg_eq {m m2 : Msg} : m = m2 ↔ m.kind = m2.kind ∧ m.pre = m2.pre ∧ m.sum = m2.sum ∧ m.cnt = m2.cnt ∧ m.ans = m2.ans ∧ m.items = m2.items := by
  constructor
  · rintro rfl
    exact ⟨rfl, rfl, rfl, rfl, rfl, rfl⟩
  · obtain ⟨a, b, c, d, e, f⟩ := m
    obtain ⟨a2, b2, c2, d2, e2, f2⟩ := m2
    rintro ⟨h1, h2, h3, h4, h5, h6⟩
    simp only at h1 h2 h3 h4 h5 h6
    subst h1 h2 h3 h4 h5 h6
    rfl
theorem frm_eq2 {f g : Frm} (h0 : f.kind = g.kind) (h1 : f.frm = g.frm) (h2 : f.dst = g.dst) (h14 : f.cKey = g.cKey ∧ f.cNode = g.cNode ∧ f.cInc = g.cInc ∧ f.cCnt = g.cCnt ∧ f.cGone = g.cGone) (h15 : f.att = g.att) (h16 : f.root = g.root) (h17 : f.chunk = g.chunk) (h18 : f.byt = g.byt) (h19 : f.prf = g.prf)
    (h3 : f.pTo = g.pTo) (h4 : f.pKind = g.pKind) (h5 : f.pSeq = g.pSeq) (h6 : f.pAbout = g.pAbout) (h7 : f.pUpd = g.pUpd) (h8 : f.gos = g.gos) : f = g := by
  refine frm_eq (by rw [h0]) h1 h2 h3 (by rw [h4]) (by rw [h5]) h6 h7 (by rw [h8]) (by rw [h8]) (by rw [h8]) (by rw [h8]) (by rw [h8]) (by rw [h8]) h14 h15 h16 h17 h18 h19
end Mur
namespace Go.Proofs.YtgbadghjnpbiaaaDoor
open Go.RowKit Wk
theorem msgI : (Tryd.prog.info? 32).map (fun i => (i.zero, i.size, i.bytes)) = some (some (.agg Mur.msgZ.toArray), 37, 104) := by kernel_rfl
end Go.Proofs.YtgbadghjnpbiaaaDoor
namespace Go.Proofs.YtgbadghjnpbiaaaDoor
open Go.RowKit Wk
open Mur (b8s Byt Own8 Seg Segs flat cutA attC Att SlA OwnA rowA msgC attC_length take_sn msgC_size msgC_all msg_kind msg_pre run_str byt_chg b8s_length msg_sum run_neq_dg msg_cnt msg_ans msg_items)
set_option maxRecDepth 100000
set_option maxHeartbeats 4000000
def S20f_F1 (b : Array Value) (u0 : Value) (u1 : Value) (u5 : Value) : Act := ⟨#[u0, u1, gd b 2, gd b 3, gd b 4, u5, gd b 6, gd b 7, gd b 8, gd b 9, gd b 10, gd b 11, gd b 12, gd b 13, gd b 14, gd b 15, gd b 16, gd b 17, gd b 18, gd b 19, gd b 20, gd b 21, gd b 22, gd b 23, gd b 24, gd b 25], []⟩
def S21_J6_1 (b : Array Value) (u0 : Value) (u1 : Value) (u5 : Value) (u6 : Value) (u7 : Value) : Act := ⟨#[u0, u1, gd b 2, gd b 3, gd b 4, u5, u6, u7, gd b 8, gd b 9, gd b 10, gd b 11, gd b 12, gd b 13, gd b 14, gd b 15, gd b 16, gd b 17, gd b 18, gd b 19, gd b 20, gd b 21, gd b 22, gd b 23, gd b 24, gd b 25, gd b 26, gd b 27, gd b 28, gd b 29, gd b 30, gd b 31, gd b 32, gd b 33, gd b 34, gd b 35, gd b 36, gd b 37, gd b 38, gd b 39, gd b 40, gd b 41, gd b 42, gd b 43, gd b 44, gd b 45, gd b 46, gd b 47, gd b 48, gd b 49, gd b 50, gd b 51, gd b 52, gd b 53, gd b 54, gd b 55, gd b 56, gd b 57, gd b 58, gd b 59, gd b 60, gd b 61, gd b 62, gd b 63, gd b 64, gd b 65, gd b 66, gd b 67, gd b 68, gd b 69], []⟩
theorem Same20f_any (A : Option Addr) (n c : Nat) (L : List Att) (B : Option Addr) (m d : Nat) (M : List Att) (w : World) (hA_ : SlA w A n L) (hB_ : SlA w B m M) (hn : n ≤ 9223372036854775807) : Calls Tryd.prog 65 #[.slice A n c, .slice B m d] w fun e w' => e = .returned (.bool (decide (L = M))) ∧ Chg [] w w' := by
 have hLl0 := hA_.len
 have hMl0 := hB_.len
 refine calls_of_wp Tryd.func65 rfl ?_
 refine sR<|rP 0 4 (.bool false)<|eN<|wp_seq<|sR<|rP 0 6 (.slice A n c)<|rP 1 7 (.int .i64 n)<|rP 2 8 (.slice B m d)<|rP 3 9 (.int .i64 m) ?_
 by_cases hx1 : (n : Int) ≠ (m : Int)
 ·refine nT 4 10 (n : Int) (m : Int)<|eN<|cT<|sR<|rP 0 4 (.bool false)<|eN<|tR<|rt (.bool false) ?_
  exact ⟨by rw [decide_eq_false (fun q => by have h1 := congrArg List.length q; omega)], (Chg.refl _)⟩
 refine nF 4 10 (n : Int) (m : Int)<|eN<|cF<|wp_skip<|nxt<|wp_seq<|sR<|rP 0 5 (.int .i64 0)<|eN<|wp_block<|?_
 refine Wk.loop (fun m_ a wr => ∃ (i : Nat), m_ = n - i ∧ a = S20f_F1 a.tmps (.slice A n c) (.slice B m d) (.int .i64 i) ∧ i ≤ n ∧ L.take i = M.take i ∧ Chg [] w wr) (n - 0) ?_ ?_
 ·refine ⟨0, rfl, by kernel_rfl, Nat.zero_le _, by simp, (Chg.refl _)⟩
 rintro mm1 aa1 W1 ⟨i, hmm1, hF1, hi, htk, HB⟩
 generalize aa1.tmps = bb1 at hF1
 subst hF1
 have hzB := HB.size
 have hLl := hA_.len
 have hMl := hB_.len
 by_cases hlt : i < n
 ·obtain ⟨g1, o1, rfl, _⟩ := hA_.ex (by omega)
  obtain ⟨g2, o2, rfl, _⟩ := hB_.ex (by omega)
  obtain ⟨x, hx⟩ : ∃ x, L[i]? = some x := ⟨_, List.getElem?_eq_getElem (by omega)⟩
  obtain ⟨y, hy⟩ : ∃ y, M[i]? = some y := ⟨_, List.getElem?_eq_getElem (by omega)⟩
  refine wp_seq<|sR<|rP 0 11 (.int .i64 i)<|rP 1 12 (.slice (some ⟨g1, o1, none⟩) n c)<|rP 2 13 (.int .i64 n)<|bT 3 14 ((i : Int) < (n : Int))<|eN<|cT<|wp_skip<|nxt<|wp_seq<|wp_block<|wp_seq<|?_
  refine dReg ([]) (by kernel_rfl) ?_
  intro W2 ch1 sz1
  have zz1 := ch1.size
  have sS1 : Chg ([]) W2 W2 := (Chg.refl _).more (by simp)
  refine dW 0 17 (.slice (some ⟨g1, o1, none⟩) n c) sS1<|dW 1 18 (.int .i64 i) sS1 ?_
  refine dV 2 19 (pt g1 (o1 + i * 97)) rfl rfl (fun w' hw' => iS 97 g1 o1 n c i) sS1 ?_
  have kk1 := kA HB ch1
  refine dV 3 20 (.agg ((Mur.attC x.k x.r x.n x.t).toArray)) rfl rfl (fun w' hw' => lR (o1 + i * 97) (Mur.attC x.k x.r x.n x.t) ((Mur.SlA.chg (Mur.SlA.chg hA_ kk1 (fun g off e hl => trivial)) hw' (fun g off e hl => trivial)).elem hx) (by rw [attC_length x.hk x.hr x.ht]; kernel_rfl)) sS1 ?_
  refine dW 4 21 (.slice (some ⟨g2, o2, none⟩) m d) sS1<|dW 5 22 (.int .i64 i) sS1 ?_
  refine dV 6 23 (pt g2 (o2 + i * 97)) rfl rfl (fun w' hw' => iS 97 g2 o2 m d i) sS1 ?_
  refine dV 7 24 (.agg ((Mur.attC y.k y.r y.n y.t).toArray)) rfl rfl (fun w' hw' => lR (o2 + i * 97) (Mur.attC y.k y.r y.n y.t) ((Mur.SlA.chg (Mur.SlA.chg hB_ kk1 (fun g off e hl => trivial)) hw' (fun g off e hl => trivial)).elem hy) (by rw [attC_length y.hk y.hr y.ht]; kernel_rfl)) sS1 ?_
  by_cases hatt1 : x.k = y.k ∧ x.r = y.r ∧ x.n = y.n ∧ x.t = y.t
  ·refine dV 8 25 (.bool false) rfl rfl (fun w' hw' => boolF (b := !decide (x.k = y.k ∧ x.r = y.r ∧ x.n = y.n ∧ x.t = y.t)) ((by rw [decide_eq_true (hatt1)]; rfl)) (run_neq_att (.tmp 20) (.tmp 24) 36 rfl x.hk x.hr x.ht y.hk y.hr y.ht x.hn y.hn (by kernel_rfl) (by kernel_rfl))) sS1 ?_
   refine dN<|cF<|wp_skip<|inN<|nxt<|reg<|?_
   refine rP 0 15 (.int .i64 i)<|rI 1 16 ((i : Int) + 1) (((i + 1 : Nat) : Int))<|rP 2 5 (.int .i64 (i + 1 : Nat))<|eN<|?_
   refine ⟨_, ?_, i + 1, rfl, by kernel_rfl, (by omega), (by rw [take_sn hx, take_sn hy, htk, (Mur.Att.eq_iff x y).2 hatt1]), kk1⟩
   omega
  refine dV 8 25 (.bool true) rfl rfl (fun w' hw' => boolT (b := !decide (x.k = y.k ∧ x.r = y.r ∧ x.n = y.n ∧ x.t = y.t)) ((by rw [decide_eq_false (hatt1)]; rfl)) (run_neq_att (.tmp 20) (.tmp 24) 36 rfl x.hk x.hr x.ht y.hk y.hr y.ht x.hn y.hn (by kernel_rfl) (by kernel_rfl))) sS1 ?_
  refine dN<|cT<|sR<|?_
  refine rP 0 4 (.bool false)<|eN<|tI<|thR<|inR<|thR<|rt (.bool false) ?_
  exact ⟨by rw [decide_eq_false (fun q => hatt1 ((Mur.Att.eq_iff x y).1 (Option.some.inj (by rw [← hx, ← hy, q]))))], kk1⟩
 rw [List.take_of_length_le (show L.length ≤ i by omega), List.take_of_length_le (show M.length ≤ i by omega)] at htk
 refine wp_seq<|sR<|rP 0 11 (.int .i64 i)<|rP 1 12 (.slice A n c)<|rP 2 13 (.int .i64 n)<|bF 3 14 ((i : Int) < (n : Int))<|eN<|cF<|xX<|nxt<|sR<|rP 0 4 (.bool true)<|eN<|wp_ret<|rt (.bool true) ?_
 exact ⟨by rw [decide_eq_true htk], HB⟩
theorem Same21_any (g1 g2 : Nat) (kd : UInt8) (PA : Option Addr) (pn pc : Nat) (s : List UInt8) (m : Int) (A : Option Addr) (n c : Nat) (b : Bool) (p : List UInt8) (I : List Att) (kd2 : UInt8) (PB : Option Addr) (pn2 pc2 : Nat) (s2 : List UInt8) (m2 : Int) (B : Option Addr) (n2 c2 : Nat) (b2 : Bool) (p2 : List UInt8) (I2 : List Att) (w : World) (hs : s.length = 32) (hs2 : s2.length = 32) (hg1 : w.heap[g1]? = some (.cells (Mur.msgC kd PA pn pc s m A n c b).toArray 32 (0, 0))) (hg2 : w.heap[g2]? = some (.cells (Mur.msgC kd2 PB pn2 pc2 s2 m2 B n2 c2 b2).toArray 32 (0, 0))) (hb : Byt w PA pn p) (hb2 : Byt w PB pn2 p2) (hl : SlA w A n I) (hl2 : SlA w B n2 I2) (hn : n ≤ 9223372036854775807) : Calls Tryd.prog 33 #[.slice (some ⟨g1, 0, none⟩) 1 1, .slice (some ⟨g2, 0, none⟩) 1 1] w fun e w' => ∃ v, e = .returned (.bool v) ∧ (v = true ↔ kd = kd2 ∧ p = p2 ∧ s = s2 ∧ m = m2 ∧ b = b2 ∧ I = I2) ∧ Chg [] w w' := by
 have hg1_ := (Array.getElem?_eq_some_iff.1 hg1).1
 have hg2_ := (Array.getElem?_eq_some_iff.1 hg2).1
 refine calls_of_wp Tryd.func33 rfl ?_
 refine sR<|rP 0 4 (.bool false)<|eN<|wp_seq<|sR<|rP 0 8 (.slice (some ⟨g1, 0, none⟩) 1 1)<|rP 1 9 (.int .i64 1)<|rP 2 10 (.slice (some ⟨g2, 0, none⟩) 1 1)<|rP 3 11 (.int .i64 1)<|nF 4 12 (1 : Int) (1 : Int)<|eN<|cF<|wp_skip<|nxt<|wp_seq<|sR<|rP 0 5 (.int .i64 0)<|eN<|wp_block<|?_
 refine Wk.loopN 3 ?_
 refine Wk.rdS<|wp_seq<|sR<|?_
 refine rP 0 13 (.int .i64 0)<|rP 1 14 (.slice (some ⟨g1, 0, none⟩) 1 1)<|rP 2 15 (.int .i64 1)<|bT 3 16 ((0 : Int) < (1 : Int))<|eN<|cT<|wp_skip<|nxt<|wp_seq<|wp_block<|wp_seq<|?_
 refine Wk.cut (fun a wj => ∃ (q6 : Nat) (q7 : Nat), a = S21_J6_1 a.tmps (.slice (some ⟨g1, 0, none⟩) 1 1) (.slice (some ⟨g2, 0, none⟩) 1 1) (.int .i64 0) (pt q6 0) (pt q7 0) ∧ Chg [] w wj ∧ wj.heap[q6]? = some (.cells (Mur.msgC kd PA pn pc s m A n c b).toArray 32 (0, 0)) ∧ wj.heap[q7]? = some (.cells (Mur.msgC kd2 PB pn2 pc2 s2 m2 B n2 c2 b2).toArray 32 (0, 0))) ?_ ?_
 ·refine dReg ([]) (by kernel_rfl) ?_
  intro W1 ch1 sz1
  have zz1 := ch1.size
  have sS1 : Chg ([]) W1 W1 := (Chg.refl _).more (by simp)
  refine dW 0 19 (.slice (some ⟨g1, 0, none⟩) 1 1) sS1<|dW 1 20 (.int .i64 0) sS1 ?_
  refine dV 2 21 (pt g1 0) rfl rfl (fun w' hw' => iS 37 g1 0 1 1 0) sS1 ?_
  have kk1 : Chg [] w W1 := zA ch1
  refine dV 3 22 (.agg ((Mur.msgC kd PA pn pc s m A n c b).toArray)) rfl rfl (fun w' hw' => lA (qT hw' (qT kk1 hg1)) (msgC_size hs)) sS1 ?_
  refine dW 4 23 (.slice (some ⟨g2, 0, none⟩) 1 1) sS1<|dW 5 24 (.int .i64 0) sS1 ?_
  refine dV 6 25 (pt g2 0) rfl rfl (fun w' hw' => iS 37 g2 0 1 1 0) sS1 ?_
  refine dV 7 26 (.agg ((Mur.msgC kd2 PB pn2 pc2 s2 m2 B n2 c2 b2).toArray)) rfl rfl (fun w' hw' => lA (qT hw' (qT kk1 hg2)) (msgC_size hs2)) sS1 ?_
  refine dOp2 8 9 (by kernel_rfl) ?_ ?_
  ·refine oN 6 ZM 32 fun W2 hb1 ch2 sz2 => ?_
   have sS2 := kA sS1 ch2
   refine ⟨sS2, ?_⟩
   refine dOp 9 (by kernel_rfl) ?_
   refine oN 7 ZM 32 fun W3 hb2 ch3 sz3 => ?_
   have sS3 := kA sS2 ch3
   refine ⟨sS3, ?_⟩
   refine dOp 10 (by kernel_rfl) ?_
   refine oU rfl (sB (Mur.msgC kd PA pn pc s m A n c b).toArray (msgC_size hs) msgC_all (qT ch3 hb1) (by kernel_rfl)) fun W4 hb3 ch4 zz4 => ?_
   have sS4 := kB sS3 ch4
   refine ⟨sS4, ?_⟩
   refine dOp 11 (by kernel_rfl) ?_
   refine oU rfl (sB (Mur.msgC kd2 PB pn2 pc2 s2 m2 B n2 c2 b2).toArray (msgC_size hs2) msgC_all (qO ch4 hb2) (by kernel_rfl)) fun W5 hb4 ch5 zz5 => ?_
   have sS5 := kB sS4 ch5
   refine ⟨sS5, ?_⟩
   refine dN<|?_
   exact ⟨W1.heap.size, W2.heap.size, by kernel_rfl, (Chg.step (Chg.step (Chg.step (Chg.step (Chg.step ((Chg.refl _).more (by simp) : Chg [] w w) ch1 trivial) ch2 trivial) ch3 trivial) ch4 ⟨.inr (by omega), trivial⟩) ch5 ⟨.inr (by omega), trivial⟩), (qO ch5 hb3), hb4⟩
  refine oN 7 ZM 32 fun W6 hb5 ch6 sz4 => ?_
  have sS6 := kA sS1 ch6
  refine ⟨sS6, ?_⟩
  refine dOp 8 (by kernel_rfl) ?_
  refine oN 6 ZM 32 fun W7 hb6 ch7 sz5 => ?_
  have sS7 := kA sS6 ch7
  refine ⟨sS7, ?_⟩
  refine dOp 10 (by kernel_rfl) ?_
  refine oU rfl (sB (Mur.msgC kd PA pn pc s m A n c b).toArray (msgC_size hs) msgC_all hb6 (by kernel_rfl)) fun W8 hb7 ch8 zz8 => ?_
  have sS8 := kB sS7 ch8
  refine ⟨sS8, ?_⟩
  refine dOp 11 (by kernel_rfl) ?_
  refine oU rfl (sB (Mur.msgC kd2 PB pn2 pc2 s2 m2 B n2 c2 b2).toArray (msgC_size hs2) msgC_all (qO ch8 (qT ch7 hb5)) (by kernel_rfl)) fun W10 hb8 ch9 zz9 => ?_
  have sS9 := kB sS8 ch9
  refine ⟨sS9, ?_⟩
  refine dN<|?_
  exact ⟨W6.heap.size, W1.heap.size, by kernel_rfl, (Chg.step (Chg.step (Chg.step (Chg.step (Chg.step ((Chg.refl _).more (by simp) : Chg [] w w) ch1 trivial) ch6 trivial) ch7 trivial) ch8 ⟨.inr (by omega), trivial⟩) ch9 ⟨.inr (by omega), trivial⟩), (qO ch9 hb7), hb8⟩
 rintro aa1 W11 ⟨q6, q7, hF1, ch10, hq6, hq7⟩
 have zz10 := ch10.size
 generalize aa1.tmps = bb1 at hF1
 subst hF1
 refine nxt<|sR<|rP 0 27 (pt q6 0)<|rq 1 28 _ rfl (ld 5 27 q6 0 (.int .u8 kd.toNat) (show World.cell? _ ⟨_, 0 + 0, _⟩ = _ from msg_kind (range_row hq6)))<|rP 2 29 (pt q7 0)<|rq 3 30 _ rfl (ld 5 29 q7 0 (.int .u8 kd2.toNat) (show World.cell? _ ⟨_, 0 + 0, _⟩ = _ from msg_kind (range_row hq7))) ?_
 by_cases hx1 : (kd.toNat : Int) ≠ (kd2.toNat : Int)
 ·refine nT 4 31 (kd.toNat : Int) (kd2.toNat : Int)<|rP 5 32 (.bool true)<|rZ 6 33<|rZ 7 34<|rZ 8 35<|rZ 9 36<|rZ 10 37<|rZ 11 38<|rZ 12 39<|rP 13 40 (.bool true)<|rP 14 41 (.bool true)<|rZ 15 42<|rZ 16 43<|rZ 17 44<|rZ 18 45<|rZ 19 46<|rP 20 47 (.bool true)<|rP 21 48 (.bool true)<|rZ 22 49<|rZ 23 50<|rZ 24 51<|rZ 25 52<|rZ 26 53<|rP 27 54 (.bool true)<|rP 28 55 (.bool true)<|rZ 29 56<|rZ 30 57<|rZ 31 58<|rZ 32 59<|rZ 33 60<|rP 34 61 (.bool true)<|rP 35 62 (.bool true)<|rZ 36 63<|rZ 37 64<|rZ 38 65<|rZ 39 66<|rZ 40 67<|rZ 41 68<|rP 42 69 (.bool true)<|eN<|cT<|sR<|rP 0 4 (.bool false)<|eN<|tI<|thR<|inR<|thR<|?_
  have kk2 : Chg [] w W11 := zA ch10
  refine rt (.bool false) ?_
  exact ⟨_, rfl, ⟨fun h_ => (by cases h_), fun ⟨h1_, h2_, h3_, h4_, h5_, h6_⟩ => (by have h_ := congrArg UInt8.toNat h1_; omega)⟩, kk2⟩
 refine nF 4 31 (kd.toNat : Int) (kd2.toNat : Int)<|rP 5 32 (.bool false)<|rP 6 33 (pt q6 1)<|rq 7 34 _ rfl (ld 22 33 q6 1 (.slice PA pn pc) (show World.cell? _ ⟨_, 0 + 1, _⟩ = _ from msg_pre (range_row hq6))) ?_
 have kk3 : Chg [] w W11 := zA ch10
 refine rq 8 35 (.string (Mur.str p)) rfl (run_str 22 9 (.tmp 34) 5 rfl Tryd.underlying22 Tryd.underlying5 Tryd.underlying9 PA pn pc p (by kernel_rfl) (byt_chg hb kk3 (fun g off e hl => trivial)))<|rP 9 36 (pt q7 1)<|rq 10 37 _ rfl (ld 22 36 q7 1 (.slice PB pn2 pc2) (show World.cell? _ ⟨_, 0 + 1, _⟩ = _ from msg_pre (range_row hq7)))<|rq 11 38 (.string (Mur.str p2)) rfl (run_str 22 9 (.tmp 37) 5 rfl Tryd.underlying22 Tryd.underlying5 Tryd.underlying9 PB pn2 pc2 p2 (by kernel_rfl) (byt_chg hb2 kk3 (fun g off e hl => trivial))) ?_
 by_cases hx2 : p ≠ p2
 ·refine rq 12 39 _ rfl (boolT (b := decide (p ≠ p2)) (decide_eq_true (hx2)) (Mur.strne 9 9 (.tmp 35) (.tmp 38) rfl p p2 (by kernel_rfl) (by kernel_rfl)))<|rP 13 40 (.bool true)<|rP 14 41 (.bool true)<|rZ 15 42<|rZ 16 43<|rZ 17 44<|rZ 18 45<|rZ 19 46<|rP 20 47 (.bool true)<|rP 21 48 (.bool true)<|rZ 22 49<|rZ 23 50<|rZ 24 51<|rZ 25 52<|rZ 26 53<|rP 27 54 (.bool true)<|rP 28 55 (.bool true)<|rZ 29 56<|rZ 30 57<|rZ 31 58<|rZ 32 59<|rZ 33 60<|rP 34 61 (.bool true)<|rP 35 62 (.bool true)<|rZ 36 63<|rZ 37 64<|rZ 38 65<|rZ 39 66<|rZ 40 67<|rZ 41 68<|rP 42 69 (.bool true)<|eN<|cT<|sR<|rP 0 4 (.bool false)<|eN<|tI<|thR<|inR<|thR<|rt (.bool false) ?_
  exact ⟨_, rfl, ⟨fun h_ => (by cases h_), fun ⟨h1_, h2_, h3_, h4_, h5_, h6_⟩ => (absurd h2_ (hx2))⟩, kk3⟩
 refine rq 12 39 _ rfl (boolF (b := decide (p ≠ p2)) (decide_eq_false (hx2)) (Mur.strne 9 9 (.tmp 35) (.tmp 38) rfl p p2 (by kernel_rfl) (by kernel_rfl)))<|rP 13 40 (.bool false)<|rP 14 41 (.bool false)<|rP 15 42 (pt q6 2)<|rq 16 43 (.agg ((b8s s).toArray)) rfl (lR 2 (b8s s) (show World.rangeAt _ _ (0 + 2) _ from msg_sum (range_row hq6)) (by rw [b8s_length, hs]; kernel_rfl))<|rP 17 44 (pt q7 2)<|rq 18 45 (.agg ((b8s s2).toArray)) rfl (lR 2 (b8s s2) (show World.rangeAt _ _ (0 + 2) _ from msg_sum (range_row hq7)) (by rw [b8s_length, hs2]; kernel_rfl)) ?_
 by_cases hpr1 : s = s2
 ·refine rq 19 46 _ rfl (boolF (b := !decide (s = s2)) (by rw [decide_eq_true hpr1]; rfl) (run_neq_dg digT s s2 hs hs2 _ (.tmp 43) (.tmp 45) 29 rfl (by kernel_rfl) (by kernel_rfl)))<|rP 20 47 (.bool false)<|rP 21 48 (.bool false)<|rP 22 49 (pt q6 34)<|rq 23 50 _ rfl (ld 3 49 q6 34 (.int .i64 m) (show World.cell? _ ⟨_, 0 + 34, _⟩ = _ from msg_cnt hs (range_row hq6)))<|rP 24 51 (pt q7 34)<|rq 25 52 _ rfl (ld 3 51 q7 34 (.int .i64 m2) (show World.cell? _ ⟨_, 0 + 34, _⟩ = _ from msg_cnt hs2 (range_row hq7))) ?_
  by_cases hx3 : m ≠ m2
  ·refine nT 26 53 m m2<|rP 27 54 (.bool true)<|rP 28 55 (.bool true)<|rZ 29 56<|rZ 30 57<|rZ 31 58<|rZ 32 59<|rZ 33 60<|rP 34 61 (.bool true)<|rP 35 62 (.bool true)<|rZ 36 63<|rZ 37 64<|rZ 38 65<|rZ 39 66<|rZ 40 67<|rZ 41 68<|rP 42 69 (.bool true)<|eN<|cT<|sR<|rP 0 4 (.bool false)<|eN<|tI<|thR<|inR<|thR<|rt (.bool false) ?_
   exact ⟨_, rfl, ⟨fun h_ => (by cases h_), fun ⟨h1_, h2_, h3_, h4_, h5_, h6_⟩ => (by omega)⟩, kk3⟩
  refine nF 26 53 m m2<|rP 27 54 (.bool false)<|rP 28 55 (.bool false)<|rP 29 56 (pt q6 36)<|rq 30 57 _ rfl (ld 4 56 q6 36 (.bool b) (show World.cell? _ ⟨_, 0 + 36, _⟩ = _ from msg_ans hs (range_row hq6)))<|rP 31 58 (pt q7 36)<|rq 32 59 _ rfl (ld 4 58 q7 36 (.bool b2) (show World.cell? _ ⟨_, 0 + 36, _⟩ = _ from msg_ans hs2 (range_row hq7))) ?_
  cases b
  ·cases b2
   ·refine rP 33 60 (.bool false)<|rP 34 61 (.bool false)<|rP 35 62 (.bool false)<|rP 36 63 (pt q6 35)<|rq 37 64 _ rfl (ld 30 63 q6 35 (.slice A n c) (show World.cell? _ ⟨_, 0 + 35, _⟩ = _ from msg_items hs (range_row hq6)))<|rP 38 65 (pt q7 35)<|rq 39 66 _ rfl (ld 30 65 q7 35 (.slice B n2 c2) (show World.cell? _ ⟨_, 0 + 35, _⟩ = _ from msg_items hs2 (range_row hq7)))<|rK 40 67 (Same20f_any A n c I B n2 c2 I2 W11 (Mur.SlA.chg hl kk3 (fun g off e hl => trivial)) (Mur.SlA.chg hl2 kk3 (fun g off e hl => trivial)) (by omega)) ?_
    by_cases hpr2 : I = I2
    ·rw [decide_eq_true hpr2]
     rintro _ W12 ⟨rfl, ch11⟩
     have zz11 := ch11.size
     refine rP 41 68 (.bool false)<|rP 42 69 (.bool false)<|eN<|cF<|wp_skip<|inN<|nxt<|reg<|rP 0 17 (.int .i64 0)<|rI 1 18 (0 + 1) (1)<|rP 2 5 (.int .i64 1)<|eN<|Wk.rdS<|wp_seq<|sR<|rP 0 13 (.int .i64 1)<|rP 1 14 (.slice (some ⟨g1, 0, none⟩) 1 1)<|rP 2 15 (.int .i64 1)<|bF 3 16 ((1 : Int) < (1 : Int))<|eN<|cF<|xX<|nxt<|sR<|rP 0 4 (.bool true)<|eN<|wp_ret<|?_
     have kk4 := kA kk3 ch11
     refine rt (.bool true) ?_
     exact ⟨_, rfl, ⟨fun _ => ⟨UInt8.toNat_inj.1 (by omega), Classical.not_not.1 (hx2), hpr1, by omega, rfl, hpr2⟩, fun _ => rfl⟩, kk4⟩
    rw [decide_eq_false hpr2]
    rintro _ W13 ⟨rfl, ch12⟩
    have zz12 := ch12.size
    refine rP 41 68 (.bool true)<|rP 42 69 (.bool true)<|eN<|cT<|sR<|rP 0 4 (.bool false)<|eN<|tI<|thR<|inR<|thR<|?_
    have kk5 := kA kk3 ch12
    refine rt (.bool false) ?_
    exact ⟨_, rfl, ⟨fun h_ => (by cases h_), fun ⟨h1_, h2_, h3_, h4_, h5_, h6_⟩ => (absurd h6_ hpr2)⟩, kk5⟩
   refine rP 33 60 (.bool true)<|rP 34 61 (.bool true)<|rP 35 62 (.bool true)<|rZ 36 63<|rZ 37 64<|rZ 38 65<|rZ 39 66<|rZ 40 67<|rZ 41 68<|rP 42 69 (.bool true)<|eN<|cT<|sR<|rP 0 4 (.bool false)<|eN<|tI<|thR<|inR<|thR<|rt (.bool false) ?_
   exact ⟨_, rfl, ⟨fun h_ => (by cases h_), fun ⟨h1_, h2_, h3_, h4_, h5_, h6_⟩ => (by cases h5_)⟩, kk3⟩
  cases b2
  ·refine rP 33 60 (.bool true)<|rP 34 61 (.bool true)<|rP 35 62 (.bool true)<|rZ 36 63<|rZ 37 64<|rZ 38 65<|rZ 39 66<|rZ 40 67<|rZ 41 68<|rP 42 69 (.bool true)<|eN<|cT<|sR<|rP 0 4 (.bool false)<|eN<|tI<|thR<|inR<|thR<|rt (.bool false) ?_
   exact ⟨_, rfl, ⟨fun h_ => (by cases h_), fun ⟨h1_, h2_, h3_, h4_, h5_, h6_⟩ => (by cases h5_)⟩, kk3⟩
  refine rP 33 60 (.bool false)<|rP 34 61 (.bool false)<|rP 35 62 (.bool false)<|rP 36 63 (pt q6 35)<|rq 37 64 _ rfl (ld 30 63 q6 35 (.slice A n c) (show World.cell? _ ⟨_, 0 + 35, _⟩ = _ from msg_items hs (range_row hq6)))<|rP 38 65 (pt q7 35)<|rq 39 66 _ rfl (ld 30 65 q7 35 (.slice B n2 c2) (show World.cell? _ ⟨_, 0 + 35, _⟩ = _ from msg_items hs2 (range_row hq7)))<|rK 40 67 (Same20f_any A n c I B n2 c2 I2 W11 (Mur.SlA.chg hl kk3 (fun g off e hl => trivial)) (Mur.SlA.chg hl2 kk3 (fun g off e hl => trivial)) (by omega)) ?_
  by_cases hpr3 : I = I2
  ·rw [decide_eq_true hpr3]
   rintro _ W14 ⟨rfl, ch13⟩
   have zz13 := ch13.size
   refine rP 41 68 (.bool false)<|rP 42 69 (.bool false)<|eN<|cF<|wp_skip<|inN<|nxt<|reg<|rP 0 17 (.int .i64 0)<|rI 1 18 (0 + 1) (1)<|rP 2 5 (.int .i64 1)<|eN<|Wk.rdS<|wp_seq<|sR<|rP 0 13 (.int .i64 1)<|rP 1 14 (.slice (some ⟨g1, 0, none⟩) 1 1)<|rP 2 15 (.int .i64 1)<|bF 3 16 ((1 : Int) < (1 : Int))<|eN<|cF<|xX<|nxt<|sR<|rP 0 4 (.bool true)<|eN<|wp_ret<|?_
   have kk6 := kA kk3 ch13
   refine rt (.bool true) ?_
   exact ⟨_, rfl, ⟨fun _ => ⟨UInt8.toNat_inj.1 (by omega), Classical.not_not.1 (hx2), hpr1, by omega, rfl, hpr3⟩, fun _ => rfl⟩, kk6⟩
  rw [decide_eq_false hpr3]
  rintro _ W15 ⟨rfl, ch14⟩
  have zz14 := ch14.size
  refine rP 41 68 (.bool true)<|rP 42 69 (.bool true)<|eN<|cT<|sR<|rP 0 4 (.bool false)<|eN<|tI<|thR<|inR<|thR<|?_
  have kk7 := kA kk3 ch14
  refine rt (.bool false) ?_
  exact ⟨_, rfl, ⟨fun h_ => (by cases h_), fun ⟨h1_, h2_, h3_, h4_, h5_, h6_⟩ => (absurd h6_ hpr3)⟩, kk7⟩
 refine rq 19 46 _ rfl (boolT (b := !decide (s = s2)) (by rw [decide_eq_false hpr1]; rfl) (run_neq_dg digT s s2 hs hs2 _ (.tmp 43) (.tmp 45) 29 rfl (by kernel_rfl) (by kernel_rfl)))<|rP 20 47 (.bool true)<|rP 21 48 (.bool true)<|rZ 22 49<|rZ 23 50<|rZ 24 51<|rZ 25 52<|rZ 26 53<|rP 27 54 (.bool true)<|rP 28 55 (.bool true)<|rZ 29 56<|rZ 30 57<|rZ 31 58<|rZ 32 59<|rZ 33 60<|rP 34 61 (.bool true)<|rP 35 62 (.bool true)<|rZ 36 63<|rZ 37 64<|rZ 38 65<|rZ 39 66<|rZ 40 67<|rZ 41 68<|rP 42 69 (.bool true)<|eN<|cT<|sR<|rP 0 4 (.bool false)<|eN<|tI<|thR<|inR<|thR<|rt (.bool false) ?_
 exact ⟨_, rfl, ⟨fun h_ => (by cases h_), fun ⟨h1_, h2_, h3_, h4_, h5_, h6_⟩ => (absurd h3_ hpr1)⟩, kk3⟩
end Go.Proofs.YtgbadghjnpbiaaaDoor
namespace Go.Proofs.YtgbadghjnpbiaaaDoor
open Go.RowKit Wk
open Mur (b8s Byt Own8 Seg Segs flat cutA attC Att SlA OwnA rowA msgC Frm Zs LiesF FrmIn frmP segs_cell frmL_sz claimC_length segs_rng attC_length frmL_att b8s_length segs_row run_neq_dg run_str byt_chg map_at take_sn updC msgC_length msg_eq)
set_option maxRecDepth 100000
set_option maxHeartbeats 4000000
def S25_F1 (b : Array Value) (u2 : Value) (u3 : Value) (u5 : Value) : Act := ⟨#[gd b 0, gd b 1, u2, u3, gd b 4, u5, gd b 6, gd b 7, gd b 8, gd b 9, gd b 10, gd b 11, gd b 12, gd b 13, gd b 14, gd b 15, gd b 16, gd b 17, gd b 18, gd b 19, gd b 20, gd b 21, gd b 22, gd b 23, gd b 24, gd b 25, gd b 26, gd b 27, gd b 28, gd b 29, gd b 30, gd b 31, gd b 32, gd b 33, gd b 34, gd b 35, gd b 36, gd b 37, gd b 38, gd b 39, gd b 40, gd b 41, gd b 42, gd b 43, gd b 44, gd b 45, gd b 46, gd b 47, gd b 48, gd b 49, gd b 50, gd b 51, gd b 52, gd b 53, gd b 54, gd b 55, gd b 56, gd b 57, gd b 58, gd b 59, gd b 60, gd b 61, gd b 62, gd b 63, gd b 64, gd b 65, gd b 66, gd b 67, gd b 68, gd b 69, gd b 70, gd b 71, gd b 72, gd b 73, gd b 74, gd b 75, gd b 76, gd b 77, gd b 78, gd b 79, gd b 80, gd b 81, gd b 82, gd b 83, gd b 84, gd b 85, gd b 86, gd b 87, gd b 88, gd b 89, gd b 90, gd b 91, gd b 92, gd b 93, gd b 94, gd b 95, gd b 96, gd b 97, gd b 98, gd b 99, gd b 100, gd b 101, gd b 102, gd b 103, gd b 104, gd b 105, gd b 106, gd b 107, gd b 108, gd b 109, gd b 110, gd b 111, gd b 112, gd b 113, gd b 114, gd b 115, gd b 116, gd b 117, gd b 118, gd b 119, gd b 120, gd b 121, gd b 122, gd b 123, gd b 124, gd b 125, gd b 126, gd b 127, gd b 128, gd b 129, gd b 130, gd b 131, gd b 132, gd b 133, gd b 134, gd b 135, gd b 136, gd b 137, gd b 138, gd b 139, gd b 140, gd b 141, gd b 142, gd b 143, gd b 144, gd b 145, gd b 146, gd b 147, gd b 148, gd b 149, gd b 150, gd b 151, gd b 152, gd b 153, gd b 154, gd b 155], []⟩
def S25_J8_1 (b : Array Value) (u2 : Value) (u3 : Value) (u6 : Value) (u7 : Value) : Act := ⟨#[gd b 0, gd b 1, u2, u3, gd b 4, gd b 5, u6, u7, gd b 8, gd b 9, gd b 10, gd b 11, gd b 12, gd b 13, gd b 14, gd b 15, gd b 16, gd b 17, gd b 18, gd b 19, gd b 20, gd b 21, gd b 22, gd b 23, gd b 24, gd b 25, gd b 26, gd b 27, gd b 28, gd b 29, gd b 30, gd b 31, gd b 32, gd b 33, gd b 34, gd b 35, gd b 36, gd b 37, gd b 38, gd b 39, gd b 40, gd b 41, gd b 42, gd b 43, gd b 44, gd b 45, gd b 46, gd b 47, gd b 48, gd b 49, gd b 50, gd b 51, gd b 52, gd b 53, gd b 54, gd b 55, gd b 56, gd b 57, gd b 58, gd b 59, gd b 60, gd b 61, gd b 62, gd b 63, gd b 64, gd b 65, gd b 66, gd b 67, gd b 68, gd b 69, gd b 70, gd b 71, gd b 72, gd b 73, gd b 74, gd b 75, gd b 76, gd b 77, gd b 78, gd b 79, gd b 80, gd b 81, gd b 82, gd b 83, gd b 84, gd b 85, gd b 86, gd b 87, gd b 88, gd b 89, gd b 90, gd b 91, gd b 92, gd b 93, gd b 94, gd b 95, gd b 96, gd b 97, gd b 98, gd b 99, gd b 100, gd b 101, gd b 102, gd b 103, gd b 104, gd b 105, gd b 106, gd b 107, gd b 108, gd b 109, gd b 110, gd b 111, gd b 112, gd b 113, gd b 114, gd b 115, gd b 116, gd b 117, gd b 118, gd b 119, gd b 120, gd b 121, gd b 122, gd b 123, gd b 124, gd b 125, gd b 126, gd b 127, gd b 128, gd b 129, gd b 130, gd b 131, gd b 132, gd b 133, gd b 134, gd b 135, gd b 136, gd b 137, gd b 138, gd b 139, gd b 140, gd b 141, gd b 142, gd b 143, gd b 144, gd b 145, gd b 146, gd b 147, gd b 148, gd b 149, gd b 150, gd b 151, gd b 152, gd b 153, gd b 154, gd b 155], []⟩
def S25_F2 (b : Array Value) (u2 : Value) (u3 : Value) (u6 : Value) (u7 : Value) (u8 : Value) : Act := ⟨#[gd b 0, gd b 1, u2, u3, gd b 4, gd b 5, u6, u7, u8, gd b 9, gd b 10, gd b 11, gd b 12, gd b 13, gd b 14, gd b 15, gd b 16, gd b 17, gd b 18, gd b 19, gd b 20, gd b 21, gd b 22, gd b 23, gd b 24, gd b 25, gd b 26, gd b 27, gd b 28, gd b 29, gd b 30, gd b 31, gd b 32, gd b 33, gd b 34, gd b 35, gd b 36, gd b 37, gd b 38, gd b 39, gd b 40, gd b 41, gd b 42, gd b 43, gd b 44, gd b 45, gd b 46, gd b 47, gd b 48, gd b 49, gd b 50, gd b 51, gd b 52, gd b 53, gd b 54, gd b 55, gd b 56, gd b 57, gd b 58, gd b 59, gd b 60, gd b 61, gd b 62, gd b 63, gd b 64, gd b 65, gd b 66, gd b 67, gd b 68, gd b 69, gd b 70, gd b 71, gd b 72, gd b 73, gd b 74, gd b 75, gd b 76, gd b 77, gd b 78, gd b 79, gd b 80, gd b 81, gd b 82, gd b 83, gd b 84, gd b 85, gd b 86, gd b 87, gd b 88, gd b 89, gd b 90, gd b 91, gd b 92, gd b 93, gd b 94, gd b 95, gd b 96, gd b 97, gd b 98, gd b 99, gd b 100, gd b 101, gd b 102, gd b 103, gd b 104, gd b 105, gd b 106, gd b 107, gd b 108, gd b 109, gd b 110, gd b 111, gd b 112, gd b 113, gd b 114, gd b 115, gd b 116, gd b 117, gd b 118, gd b 119, gd b 120, gd b 121, gd b 122, gd b 123, gd b 124, gd b 125, gd b 126, gd b 127, gd b 128, gd b 129, gd b 130, gd b 131, gd b 132, gd b 133, gd b 134, gd b 135, gd b 136, gd b 137, gd b 138, gd b 139, gd b 140, gd b 141, gd b 142, gd b 143, gd b 144, gd b 145, gd b 146, gd b 147, gd b 148, gd b 149, gd b 150, gd b 151, gd b 152, gd b 153, gd b 154, gd b 155], []⟩
theorem Same25_any (f : Frm) (z : Zs) (g : Frm) (y : Zs) (w : World) (hL : LiesF w z f) (hI : FrmIn f) (hM : LiesF w y g) (hJ : FrmIn g) : Calls Tryd.prog 15 #[.agg (frmP f z).flatten.toArray, .agg (frmP g y).flatten.toArray] w fun e w' => ∃ v, e = .returned (.bool v) ∧ (v = true ↔ f = g) ∧ Chg [] w w' := by
 have hLin_ : z.In fun g => g < w.heap.size → Wk.Off g [] := ⟨fun _ _ _ _ => trivial, fun _ _ _ _ => trivial, fun _ _ _ _ => trivial, fun _ _ _ _ => trivial, fun _ _ _ _ => trivial⟩
 have hLunc_ := hL.nu.nc
 have hLucm_ := hL.nu.cm
 have hLpnc_ := hL.np.nc
 have hLpcm_ := hL.np.cm
 have hLinc_ := hL.ni.nc
 have hLicm_ := hL.ni.cm
 have hLync_ := hL.ny.nc
 have hLycm_ := hL.ny.cm
 have hLfnc_ := hL.nf.nc
 have hLfcm_ := hL.nf.cm
 have hMin_ : y.In fun g => g < w.heap.size → Wk.Off g [] := ⟨fun _ _ _ _ => trivial, fun _ _ _ _ => trivial, fun _ _ _ _ => trivial, fun _ _ _ _ => trivial, fun _ _ _ _ => trivial⟩
 have hMunc_ := hM.nu.nc
 have hMucm_ := hM.nu.cm
 have hMpnc_ := hM.np.nc
 have hMpcm_ := hM.np.cm
 have hMinc_ := hM.ni.nc
 have hMicm_ := hM.ni.cm
 have hMync_ := hM.ny.nc
 have hMycm_ := hM.ny.cm
 have hMfnc_ := hM.nf.nc
 have hMfcm_ := hM.nf.cm
 have hLul_ := hL.upd.len
 rw [List.length_map] at hLul_
 have hLfl_ := hL.prf.len
 rw [List.length_map] at hLfl_
 have hMul_ := hM.upd.len
 rw [List.length_map] at hMul_
 have hMfl_ := hM.prf.len
 rw [List.length_map] at hMfl_
 refine calls_of_wp Tryd.func15 rfl ?_
 refine sR<|nW 0 2 ((frmP f z).flatten.toArray) 39 fun W1 hb1 ch1 sz1 => nW 1 3 ((frmP g y).flatten.toArray) 39 fun W2 hb2 ch2 sz2 => rP 2 4 (.bool false)<|eN<|wp_seq<|sR<|rP 0 9 (pt w.heap.size 0)<|rF 1 10 0 (.int .u8 f.kind.toNat) hI.sz (qT ch2 hb1) 0<|rP 2 11 (pt W1.heap.size 0)<|rF 3 12 0 (.int .u8 g.kind.toNat) hJ.sz hb2 0 ?_
 by_cases hx1 : (f.kind.toNat : Int) ≠ (g.kind.toNat : Int)
 ·refine nT 4 13 (f.kind.toNat : Int) (g.kind.toNat : Int) ?_
  refine Wk.many 156 60 5 [(13, .bool true)] 73 (.bool true) (by kernel_rfl) (by kernel_rfl) (by kernel_rfl) (by kernel_rfl) ?_
  intro bb1
  refine eN<|cT<|sR<|rP 0 4 (.bool false)<|eN<|tR<|?_
  have kk1 : Chg [] w W1 := zA ch1
  have kk2 := kA kk1 ch2
  refine rt (.bool false) ?_
  exact ⟨_, rfl, ⟨fun h_ => (by cases h_), fun e_ => absurd (congrArg (fun x_ : Frm => (x_.kind.toNat : Int)) e_) (by first | exact hx1 | omega)⟩, kk2⟩
 refine nF 4 13 (f.kind.toNat : Int) (g.kind.toNat : Int)<|rP 5 14 (.bool false)<|rP 6 15 (pt w.heap.size 1)<|rF 7 16 1 (.int .i64 f.frm) hI.sz (qT ch2 hb1) 1<|rP 8 17 (pt W1.heap.size 1)<|rF 9 18 1 (.int .i64 g.frm) hJ.sz hb2 1 ?_
 by_cases hx2 : f.frm ≠ g.frm
 ·refine nT 10 19 f.frm g.frm ?_
  refine Wk.many 156 54 11 [(14, .bool false), (19, .bool true)] 73 (.bool true) (by kernel_rfl) (by kernel_rfl) (by kernel_rfl) (by kernel_rfl) ?_
  intro bb2
  refine eN<|cT<|sR<|rP 0 4 (.bool false)<|eN<|tR<|?_
  have kk3 : Chg [] w W1 := zA ch1
  have kk4 := kA kk3 ch2
  refine rt (.bool false) ?_
  exact ⟨_, rfl, ⟨fun h_ => (by cases h_), fun e_ => absurd (congrArg (fun x_ : Frm => x_.frm) e_) (by first | exact hx2 | omega)⟩, kk4⟩
 refine nF 10 19 f.frm g.frm<|rP 11 20 (.bool false)<|rP 12 21 (.bool false)<|rP 13 22 (pt w.heap.size 2) ?_
 refine Wk.norm 156 [(2, pt w.heap.size 0), (3, pt W1.heap.size 0), (21, .bool false), (22, pt w.heap.size 2)] (by kernel_rfl) (by kernel_rfl) (by kernel_rfl) ?_
 intro bb3
 refine rF 14 23 2 (.int .i64 f.dst) hI.sz (qT ch2 hb1) 2<|rP 15 24 (pt W1.heap.size 2)<|rF 16 25 2 (.int .i64 g.dst) hJ.sz hb2 2 ?_
 by_cases hx3 : f.dst ≠ g.dst
 ·refine nT 17 26 f.dst g.dst ?_
  refine Wk.many 156 47 18 [(21, .bool false), (26, .bool true)] 73 (.bool true) (by kernel_rfl) (by kernel_rfl) (by kernel_rfl) (by kernel_rfl) ?_
  intro bb4
  refine eN<|cT<|sR<|rP 0 4 (.bool false)<|eN<|tR<|?_
  have kk5 : Chg [] w W1 := zA ch1
  have kk6 := kA kk5 ch2
  refine rt (.bool false) ?_
  exact ⟨_, rfl, ⟨fun h_ => (by cases h_), fun e_ => absurd (congrArg (fun x_ : Frm => x_.dst) e_) (by first | exact hx3 | omega)⟩, kk6⟩
 refine nF 17 26 f.dst g.dst<|rP 18 27 (.bool false)<|rP 19 28 (.bool false)<|rP 20 29 (pt w.heap.size 45)<|rq 21 30 (.agg ((Mur.claimC f.cKey f.cNode f.cInc f.cCnt f.cGone).toArray)) rfl (lR 45 (Mur.claimC f.cKey f.cNode f.cInc f.cCnt f.cGone) (show World.rangeAt _ _ (0 + 45) _ from segs_rng hI.sz (range_row (qT ch2 hb1)) 14 5 rfl rfl) (by rw [claimC_length hI.ok.key]; kernel_rfl))<|rP 22 31 (pt W1.heap.size 45)<|rq 23 32 (.agg ((Mur.claimC g.cKey g.cNode g.cInc g.cCnt g.cGone).toArray)) rfl (lR 45 (Mur.claimC g.cKey g.cNode g.cInc g.cCnt g.cGone) (show World.rangeAt _ _ (0 + 45) _ from segs_rng hJ.sz (range_row hb2) 14 5 rfl rfl) (by rw [claimC_length hJ.ok.key]; kernel_rfl)) ?_
 by_cases hpr1 : f.cKey = g.cKey ∧ f.cNode = g.cNode ∧ f.cInc = g.cInc ∧ f.cCnt = g.cCnt ∧ f.cGone = g.cGone
 ·refine rq 24 33 _ rfl (boolF (b := !decide (f.cKey = g.cKey ∧ f.cNode = g.cNode ∧ f.cInc = g.cInc ∧ f.cCnt = g.cCnt ∧ f.cGone = g.cGone)) (by rw [decide_eq_true hpr1]; rfl) (run_neq_claim (.tmp 30) (.tmp 32) 34 rfl hI.ok.key hJ.ok.key (wf64 hI.cNo.1 hI.cNo.2) (wf64 hJ.cNo.1 hJ.cNo.2) hI.ok.inc hJ.ok.inc hI.ok.cnt hJ.ok.cnt (by kernel_rfl) (by kernel_rfl)))<|rP 25 34 (.bool false)<|rP 26 35 (.bool false)<|rP 27 36 (pt w.heap.size 81) ?_
  refine Wk.norm 156 [(2, pt w.heap.size 0), (3, pt W1.heap.size 0), (35, .bool false), (36, pt w.heap.size 81)] (by kernel_rfl) (by kernel_rfl) (by kernel_rfl) ?_
  intro bb5
  refine rq 28 37 (.agg ((Mur.attC f.att.k f.att.r f.att.n f.att.t).toArray)) rfl (lR 81 (Mur.attC f.att.k f.att.r f.att.n f.att.t) (show World.rangeAt _ _ (0 + 81) _ from segs_rng hI.sz (range_row (qT ch2 hb1)) 19 4 frmL_att rfl) (by rw [attC_length f.att.hk f.att.hr f.att.ht]; kernel_rfl))<|rP 29 38 (pt W1.heap.size 81)<|rq 30 39 (.agg ((Mur.attC g.att.k g.att.r g.att.n g.att.t).toArray)) rfl (lR 81 (Mur.attC g.att.k g.att.r g.att.n g.att.t) (show World.rangeAt _ _ (0 + 81) _ from segs_rng hJ.sz (range_row hb2) 19 4 frmL_att rfl) (by rw [attC_length g.att.hk g.att.hr g.att.ht]; kernel_rfl)) ?_
  by_cases hpr2 : f.att = g.att
  ·refine rq 31 40 _ rfl (boolF (b := !decide (f.att.k = g.att.k ∧ f.att.r = g.att.r ∧ f.att.n = g.att.n ∧ f.att.t = g.att.t)) (by rw [decide_eq_true ((Mur.Att.eq_iff f.att g.att).1 hpr2)]; rfl) (run_neq_att (.tmp 37) (.tmp 39) 36 rfl f.att.hk f.att.hr f.att.ht g.att.hk g.att.hr g.att.ht f.att.hn g.att.hn (by kernel_rfl) (by kernel_rfl)))<|rP 32 41 (.bool false)<|rP 33 42 (.bool false)<|rP 34 43 (pt w.heap.size 178)<|rq 35 44 (.agg ((b8s f.root).toArray)) rfl (lR 178 (b8s f.root) (show World.rangeAt _ _ (0 + 178) _ from segs_row hI.sz (range_row (qT ch2 hb1)) 23 rfl rfl) (by rw [b8s_length, hI.ok.root]; kernel_rfl))<|rP 36 45 (pt W1.heap.size 178)<|rq 37 46 (.agg ((b8s g.root).toArray)) rfl (lR 178 (b8s g.root) (show World.rangeAt _ _ (0 + 178) _ from segs_row hJ.sz (range_row hb2) 23 rfl rfl) (by rw [b8s_length, hJ.ok.root]; kernel_rfl)) ?_
   by_cases hpr3 : f.root = g.root
   ·refine rq 38 47 _ rfl (boolF (b := !decide (f.root = g.root)) (by rw [decide_eq_true hpr3]; rfl) (run_neq_dg digT f.root g.root hI.ok.root hJ.ok.root _ (.tmp 44) (.tmp 46) 29 rfl (by kernel_rfl) (by kernel_rfl)))<|rP 39 48 (.bool false)<|rP 40 49 (.bool false)<|rP 41 50 (pt w.heap.size 210) ?_
    refine Wk.norm 156 [(2, pt w.heap.size 0), (3, pt W1.heap.size 0), (49, .bool false), (50, pt w.heap.size 210)] (by kernel_rfl) (by kernel_rfl) (by kernel_rfl) ?_
    intro bb6
    refine rF 42 51 210 (.int .i64 f.chunk) hI.sz (qT ch2 hb1) 24<|rP 43 52 (pt W1.heap.size 210)<|rF 44 53 210 (.int .i64 g.chunk) hJ.sz hb2 24 ?_
    by_cases hx4 : f.chunk ≠ g.chunk
    ·refine nT 45 54 f.chunk g.chunk ?_
     refine Wk.many 156 19 46 [(49, .bool false), (54, .bool true)] 73 (.bool true) (by kernel_rfl) (by kernel_rfl) (by kernel_rfl) (by kernel_rfl) ?_
     intro bb7
     refine eN<|cT<|sR<|rP 0 4 (.bool false)<|eN<|tR<|?_
     have kk7 : Chg [] w W1 := zA ch1
     have kk8 := kA kk7 ch2
     refine rt (.bool false) ?_
     exact ⟨_, rfl, ⟨fun h_ => (by cases h_), fun e_ => absurd (congrArg (fun x_ : Frm => x_.chunk) e_) (by first | exact hx4 | omega)⟩, kk8⟩
    refine nF 45 54 f.chunk g.chunk<|rP 46 55 (.bool false)<|rP 47 56 (.bool false)<|rP 48 57 (pt w.heap.size 211)<|rF 49 58 211 (.slice z.y.A z.y.n z.y.c) hI.sz (qT ch2 hb1) 25 ?_
    have kk9 : Chg [] w W1 := zA ch1
    have kk10 := kA kk9 ch2
    refine rq 50 59 (.string (Mur.str f.byt)) rfl (run_str 22 9 (.tmp 58) 5 rfl Tryd.underlying22 Tryd.underlying5 Tryd.underlying9 z.y.A z.y.n z.y.c f.byt (by kernel_rfl) (byt_chg hL.byt kk10 (fun g off e hl => trivial)))<|rP 51 60 (pt W1.heap.size 211)<|rF 52 61 211 (.slice y.y.A y.y.n y.y.c) hJ.sz hb2 25<|rq 53 62 (.string (Mur.str g.byt)) rfl (run_str 22 9 (.tmp 61) 5 rfl Tryd.underlying22 Tryd.underlying5 Tryd.underlying9 y.y.A y.y.n y.y.c g.byt (by kernel_rfl) (byt_chg hM.byt kk10 (fun g off e hl => trivial))) ?_
    by_cases hx5 : f.byt ≠ g.byt
    ·refine rq 54 63 _ rfl (boolT (b := decide (f.byt ≠ g.byt)) (decide_eq_true (hx5)) (Mur.strne 9 9 (.tmp 59) (.tmp 62) rfl f.byt g.byt (by kernel_rfl) (by kernel_rfl))) ?_
     refine Wk.many 156 10 55 [(56, .bool false), (63, .bool true)] 73 (.bool true) (by kernel_rfl) (by kernel_rfl) (by kernel_rfl) (by kernel_rfl) ?_
     intro bb8
     refine eN<|cT<|sR<|rP 0 4 (.bool false)<|eN<|tR<|rt (.bool false) ?_
     exact ⟨_, rfl, ⟨fun h_ => (by cases h_), fun e_ => absurd (congrArg (fun x_ : Frm => x_.byt) e_) (hx5)⟩, kk10⟩
    refine rq 54 63 _ rfl (boolF (b := decide (f.byt ≠ g.byt)) (decide_eq_false (hx5)) (Mur.strne 9 9 (.tmp 59) (.tmp 62) rfl f.byt g.byt (by kernel_rfl) (by kernel_rfl)))<|rP 55 64 (.bool false) ?_
    refine Wk.norm 156 [(2, pt w.heap.size 0), (3, pt W1.heap.size 0), (64, .bool false)] (by kernel_rfl) (by kernel_rfl) (by kernel_rfl) ?_
    intro bb9
    refine rP 56 65 (.bool false)<|rP 57 66 (pt w.heap.size 212)<|rF 58 67 212 (.slice z.f.A z.f.n z.f.c) hI.sz (qT ch2 hb1) 26<|rP 59 68 (.int .i64 z.f.n)<|rP 60 69 (pt W1.heap.size 212)<|rF 61 70 212 (.slice y.f.A y.f.n y.f.c) hJ.sz hb2 26<|rP 62 71 (.int .i64 y.f.n) ?_
    by_cases hx6 : (z.f.n : Int) ≠ (y.f.n : Int)
    ·refine nT 63 72 (z.f.n : Int) (y.f.n : Int)<|rP 64 73 (.bool true)<|eN<|cT<|sR<|rP 0 4 (.bool false)<|eN<|tR<|rt (.bool false) ?_
     exact ⟨_, rfl, ⟨fun h_ => (by cases h_), fun e_ => by have h1_ : f.prf.length = g.prf.length := congrArg (fun x_ : Frm => x_.prf.length) e_; have h2_ : f.pUpd.length = g.pUpd.length := congrArg (fun x_ : Frm => x_.pUpd.length) e_; omega⟩, kk10⟩
    refine nF 63 72 (z.f.n : Int) (y.f.n : Int)<|rP 64 73 (.bool false)<|eN<|cF<|wp_skip<|nxt<|wp_seq<|sR<|rP 0 5 (.int .i64 0)<|eN<|wp_block<|?_
    have hne_A : z.f.n = y.f.n := by omega
    refine Wk.loop (fun m_ a wr => ∃ (iA : Nat), m_ = z.f.n - iA ∧ a = S25_F1 a.tmps (pt w.heap.size 0) (pt W1.heap.size 0) (.int .i64 iA) ∧ iA ≤ z.f.n ∧ f.prf.take iA = g.prf.take iA ∧ wr.heap[w.heap.size]? = some (.cells (frmP f z).flatten.toArray 39 (0, 0)) ∧ wr.heap[W1.heap.size]? = some (.cells (frmP g y).flatten.toArray 39 (0, 0)) ∧ Chg [] w wr) (z.f.n - 0) ?_ ?_
    ·refine ⟨0, rfl, by kernel_rfl, (by omega), rfl, (qT ch2 hb1), hb2, kk10⟩
    rintro mm1 aa1 W3 ⟨iA, hmm1, hF1, hi_A, htkA, hbxA0, hbxA1, HB⟩
    generalize aa1.tmps = bb10 at hF1
    subst hF1
    have hzB := HB.size
    have hbs0_ := (Array.getElem?_eq_some_iff.1 hbxA0).1
    have hbs1_ := (Array.getElem?_eq_some_iff.1 hbxA1).1
    by_cases hlt : iA < z.f.n
    ·obtain ⟨xa, hxa⟩ : ∃ x_, f.prf[iA]? = some x_ := ⟨_, List.getElem?_eq_getElem (by omega)⟩
     obtain ⟨g1, o1, hAxa_, hr1⟩ := hL.prf.row (map_at b8s hxa) (by decide)
     obtain ⟨xb, hxb⟩ : ∃ x_, g.prf[iA]? = some x_ := ⟨_, List.getElem?_eq_getElem (by omega)⟩
     obtain ⟨g2, o2, hAxb_, hr2⟩ := hM.prf.row (map_at b8s hxb) (by decide)
     refine wp_seq<|sR<|rP 0 74 (.int .i64 iA)<|rP 1 75 (pt w.heap.size 212)<|rF 2 76 212 (.slice z.f.A z.f.n z.f.c) hI.sz hbxA0 26<|rP 3 77 (.int .i64 z.f.n)<|bT 4 78 ((iA : Int) < (z.f.n : Int))<|eN<|cT<|wp_skip<|nxt<|wp_seq<|wp_block<|wp_seq<|?_
     refine dReg ([]) (by kernel_rfl) ?_
     intro W4 ch3 sz3
     have zz3 := ch3.size
     have sS1 : Chg ([]) W4 W4 := (Chg.refl _).more (by simp)
     refine dW 0 81 (pt w.heap.size 212) sS1 ?_
     refine dV 1 82 (.slice z.f.A z.f.n z.f.c) rfl rfl (fun w' hw' => fl 37 81 w.heap.size 212 (.slice z.f.A z.f.n z.f.c) hI.sz (qT hw' (qT ch3 hbxA0)) 26) sS1 ?_
     refine dW 2 83 (.int .i64 iA) sS1 ?_
     refine dV 3 84 (pt g1 (o1 + iA * 32)) rfl rfl (fun w' hw' => index_sl 37 29 (.tmp 82) (.tmp 83) rfl Tryd.underlying37 32 (by kernel_rfl) g1 o1 z.f.n z.f.c iA .i64 (by rw [← hAxa_]; kernel_rfl) (by kernel_rfl) (by omega)) sS1 ?_
     have kk11 := kA HB ch3
     refine dV 4 85 (.agg ((b8s xa).toArray)) rfl rfl (fun w' hw' => lR (o1 + iA * 32) (b8s xa) (Chg.range hw' (Chg.range kk11 hr1 trivial) trivial) (by rw [b8s_length, hI.ok.prf xa (List.mem_of_getElem? hxa)]; kernel_rfl)) sS1 ?_
     refine dW 5 86 (pt W1.heap.size 212) sS1 ?_
     refine dV 6 87 (.slice y.f.A y.f.n y.f.c) rfl rfl (fun w' hw' => fl 37 86 W1.heap.size 212 (.slice y.f.A y.f.n y.f.c) hJ.sz (qT hw' (qT ch3 hbxA1)) 26) sS1 ?_
     refine dW 7 88 (.int .i64 iA) sS1 ?_
     refine dV 8 89 (pt g2 (o2 + iA * 32)) rfl rfl (fun w' hw' => index_sl 37 29 (.tmp 87) (.tmp 88) rfl Tryd.underlying37 32 (by kernel_rfl) g2 o2 y.f.n y.f.c iA .i64 (by rw [← hAxb_]; kernel_rfl) (by kernel_rfl) (by omega)) sS1 ?_
     refine dV 9 90 (.agg ((b8s xb).toArray)) rfl rfl (fun w' hw' => lR (o2 + iA * 32) (b8s xb) (Chg.range hw' (Chg.range kk11 hr2 trivial) trivial) (by rw [b8s_length, hJ.ok.prf xb (List.mem_of_getElem? hxb)]; kernel_rfl)) sS1 ?_
     by_cases hpr4 : xa = xb
     ·refine dV 10 91 (.bool false) rfl rfl (fun w' hw' => boolF (b := !decide (xa = xb)) (by rw [decide_eq_true hpr4]; rfl) (run_neq_dg digT xa xb (hI.ok.prf xa (List.mem_of_getElem? hxa)) (hJ.ok.prf xb (List.mem_of_getElem? hxb)) _ (.tmp 85) (.tmp 90) 29 rfl (by kernel_rfl) (by kernel_rfl))) sS1 ?_
      refine dN<|cF<|wp_skip<|inN<|nxt<|reg<|?_
      refine rP 0 79 (.int .i64 iA)<|rI 1 80 ((iA : Int) + 1) (((iA + 1 : Nat) : Int))<|rP 2 5 (.int .i64 (iA + 1 : Nat))<|eN<|?_
      refine ⟨_, ?_, iA + 1, rfl, by kernel_rfl, (by omega), (by rw [take_sn hxa, take_sn hxb, htkA, hpr4]), (qT ch3 hbxA0), (qT ch3 hbxA1), kk11⟩
      omega
     refine dV 10 91 (.bool true) rfl rfl (fun w' hw' => boolT (b := !decide (xa = xb)) (by rw [decide_eq_false hpr4]; rfl) (run_neq_dg digT xa xb (hI.ok.prf xa (List.mem_of_getElem? hxa)) (hJ.ok.prf xb (List.mem_of_getElem? hxb)) _ (.tmp 85) (.tmp 90) 29 rfl (by kernel_rfl) (by kernel_rfl))) sS1 ?_
     refine dN<|cT<|sR<|?_
     refine rP 0 4 (.bool false)<|eN<|tI<|thR<|inR<|thR<|rt (.bool false) ?_
     exact ⟨_, rfl, ⟨fun h_ => (by cases h_), fun e_ => absurd (Option.some.inj (by rw [← hxa, ← hxb, e_])) hpr4⟩, kk11⟩
    rw [List.take_of_length_le (show f.prf.length ≤ iA by omega), List.take_of_length_le (show g.prf.length ≤ iA by omega)] at htkA
    refine wp_seq<|sR<|rP 0 74 (.int .i64 iA)<|rP 1 75 (pt w.heap.size 212)<|rF 2 76 212 (.slice z.f.A z.f.n z.f.c) hI.sz hbxA0 26<|rP 3 77 (.int .i64 z.f.n)<|bF 4 78 ((iA : Int) < (z.f.n : Int))<|eN<|cF<|xX<|nxt<|wp_seq<|?_
    refine Wk.cut (fun a wj => ∃ (q6 : Nat) (q7 : Nat), a = S25_J8_1 a.tmps (pt w.heap.size 0) (pt W1.heap.size 0) (pt q6 0) (pt q7 0) ∧ Chg [] W3 wj ∧ wj.heap[q6]? = some (.cells #[.int .i64 f.pTo, .int .u8 f.pKind.toNat, .int .u64 f.pSeq, .int .i64 f.pAbout, .slice z.u.A z.u.n z.u.c] 27 (0, 0)) ∧ wj.heap[q7]? = some (.cells #[.int .i64 g.pTo, .int .u8 g.pKind.toNat, .int .u64 g.pSeq, .int .i64 g.pAbout, .slice y.u.A y.u.n y.u.c] 27 (0, 0))) ?_ ?_
    ·refine dReg ([]) (by kernel_rfl) ?_
     intro W5 ch4 sz4
     have zz4 := ch4.size
     have sS2 : Chg ([]) W5 W5 := (Chg.refl _).more (by simp)
     refine dW 0 92 (pt w.heap.size 3) sS2 ?_
     refine dV 1 93 (.agg #[.int .i64 f.pTo, .int .u8 f.pKind.toNat, .int .u64 f.pSeq, .int .i64 f.pAbout, .slice z.u.A z.u.n z.u.c]) rfl rfl (fun w' hw' => lR 3 [.int .i64 f.pTo, .int .u8 f.pKind.toNat, .int .u64 f.pSeq, .int .i64 f.pAbout, .slice z.u.A z.u.n z.u.c] (show World.rangeAt _ _ (0 + 3) _ from segs_rng hI.sz (range_row (qT hw' (qT ch4 hbxA0))) 3 5 rfl rfl)) sS2 ?_
     refine dW 2 94 (pt W1.heap.size 3) sS2 ?_
     refine dV 3 95 (.agg #[.int .i64 g.pTo, .int .u8 g.pKind.toNat, .int .u64 g.pSeq, .int .i64 g.pAbout, .slice y.u.A y.u.n y.u.c]) rfl rfl (fun w' hw' => lR 3 [.int .i64 g.pTo, .int .u8 g.pKind.toNat, .int .u64 g.pSeq, .int .i64 g.pAbout, .slice y.u.A y.u.n y.u.c] (show World.rangeAt _ _ (0 + 3) _ from segs_rng hJ.sz (range_row (qT hw' (qT ch4 hbxA1))) 3 5 rfl rfl)) sS2 ?_
     refine dOp2 4 5 (by kernel_rfl) ?_ ?_
     ·refine oN 6 #[.int .i64 0, .int .u8 0, .int .u64 0, .int .i64 0, .slice none 0 0] 27 fun W6 hb3 ch5 sz5 => ?_
      have sS3 := kA sS2 ch5
      refine ⟨sS3, ?_⟩
      refine dOp 5 (by kernel_rfl) ?_
      refine oN 7 #[.int .i64 0, .int .u8 0, .int .u64 0, .int .i64 0, .slice none 0 0] 27 fun W7 hb4 ch6 sz6 => ?_
      have sS4 := kA sS3 ch6
      refine ⟨sS4, ?_⟩
      refine dOp 6 (by kernel_rfl) ?_
      refine oU rfl (Wk.storeR 27 (.tmp 6) (.tmp 93) rfl W5.heap.size 0 (by kernel_rfl) ([.int .i64 f.pTo, .int .u8 f.pKind.toNat, .int .u64 f.pSeq, .int .i64 f.pAbout, .slice z.u.A z.u.n z.u.c]) (by kernel_rfl) (by kernel_rfl) (by intro v hv; simp at hv; rcases hv with h | h | h | h | h <;> (subst h; rfl)) 27 ([.int .i64 0, .int .u8 0, .int .u64 0, .int .i64 0, .slice none 0 0]) (qT ch6 hb3) (by simp)) fun W8 hb5 ch7 _ => ?_
      replace hb5 : W8.heap[W5.heap.size]? = some (.cells #[.int .i64 f.pTo, .int .u8 f.pKind.toNat, .int .u64 f.pSeq, .int .i64 f.pAbout, .slice z.u.A z.u.n z.u.c] 27 (0, 0)) := hb5
      have zz7 := ch7.size
      have sS5 := kB sS4 ch7
      refine ⟨sS5, ?_⟩
      refine dOp 7 (by kernel_rfl) ?_
      refine oU rfl (Wk.storeR 27 (.tmp 7) (.tmp 95) rfl W6.heap.size 0 (by kernel_rfl) ([.int .i64 g.pTo, .int .u8 g.pKind.toNat, .int .u64 g.pSeq, .int .i64 g.pAbout, .slice y.u.A y.u.n y.u.c]) (by kernel_rfl) (by kernel_rfl) (by intro v hv; simp at hv; rcases hv with h | h | h | h | h <;> (subst h; rfl)) 27 ([.int .i64 0, .int .u8 0, .int .u64 0, .int .i64 0, .slice none 0 0]) (qO ch7 hb4) (by simp)) fun W10 hb6 ch8 _ => ?_
      replace hb6 : W10.heap[W6.heap.size]? = some (.cells #[.int .i64 g.pTo, .int .u8 g.pKind.toNat, .int .u64 g.pSeq, .int .i64 g.pAbout, .slice y.u.A y.u.n y.u.c] 27 (0, 0)) := hb6
      have zz8 := ch8.size
      have sS6 := kB sS5 ch8
      refine ⟨sS6, ?_⟩
      refine dN<|?_
      exact ⟨W5.heap.size, W6.heap.size, by kernel_rfl, (Chg.step (Chg.step (Chg.step (Chg.step (Chg.step ((Chg.refl _).more (by simp) : Chg [] W3 W3) ch4 trivial) ch5 trivial) ch6 trivial) ch7 ⟨.inr (by omega), trivial⟩) ch8 ⟨.inr (by omega), trivial⟩), (qO ch8 hb5), hb6⟩
     refine oN 7 #[.int .i64 0, .int .u8 0, .int .u64 0, .int .i64 0, .slice none 0 0] 27 fun W11 hb7 ch9 sz7 => ?_
     have sS7 := kA sS2 ch9
     refine ⟨sS7, ?_⟩
     refine dOp 4 (by kernel_rfl) ?_
     refine oN 6 #[.int .i64 0, .int .u8 0, .int .u64 0, .int .i64 0, .slice none 0 0] 27 fun W12 hb8 ch10 sz8 => ?_
     have sS8 := kA sS7 ch10
     refine ⟨sS8, ?_⟩
     refine dOp 6 (by kernel_rfl) ?_
     refine oU rfl (Wk.storeR 27 (.tmp 6) (.tmp 93) rfl W11.heap.size 0 (by kernel_rfl) ([.int .i64 f.pTo, .int .u8 f.pKind.toNat, .int .u64 f.pSeq, .int .i64 f.pAbout, .slice z.u.A z.u.n z.u.c]) (by kernel_rfl) (by kernel_rfl) (by intro v hv; simp at hv; rcases hv with h | h | h | h | h <;> (subst h; rfl)) 27 ([.int .i64 0, .int .u8 0, .int .u64 0, .int .i64 0, .slice none 0 0]) hb8 (by simp)) fun W13 hb9 ch11 _ => ?_
     replace hb9 : W13.heap[W11.heap.size]? = some (.cells #[.int .i64 f.pTo, .int .u8 f.pKind.toNat, .int .u64 f.pSeq, .int .i64 f.pAbout, .slice z.u.A z.u.n z.u.c] 27 (0, 0)) := hb9
     have zz11 := ch11.size
     have sS9 := kB sS8 ch11
     refine ⟨sS9, ?_⟩
     refine dOp 7 (by kernel_rfl) ?_
     refine oU rfl (Wk.storeR 27 (.tmp 7) (.tmp 95) rfl W5.heap.size 0 (by kernel_rfl) ([.int .i64 g.pTo, .int .u8 g.pKind.toNat, .int .u64 g.pSeq, .int .i64 g.pAbout, .slice y.u.A y.u.n y.u.c]) (by kernel_rfl) (by kernel_rfl) (by intro v hv; simp at hv; rcases hv with h | h | h | h | h <;> (subst h; rfl)) 27 ([.int .i64 0, .int .u8 0, .int .u64 0, .int .i64 0, .slice none 0 0]) (qO ch11 (qT ch10 hb7)) (by simp)) fun W14 hb10 ch12 _ => ?_
     replace hb10 : W14.heap[W5.heap.size]? = some (.cells #[.int .i64 g.pTo, .int .u8 g.pKind.toNat, .int .u64 g.pSeq, .int .i64 g.pAbout, .slice y.u.A y.u.n y.u.c] 27 (0, 0)) := hb10
     have zz12 := ch12.size
     have sS10 := kB sS9 ch12
     refine ⟨sS10, ?_⟩
     refine dN<|?_
     exact ⟨W11.heap.size, W5.heap.size, by kernel_rfl, (Chg.step (Chg.step (Chg.step (Chg.step (Chg.step ((Chg.refl _).more (by simp) : Chg [] W3 W3) ch4 trivial) ch9 trivial) ch10 trivial) ch11 ⟨.inr (by omega), trivial⟩) ch12 ⟨.inr (by omega), trivial⟩), (qO ch12 hb9), hb10⟩
    rintro aa2 W15 ⟨q6, q7, hF2, ch13, hq6, hq7⟩
    have zz13 := ch13.size
    generalize aa2.tmps = bb11 at hF2
    subst hF2
    refine nxt<|wp_seq<|sR<|rP 0 96 (pt q6 0)<|rL 1 97 0 (.int .i64 f.pTo) hq6<|rP 2 98 (pt q7 0)<|rL 3 99 0 (.int .i64 g.pTo) hq7 ?_
    by_cases hx7 : f.pTo ≠ g.pTo
    ·refine nT 4 100 f.pTo g.pTo ?_
     refine Wk.many 156 30 5 [(100, .bool true)] 130 (.bool true) (by kernel_rfl) (by kernel_rfl) (by kernel_rfl) (by kernel_rfl) ?_
     intro bb12
     refine eN<|cT<|sR<|rP 0 4 (.bool false)<|eN<|tR<|?_
     have kk12 := kA HB ch13
     refine rt (.bool false) ?_
     exact ⟨_, rfl, ⟨fun h_ => (by cases h_), fun e_ => absurd (congrArg (fun x_ : Frm => x_.pTo) e_) (by first | exact hx7 | omega)⟩, kk12⟩
    refine nF 4 100 f.pTo g.pTo<|rP 5 101 (.bool false)<|rP 6 102 (pt q6 1)<|rL 7 103 1 (.int .u8 f.pKind.toNat) hq6<|rP 8 104 (pt q7 1)<|rL 9 105 1 (.int .u8 g.pKind.toNat) hq7 ?_
    by_cases hx8 : (f.pKind.toNat : Int) ≠ (g.pKind.toNat : Int)
    ·refine nT 10 106 (f.pKind.toNat : Int) (g.pKind.toNat : Int) ?_
     refine Wk.many 156 24 11 [(101, .bool false), (106, .bool true)] 130 (.bool true) (by kernel_rfl) (by kernel_rfl) (by kernel_rfl) (by kernel_rfl) ?_
     intro bb13
     refine eN<|cT<|sR<|rP 0 4 (.bool false)<|eN<|tR<|?_
     have kk13 := kA HB ch13
     refine rt (.bool false) ?_
     exact ⟨_, rfl, ⟨fun h_ => (by cases h_), fun e_ => absurd (congrArg (fun x_ : Frm => (x_.pKind.toNat : Int)) e_) (by first | exact hx8 | omega)⟩, kk13⟩
    refine nF 10 106 (f.pKind.toNat : Int) (g.pKind.toNat : Int)<|rP 11 107 (.bool false)<|rP 12 108 (.bool false)<|rP 13 109 (pt q6 2) ?_
    refine Wk.norm 156 [(2, pt w.heap.size 0), (3, pt W1.heap.size 0), (6, pt q6 0), (7, pt q7 0), (108, .bool false), (109, pt q6 2)] (by kernel_rfl) (by kernel_rfl) (by kernel_rfl) ?_
    intro bb14
    refine rL 14 110 2 (.int .u64 f.pSeq) hq6<|rP 15 111 (pt q7 2)<|rL 16 112 2 (.int .u64 g.pSeq) hq7 ?_
    by_cases hx9 : (f.pSeq : Int) ≠ (g.pSeq : Int)
    ·refine nT 17 113 (f.pSeq : Int) (g.pSeq : Int) ?_
     refine Wk.many 156 17 18 [(108, .bool false), (113, .bool true)] 130 (.bool true) (by kernel_rfl) (by kernel_rfl) (by kernel_rfl) (by kernel_rfl) ?_
     intro bb15
     refine eN<|cT<|sR<|rP 0 4 (.bool false)<|eN<|tR<|?_
     have kk14 := kA HB ch13
     refine rt (.bool false) ?_
     exact ⟨_, rfl, ⟨fun h_ => (by cases h_), fun e_ => absurd (congrArg (fun x_ : Frm => (x_.pSeq : Int)) e_) (by first | exact hx9 | omega)⟩, kk14⟩
    refine nF 17 113 (f.pSeq : Int) (g.pSeq : Int)<|rP 18 114 (.bool false)<|rP 19 115 (.bool false)<|rP 20 116 (pt q6 3)<|rL 21 117 3 (.int .i64 f.pAbout) hq6<|rP 22 118 (pt q7 3)<|rL 23 119 3 (.int .i64 g.pAbout) hq7 ?_
    by_cases hx10 : f.pAbout ≠ g.pAbout
    ·refine nT 24 120 f.pAbout g.pAbout ?_
     refine Wk.many 156 10 25 [(115, .bool false), (120, .bool true)] 130 (.bool true) (by kernel_rfl) (by kernel_rfl) (by kernel_rfl) (by kernel_rfl) ?_
     intro bb16
     refine eN<|cT<|sR<|rP 0 4 (.bool false)<|eN<|tR<|?_
     have kk15 := kA HB ch13
     refine rt (.bool false) ?_
     exact ⟨_, rfl, ⟨fun h_ => (by cases h_), fun e_ => absurd (congrArg (fun x_ : Frm => x_.pAbout) e_) (by first | exact hx10 | omega)⟩, kk15⟩
    refine nF 24 120 f.pAbout g.pAbout<|rP 25 121 (.bool false)<|rP 26 122 (.bool false)<|rP 27 123 (pt q6 4) ?_
    refine Wk.norm 156 [(2, pt w.heap.size 0), (3, pt W1.heap.size 0), (6, pt q6 0), (7, pt q7 0), (122, .bool false), (123, pt q6 4)] (by kernel_rfl) (by kernel_rfl) (by kernel_rfl) ?_
    intro bb17
    refine rL 28 124 4 (.slice z.u.A z.u.n z.u.c) hq6<|rP 29 125 (.int .i64 z.u.n)<|rP 30 126 (pt q7 4)<|rL 31 127 4 (.slice y.u.A y.u.n y.u.c) hq7<|rP 32 128 (.int .i64 y.u.n) ?_
    by_cases hx11 : (z.u.n : Int) ≠ (y.u.n : Int)
    ·refine nT 33 129 (z.u.n : Int) (y.u.n : Int)<|rP 34 130 (.bool true)<|eN<|cT<|sR<|rP 0 4 (.bool false)<|eN<|tR<|?_
     have kk16 := kA HB ch13
     refine rt (.bool false) ?_
     exact ⟨_, rfl, ⟨fun h_ => (by cases h_), fun e_ => by have h1_ : f.prf.length = g.prf.length := congrArg (fun x_ : Frm => x_.prf.length) e_; have h2_ : f.pUpd.length = g.pUpd.length := congrArg (fun x_ : Frm => x_.pUpd.length) e_; omega⟩, kk16⟩
    refine nF 33 129 (z.u.n : Int) (y.u.n : Int)<|rP 34 130 (.bool false)<|eN<|cF<|wp_skip<|nxt<|wp_seq<|sR<|rP 0 8 (.int .i64 0)<|eN<|wp_block<|?_
    have hne_B : z.u.n = y.u.n := by omega
    refine Wk.loop (fun m_ a wr => ∃ (iB : Nat), m_ = z.u.n - iB ∧ a = S25_F2 a.tmps (pt w.heap.size 0) (pt W1.heap.size 0) (pt q6 0) (pt q7 0) (.int .i64 iB) ∧ iB ≤ z.u.n ∧ f.pUpd.take iB = g.pUpd.take iB ∧ wr.heap[w.heap.size]? = some (.cells (frmP f z).flatten.toArray 39 (0, 0)) ∧ wr.heap[W1.heap.size]? = some (.cells (frmP g y).flatten.toArray 39 (0, 0)) ∧ wr.heap[q6]? = some (.cells #[.int .i64 f.pTo, .int .u8 f.pKind.toNat, .int .u64 f.pSeq, .int .i64 f.pAbout, .slice z.u.A z.u.n z.u.c] 27 (0, 0)) ∧ wr.heap[q7]? = some (.cells #[.int .i64 g.pTo, .int .u8 g.pKind.toNat, .int .u64 g.pSeq, .int .i64 g.pAbout, .slice y.u.A y.u.n y.u.c] 27 (0, 0)) ∧ Chg [] w wr) (z.u.n - 0) ?_ ?_
    ·have kk17 := kA HB ch13
     refine ⟨0, rfl, by kernel_rfl, (by omega), rfl, (qT ch13 hbxA0), (qT ch13 hbxA1), hq6, hq7, kk17⟩
    rintro mm2 aa3 W16 ⟨iB, hmm2, hF3, hi_B, htkB, hbxB0, hbxB1, hbxB2, hbxB3, HB⟩
    generalize aa3.tmps = bb18 at hF3
    subst hF3
    have hzB := HB.size
    have hbs0_ := (Array.getElem?_eq_some_iff.1 hbxB0).1
    have hbs1_ := (Array.getElem?_eq_some_iff.1 hbxB1).1
    have hbs2_ := (Array.getElem?_eq_some_iff.1 hbxB2).1
    have hbs3_ := (Array.getElem?_eq_some_iff.1 hbxB3).1
    by_cases hlt : iB < z.u.n
    ·obtain ⟨xa, hxa⟩ : ∃ x_, f.pUpd[iB]? = some x_ := ⟨_, List.getElem?_eq_getElem (by omega)⟩
     obtain ⟨g1, o1, hAxa_, hr1⟩ := hL.upd.row (map_at updC hxa) (by decide)
     obtain ⟨xb, hxb⟩ : ∃ x_, g.pUpd[iB]? = some x_ := ⟨_, List.getElem?_eq_getElem (by omega)⟩
     obtain ⟨g2, o2, hAxb_, hr2⟩ := hM.upd.row (map_at updC hxb) (by decide)
     refine wp_seq<|sR<|rP 0 131 (.int .i64 iB)<|rP 1 132 (pt q6 4)<|rL 2 133 4 (.slice z.u.A z.u.n z.u.c) hbxB2<|rP 3 134 (.int .i64 z.u.n)<|bT 4 135 ((iB : Int) < (z.u.n : Int))<|eN<|cT<|wp_skip<|nxt<|wp_seq<|wp_block<|wp_seq<|?_
     refine dReg ([]) (by kernel_rfl) ?_
     intro W17 ch14 sz9
     have zz14 := ch14.size
     have sS11 : Chg ([]) W17 W17 := (Chg.refl _).more (by simp)
     refine dW 0 138 (pt q6 4) sS11 ?_
     refine dV 1 139 (.slice z.u.A z.u.n z.u.c) rfl rfl (fun w' hw' => ld 25 138 q6 4 (.slice z.u.A z.u.n z.u.c) ((cell_of_row _ _ 4 _ _ _ (qT hw' (qT ch14 hbxB2))).trans rfl)) sS11 ?_
     refine dW 2 140 (.int .i64 iB) sS11 ?_
     refine dV 3 141 (pt g1 (o1 + iB * 3)) rfl rfl (fun w' hw' => index_sl 25 66 (.tmp 139) (.tmp 140) rfl Tryd.underlying25 3 (by kernel_rfl) g1 o1 z.u.n z.u.c iB .i64 (by rw [← hAxa_]; kernel_rfl) (by kernel_rfl) (by omega)) sS11 ?_
     have kk18 := kA HB ch14
     refine dV 4 142 (.agg ((updC xa).toArray)) rfl rfl (fun w' hw' => lR (o1 + iB * 3) (updC xa) (Chg.range hw' (Chg.range kk18 hr1 trivial) trivial)) sS11 ?_
     refine dW 5 143 (pt q7 4) sS11 ?_
     refine dV 6 144 (.slice y.u.A y.u.n y.u.c) rfl rfl (fun w' hw' => ld 25 143 q7 4 (.slice y.u.A y.u.n y.u.c) ((cell_of_row _ _ 4 _ _ _ (qT hw' (qT ch14 hbxB3))).trans rfl)) sS11 ?_
     refine dW 7 145 (.int .i64 iB) sS11 ?_
     refine dV 8 146 (pt g2 (o2 + iB * 3)) rfl rfl (fun w' hw' => index_sl 25 66 (.tmp 144) (.tmp 145) rfl Tryd.underlying25 3 (by kernel_rfl) g2 o2 y.u.n y.u.c iB .i64 (by rw [← hAxb_]; kernel_rfl) (by kernel_rfl) (by omega)) sS11 ?_
     refine dV 9 147 (.agg ((updC xb).toArray)) rfl rfl (fun w' hw' => lR (o2 + iB * 3) (updC xb) (Chg.range hw' (Chg.range kk18 hr2 trivial) trivial)) sS11 ?_
     by_cases hpr5 : xa = xb
     ·refine dV 10 148 (.bool false) rfl rfl (fun w' hw' => boolF (b := !decide (xa = xb)) (by rw [decide_eq_true hpr5]; rfl) (run_neq_upd (.tmp 142) (.tmp 147) 66 rfl (wf64 (hI.upd xa (List.mem_of_getElem? hxa)).1 (hI.upd xa (List.mem_of_getElem? hxa)).2) (wf64 (hJ.upd xb (List.mem_of_getElem? hxb)).1 (hJ.upd xb (List.mem_of_getElem? hxb)).2) (hI.ok.upd xa (List.mem_of_getElem? hxa)) (hJ.ok.upd xb (List.mem_of_getElem? hxb)) (by kernel_rfl) (by kernel_rfl))) sS11 ?_
      refine dN<|cF<|wp_skip<|inN<|nxt<|reg<|?_
      refine rP 0 136 (.int .i64 iB)<|rI 1 137 ((iB : Int) + 1) (((iB + 1 : Nat) : Int))<|rP 2 8 (.int .i64 (iB + 1 : Nat))<|eN<|?_
      refine ⟨_, ?_, iB + 1, rfl, by kernel_rfl, (by omega), (by rw [take_sn hxa, take_sn hxb, htkB, hpr5]), (qT ch14 hbxB0), (qT ch14 hbxB1), (qT ch14 hbxB2), (qT ch14 hbxB3), kk18⟩
      omega
     refine dV 10 148 (.bool true) rfl rfl (fun w' hw' => boolT (b := !decide (xa = xb)) (by rw [decide_eq_false hpr5]; rfl) (run_neq_upd (.tmp 142) (.tmp 147) 66 rfl (wf64 (hI.upd xa (List.mem_of_getElem? hxa)).1 (hI.upd xa (List.mem_of_getElem? hxa)).2) (wf64 (hJ.upd xb (List.mem_of_getElem? hxb)).1 (hJ.upd xb (List.mem_of_getElem? hxb)).2) (hI.ok.upd xa (List.mem_of_getElem? hxa)) (hJ.ok.upd xb (List.mem_of_getElem? hxb)) (by kernel_rfl) (by kernel_rfl))) sS11 ?_
     refine dN<|cT<|sR<|?_
     refine rP 0 4 (.bool false)<|eN<|tI<|thR<|inR<|thR<|rt (.bool false) ?_
     exact ⟨_, rfl, ⟨fun h_ => (by cases h_), fun e_ => absurd (Option.some.inj (by rw [← hxa, ← hxb, e_])) hpr5⟩, kk18⟩
    rw [List.take_of_length_le (show f.pUpd.length ≤ iB by omega), List.take_of_length_le (show g.pUpd.length ≤ iB by omega)] at htkB
    refine wp_seq<|sR<|rP 0 131 (.int .i64 iB)<|rP 1 132 (pt q6 4)<|rL 2 133 4 (.slice z.u.A z.u.n z.u.c) hbxB2<|rP 3 134 (.int .i64 z.u.n)<|bF 4 135 ((iB : Int) < (z.u.n : Int))<|eN<|cF<|xX<|nxt<|sR<|rP 0 149 (pt w.heap.size 8)<|rq 1 150 (.agg ((Mur.msgC f.gos.kind z.p.A z.p.n z.p.c f.gos.sum f.gos.cnt z.i.A z.i.n z.i.c f.gos.ans).toArray)) rfl (lR 8 (Mur.msgC f.gos.kind z.p.A z.p.n z.p.c f.gos.sum f.gos.cnt z.i.A z.i.n z.i.c f.gos.ans) (show World.rangeAt _ _ (0 + 8) _ from segs_rng hI.sz (range_row hbxB0) 8 6 rfl rfl) (by rw [msgC_length hI.ok.sum]; kernel_rfl))<|rX 2 151 rfl rfl (Mur.buildR1 80 32 (.tmp 150) rfl Tryd.underlying80 Mur.msgZ 37 104 msgI (msgC_length rfl) (by decide) (by decide) (Mur.msgC f.gos.kind z.p.A z.p.n z.p.c f.gos.sum f.gos.cnt z.i.A z.i.n z.i.c f.gos.ans) (msgC_length hI.ok.sum) (by kernel_rfl)) ?_
    rintro _ W18 ⟨rfl, hb11, ch15, sz10⟩
    have zz15 := ch15.size
    refine rP 3 152 (pt W1.heap.size 8)<|rq 4 153 (.agg ((Mur.msgC g.gos.kind y.p.A y.p.n y.p.c g.gos.sum g.gos.cnt y.i.A y.i.n y.i.c g.gos.ans).toArray)) rfl (lR 8 (Mur.msgC g.gos.kind y.p.A y.p.n y.p.c g.gos.sum g.gos.cnt y.i.A y.i.n y.i.c g.gos.ans) (show World.rangeAt _ _ (0 + 8) _ from segs_rng hJ.sz (range_row (qT ch15 hbxB1)) 8 6 rfl rfl) (by rw [msgC_length hJ.ok.sum]; kernel_rfl))<|rX 5 154 rfl rfl (Mur.buildR1 80 32 (.tmp 153) rfl Tryd.underlying80 Mur.msgZ 37 104 msgI (msgC_length rfl) (by decide) (by decide) (Mur.msgC g.gos.kind y.p.A y.p.n y.p.c g.gos.sum g.gos.cnt y.i.A y.i.n y.i.c g.gos.ans) (msgC_length hJ.ok.sum) (by kernel_rfl)) ?_
    rintro _ W19 ⟨rfl, hb12, ch16, sz11⟩
    have zz16 := ch16.size
    have kk19 := kA HB ch15
    have kk20 := kA kk19 ch16
    refine rK 6 155 (Same21_any W16.heap.size W18.heap.size f.gos.kind z.p.A z.p.n z.p.c f.gos.sum f.gos.cnt z.i.A z.i.n z.i.c f.gos.ans f.gos.pre f.gos.items g.gos.kind y.p.A y.p.n y.p.c g.gos.sum g.gos.cnt y.i.A y.i.n y.i.c g.gos.ans g.gos.pre g.gos.items W19 hI.ok.sum hJ.ok.sum (qT ch16 hb11) hb12 (LiesF.chg hL kk20 hLin_).pre (LiesF.chg hM kk20 hMin_).pre (LiesF.chg hL kk20 hLin_).its (LiesF.chg hM kk20 hMin_).its (by omega)) ?_
    rintro _ W20 ⟨bv1, rfl, hif1, ch17⟩
    have zz17 := ch17.size
    cases bv1
    ·refine rP 7 4 (.bool false)<|eN<|wp_ret<|?_
     have kk21 := kA kk20 ch17
     refine rt (.bool false) ?_
     exact ⟨_, rfl, ⟨fun h_ => (by cases h_), fun e_ => absurd (msg_eq.1 (congrArg (fun x_ : Frm => x_.gos) e_)) (fun q_ => Bool.noConfusion (hif1.2 q_))⟩, kk21⟩
    refine rP 7 4 (.bool true)<|eN<|wp_ret<|?_
    have kk22 := kA kk20 ch17
    refine rt (.bool true) ?_
    exact ⟨_, rfl, ⟨fun _ => Mur.frm_eq2 (UInt8.toNat_inj.1 (by have h_ := (Classical.not_not.1 (by first | exact hx1 | omega)); omega)) (Classical.not_not.1 (by first | exact hx2 | omega)) (Classical.not_not.1 (by first | exact hx3 | omega)) hpr1 hpr2 hpr3 (Classical.not_not.1 (by first | exact hx4 | omega)) (Classical.not_not.1 (hx5)) htkA (Classical.not_not.1 (by first | exact hx7 | omega)) (UInt8.toNat_inj.1 (by have h_ := (Classical.not_not.1 (by first | exact hx8 | omega)); omega)) (by have h_ := (Classical.not_not.1 (by first | exact hx9 | omega)); omega) (Classical.not_not.1 (by first | exact hx10 | omega)) htkB (msg_eq.2 (hif1.1 rfl)), fun _ => rfl⟩, kk22⟩
   refine rq 38 47 _ rfl (boolT (b := !decide (f.root = g.root)) (by rw [decide_eq_false hpr3]; rfl) (run_neq_dg digT f.root g.root hI.ok.root hJ.ok.root _ (.tmp 44) (.tmp 46) 29 rfl (by kernel_rfl) (by kernel_rfl))) ?_
   refine Wk.many 156 26 39 [(42, .bool false), (47, .bool true)] 73 (.bool true) (by kernel_rfl) (by kernel_rfl) (by kernel_rfl) (by kernel_rfl) ?_
   intro bb19
   refine eN<|cT<|sR<|rP 0 4 (.bool false)<|eN<|tR<|?_
   have kk23 : Chg [] w W1 := zA ch1
   have kk24 := kA kk23 ch2
   refine rt (.bool false) ?_
   exact ⟨_, rfl, ⟨fun h_ => (by cases h_), fun e_ => absurd (congrArg (fun x_ : Frm => x_.root) e_) hpr3⟩, kk24⟩
  refine rq 31 40 _ rfl (boolT (b := !decide (f.att.k = g.att.k ∧ f.att.r = g.att.r ∧ f.att.n = g.att.n ∧ f.att.t = g.att.t)) (by rw [decide_eq_false (fun q_ => hpr2 ((Mur.Att.eq_iff f.att g.att).2 q_))]; rfl) (run_neq_att (.tmp 37) (.tmp 39) 36 rfl f.att.hk f.att.hr f.att.ht g.att.hk g.att.hr g.att.ht f.att.hn g.att.hn (by kernel_rfl) (by kernel_rfl))) ?_
  refine Wk.many 156 33 32 [(35, .bool false), (40, .bool true)] 73 (.bool true) (by kernel_rfl) (by kernel_rfl) (by kernel_rfl) (by kernel_rfl) ?_
  intro bb20
  refine eN<|cT<|sR<|rP 0 4 (.bool false)<|eN<|tR<|?_
  have kk25 : Chg [] w W1 := zA ch1
  have kk26 := kA kk25 ch2
  refine rt (.bool false) ?_
  exact ⟨_, rfl, ⟨fun h_ => (by cases h_), fun e_ => absurd (congrArg (fun x_ : Frm => x_.att) e_) hpr2⟩, kk26⟩
 refine rq 24 33 _ rfl (boolT (b := !decide (f.cKey = g.cKey ∧ f.cNode = g.cNode ∧ f.cInc = g.cInc ∧ f.cCnt = g.cCnt ∧ f.cGone = g.cGone)) (by rw [decide_eq_false hpr1]; rfl) (run_neq_claim (.tmp 30) (.tmp 32) 34 rfl hI.ok.key hJ.ok.key (wf64 hI.cNo.1 hI.cNo.2) (wf64 hJ.cNo.1 hJ.cNo.2) hI.ok.inc hJ.ok.inc hI.ok.cnt hJ.ok.cnt (by kernel_rfl) (by kernel_rfl))) ?_
 refine Wk.many 156 40 25 [(28, .bool false), (33, .bool true)] 73 (.bool true) (by kernel_rfl) (by kernel_rfl) (by kernel_rfl) (by kernel_rfl) ?_
 intro bb21
 refine eN<|cT<|sR<|rP 0 4 (.bool false)<|eN<|tR<|?_
 have kk27 : Chg [] w W1 := zA ch1
 have kk28 := kA kk27 ch2
 refine rt (.bool false) ?_
 exact ⟨_, rfl, ⟨fun h_ => (by cases h_), fun e_ => absurd ⟨(congrArg (fun x_ : Frm => x_.cKey) e_), (congrArg (fun x_ : Frm => x_.cNode) e_), (congrArg (fun x_ : Frm => x_.cInc) e_), (congrArg (fun x_ : Frm => x_.cCnt) e_), (congrArg (fun x_ : Frm => x_.cGone) e_)⟩ hpr1⟩, kk28⟩
end Go.Proofs.YtgbadghjnpbiaaaDoor
