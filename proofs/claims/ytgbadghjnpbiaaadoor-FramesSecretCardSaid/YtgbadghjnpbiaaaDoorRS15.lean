/- What the row rests on, part 15. -/
import Derived.Test.YtgbadghjnpbiaaaDoorProg
import Derived.Test.YtgbadghjnpbiaaaDoorRS14
import Derived.Test.YtgbadghjnpbiaaaDoorRS9
import Derived.Test.YtgbadghjnpbiaaaDoorRS11
import Derived.Test.YtgbadghjnpbiaaaDoorRS6
import Derived.Test.YtgbadghjnpbiaaaDoorRS8
import Derived.Test.YtgbadghjnpbiaaaDoorRS3
import Derived.Test.YtgbadghjnpbiaaaDoorRS4
import Derived.Test.YtgbadghjnpbiaaaDoorRS7
namespace Go.Proofs.YtgbadghjnpbiaaaDoor
open Go.RowKit Wk
open Mur (b8s Byt Own8 Seg Segs flat cutA attC Att SlA OwnA rowA msgC frmP bodyFM segs_cell frmL_sz conv_int u64_nat u64n conv_u64n u64n_lt segs_rng formN map_at slr_lt newOr_iff flat_sn own8_low u64n_of body_le msg_kind msg_pre byt_chg arr_slice_at byt_rng msg_items attC_length segs_row)
set_option maxRecDepth 100000
set_option maxHeartbeats 4000000
def RBody_F1 (b : Array Value) (u3 : Value) (u4 : Value) (u5 : Value) : Act := ⟨#[gd b 0, gd b 1, gd b 2, u3, u4, u5, gd b 6, gd b 7, gd b 8, gd b 9, gd b 10, gd b 11, gd b 12, gd b 13, gd b 14, gd b 15, gd b 16, gd b 17, gd b 18, gd b 19, gd b 20, gd b 21, gd b 22, gd b 23, gd b 24, gd b 25, gd b 26, gd b 27, gd b 28, gd b 29, gd b 30, gd b 31, gd b 32, gd b 33, gd b 34, gd b 35, gd b 36, gd b 37, gd b 38, gd b 39, gd b 40, gd b 41, gd b 42, gd b 43, gd b 44, gd b 45, gd b 46, gd b 47, gd b 48, gd b 49, gd b 50, gd b 51, gd b 52, gd b 53, gd b 54, gd b 55, gd b 56, gd b 57, gd b 58, gd b 59, gd b 60, gd b 61, gd b 62, gd b 63, gd b 64, gd b 65, gd b 66, gd b 67, gd b 68, gd b 69, gd b 70, gd b 71, gd b 72, gd b 73, gd b 74, gd b 75, gd b 76, gd b 77, gd b 78, gd b 79, gd b 80, gd b 81, gd b 82, gd b 83, gd b 84, gd b 85, gd b 86, gd b 87, gd b 88, gd b 89, gd b 90, gd b 91, gd b 92, gd b 93, gd b 94, gd b 95, gd b 96, gd b 97, gd b 98, gd b 99, gd b 100, gd b 101, gd b 102, gd b 103, gd b 104, gd b 105, gd b 106, gd b 107, gd b 108, gd b 109, gd b 110, gd b 111, gd b 112, gd b 113, gd b 114, gd b 115, gd b 116, gd b 117, gd b 118, gd b 119, gd b 120, gd b 121, gd b 122, gd b 123, gd b 124, gd b 125, gd b 126, gd b 127, gd b 128, gd b 129, gd b 130, gd b 131, gd b 132, gd b 133, gd b 134, gd b 135, gd b 136, gd b 137, gd b 138, gd b 139, gd b 140, gd b 141, gd b 142, gd b 143, gd b 144, gd b 145, gd b 146, gd b 147, gd b 148, gd b 149, gd b 150, gd b 151, gd b 152, gd b 153, gd b 154, gd b 155, gd b 156, gd b 157, gd b 158, gd b 159, gd b 160, gd b 161, gd b 162, gd b 163, gd b 164, gd b 165, gd b 166, gd b 167, gd b 168, gd b 169, gd b 170, gd b 171, gd b 172, gd b 173, gd b 174, gd b 175, gd b 176, gd b 177, gd b 178, gd b 179, gd b 180, gd b 181, gd b 182, gd b 183, gd b 184, gd b 185, gd b 186, gd b 187, gd b 188, gd b 189, gd b 190, gd b 191, gd b 192, gd b 193, gd b 194, gd b 195, gd b 196, gd b 197, gd b 198, gd b 199, gd b 200, gd b 201, gd b 202, gd b 203, gd b 204, gd b 205, gd b 206, gd b 207, gd b 208, gd b 209, gd b 210, gd b 211, gd b 212], []⟩
def RBody_F2 (b : Array Value) (u3 : Value) (u6 : Value) (u7 : Value) : Act := ⟨#[gd b 0, gd b 1, gd b 2, u3, gd b 4, gd b 5, u6, u7, gd b 8, gd b 9, gd b 10, gd b 11, gd b 12, gd b 13, gd b 14, gd b 15, gd b 16, gd b 17, gd b 18, gd b 19, gd b 20, gd b 21, gd b 22, gd b 23, gd b 24, gd b 25, gd b 26, gd b 27, gd b 28, gd b 29, gd b 30, gd b 31, gd b 32, gd b 33, gd b 34, gd b 35, gd b 36, gd b 37, gd b 38, gd b 39, gd b 40, gd b 41, gd b 42, gd b 43, gd b 44, gd b 45, gd b 46, gd b 47, gd b 48, gd b 49, gd b 50, gd b 51, gd b 52, gd b 53, gd b 54, gd b 55, gd b 56, gd b 57, gd b 58, gd b 59, gd b 60, gd b 61, gd b 62, gd b 63, gd b 64, gd b 65, gd b 66, gd b 67, gd b 68, gd b 69, gd b 70, gd b 71, gd b 72, gd b 73, gd b 74, gd b 75, gd b 76, gd b 77, gd b 78, gd b 79, gd b 80, gd b 81, gd b 82, gd b 83, gd b 84, gd b 85, gd b 86, gd b 87, gd b 88, gd b 89, gd b 90, gd b 91, gd b 92, gd b 93, gd b 94, gd b 95, gd b 96, gd b 97, gd b 98, gd b 99, gd b 100, gd b 101, gd b 102, gd b 103, gd b 104, gd b 105, gd b 106, gd b 107, gd b 108, gd b 109, gd b 110, gd b 111, gd b 112, gd b 113, gd b 114, gd b 115, gd b 116, gd b 117, gd b 118, gd b 119, gd b 120, gd b 121, gd b 122, gd b 123, gd b 124, gd b 125, gd b 126, gd b 127, gd b 128, gd b 129, gd b 130, gd b 131, gd b 132, gd b 133, gd b 134, gd b 135, gd b 136, gd b 137, gd b 138, gd b 139, gd b 140, gd b 141, gd b 142, gd b 143, gd b 144, gd b 145, gd b 146, gd b 147, gd b 148, gd b 149, gd b 150, gd b 151, gd b 152, gd b 153, gd b 154, gd b 155, gd b 156, gd b 157, gd b 158, gd b 159, gd b 160, gd b 161, gd b 162, gd b 163, gd b 164, gd b 165, gd b 166, gd b 167, gd b 168, gd b 169, gd b 170, gd b 171, gd b 172, gd b 173, gd b 174, gd b 175, gd b 176, gd b 177, gd b 178, gd b 179, gd b 180, gd b 181, gd b 182, gd b 183, gd b 184, gd b 185, gd b 186, gd b 187, gd b 188, gd b 189, gd b 190, gd b 191, gd b 192, gd b 193, gd b 194, gd b 195, gd b 196, gd b 197, gd b 198, gd b 199, gd b 200, gd b 201, gd b 202, gd b 203, gd b 204, gd b 205, gd b 206, gd b 207, gd b 208, gd b 209, gd b 210, gd b 211, gd b 212], []⟩
def RBody_F3 (b : Array Value) (u1 : Value) (u3 : Value) (u8 : Value) : Act := ⟨#[gd b 0, u1, gd b 2, u3, gd b 4, gd b 5, gd b 6, gd b 7, u8, gd b 9, gd b 10, gd b 11, gd b 12, gd b 13, gd b 14, gd b 15, gd b 16, gd b 17, gd b 18, gd b 19, gd b 20, gd b 21, gd b 22, gd b 23, gd b 24, gd b 25, gd b 26, gd b 27, gd b 28, gd b 29, gd b 30, gd b 31, gd b 32, gd b 33, gd b 34, gd b 35, gd b 36, gd b 37, gd b 38, gd b 39, gd b 40, gd b 41, gd b 42, gd b 43, gd b 44, gd b 45, gd b 46, gd b 47, gd b 48, gd b 49, gd b 50, gd b 51, gd b 52, gd b 53, gd b 54, gd b 55, gd b 56, gd b 57, gd b 58, gd b 59, gd b 60, gd b 61, gd b 62, gd b 63, gd b 64, gd b 65, gd b 66, gd b 67, gd b 68, gd b 69, gd b 70, gd b 71, gd b 72, gd b 73, gd b 74, gd b 75, gd b 76, gd b 77, gd b 78, gd b 79, gd b 80, gd b 81, gd b 82, gd b 83, gd b 84, gd b 85, gd b 86, gd b 87, gd b 88, gd b 89, gd b 90, gd b 91, gd b 92, gd b 93, gd b 94, gd b 95, gd b 96, gd b 97, gd b 98, gd b 99, gd b 100, gd b 101, gd b 102, gd b 103, gd b 104, gd b 105, gd b 106, gd b 107, gd b 108, gd b 109, gd b 110, gd b 111, gd b 112, gd b 113, gd b 114, gd b 115, gd b 116, gd b 117, gd b 118, gd b 119, gd b 120, gd b 121, gd b 122, gd b 123, gd b 124, gd b 125, gd b 126, gd b 127, gd b 128, gd b 129, gd b 130, gd b 131, gd b 132, gd b 133, gd b 134, gd b 135, gd b 136, gd b 137, gd b 138, gd b 139, gd b 140, gd b 141, gd b 142, gd b 143, gd b 144, gd b 145, gd b 146, gd b 147, gd b 148, gd b 149, gd b 150, gd b 151, gd b 152, gd b 153, gd b 154, gd b 155, gd b 156, gd b 157, gd b 158, gd b 159, gd b 160, gd b 161, gd b 162, gd b 163, gd b 164, gd b 165, gd b 166, gd b 167, gd b 168, gd b 169, gd b 170, gd b 171, gd b 172, gd b 173, gd b 174, gd b 175, gd b 176, gd b 177, gd b 178, gd b 179, gd b 180, gd b 181, gd b 182, gd b 183, gd b 184, gd b 185, gd b 186, gd b 187, gd b 188, gd b 189, gd b 190, gd b 191, gd b 192, gd b 193, gd b 194, gd b 195, gd b 196, gd b 197, gd b 198, gd b 199, gd b 200, gd b 201, gd b 202, gd b 203, gd b 204, gd b 205, gd b 206, gd b 207, gd b 208, gd b 209, gd b 210, gd b 211, gd b 212], []⟩
theorem RBody_any (f : Mur.Frm) (z : Mur.Zs) (w : World) (hL : Mur.LiesF w z f) (hI : Mur.FrmIn f) (hm : Mur.mayFM f) : Calls Tryd.prog 12 #[.agg (frmP f z).flatten.toArray] w fun e w' => ∃ A1 n1 c1, e = .returned (.slice A1 n1 c1) ∧ Own8 w' w.heap.size 5 A1 n1 c1 (bodyFM f) ∧ n1 ≤ 1900 ∧ Chg [] w w' := by
 have hLin_ : z.In fun g => g < w.heap.size → Wk.Off g [] := ⟨fun _ _ _ _ => trivial, fun _ _ _ _ => trivial, fun _ _ _ _ => trivial, fun _ _ _ _ => trivial, fun _ _ _ _ => trivial⟩
 have hLunc_ := hL.nu.nc
 have hLucm_ := hL.nu.cm
 have hLpnc_ := hL.np.nc
 have hLpcm_ := hL.np.cm
 have hLinc_ := hL.ni.nc
 have hLicm_ := hL.ni.cm
 have hLync_ := hL.ny.nc
 have hLycm_ := hL.ny.cm
 have hLfnc_ := hL.nf.nc
 have hLfcm_ := hL.nf.cm
 have hpk8_ := f.pKind.toNat_lt
 have hgk8_ := f.gos.kind.toNat_lt
 have hfk8_ := f.kind.toNat_lt
 have hul_ := hL.upd.len
 rw [List.length_map] at hul_
 have hil_ := hL.its.len
 have hfl_ := hL.prf.len
 rw [List.length_map] at hfl_
 have hpl_ := hL.pre.1
 have hyl_ := hL.byt.1
 have hkm_ := Mur.kind_may hm
 have hH4_ : Mur.nodeM f.frm ∧ Mur.nodeM f.dst ∧ f.frm ≠ f.dst ∧ f = Mur.bareM f := ⟨hm.1, hm.2.1, hm.2.2.1, hm.2.2.2.1⟩
 refine calls_of_wp Tryd.func12 rfl ?_
 refine sR<|nW 0 1 ((frmP f z).flatten.toArray) 39 fun W1 hb1 ch1 sz1 => rP 1 2 (.slice none 0 0)<|eN<|sR<|rP 0 9 (pt w.heap.size 0)<|rF 1 10 0 (.int .u8 f.kind.toNat) hI.sz hb1 0<|rq 2 11 (.int .u64 f.kind.toNat) rfl (conv_int 5 24 (.tmp 10) rfl (by kernel_rfl) .u64 Tryd.underlying24 .u8 (f.kind.toNat : Int) (by kernel_rfl) (u64_nat (n := f.kind.toNat) (by omega)))<|rP 3 12 (pt w.heap.size 1)<|rF 4 13 1 (.int .i64 f.frm) hI.sz hb1 1<|rq 5 14 (.int .u64 (u64n f.frm : Nat)) rfl (conv_u64n 3 24 (.tmp 13) rfl (by kernel_rfl) Tryd.underlying24 .i64 f.frm (by kernel_rfl))<|rP 6 15 (pt w.heap.size 2)<|rF 7 16 2 (.int .i64 f.dst) hI.sz hb1 2<|rq 8 17 (.int .u64 (u64n f.dst : Nat)) rfl (conv_u64n 3 24 (.tmp 16) rfl (by kernel_rfl) Tryd.underlying24 .i64 f.dst (by kernel_rfl))<|rX 9 18 rfl rfl (new_ex (.slice (some ⟨W1.heap.size, 0, none⟩) 3 3) #[.int .u64 f.kind.toNat, .int .u64 (u64n f.frm : Nat), .int .u64 (u64n f.dst : Nat)] 24 (by kernel_rfl)) ?_
 rintro _ W2 ⟨rfl, hb2, ch2, sz2⟩
 have zz2 := ch2.size
 refine rK 10 19 (RNat3_any W1.heap.size f.kind.toNat (u64n f.frm) (u64n f.dst) W2 hb2 (by omega) (u64n_lt _) (u64n_lt _)) ?_
 rintro _ W3 ⟨AA1, nn1, cc1, rfl, ow1, hle1, ch3⟩
 have zz3 := ch3.size
 have hq1 := ow1.nc
 have hq2 := ow1.cm
 have hq3 := ow1.byt.1
 refine rP 11 3 (.slice AA1 nn1 cc1)<|eN<|wp_seq<|sR<|rP 0 20 (pt w.heap.size 0)<|rF 1 21 0 (.int .u8 f.kind.toNat) hI.sz (qT ch3 (qT ch2 hb1)) 0<|eN<|wp_block<|sR<|?_
 by_cases hx1 : (f.kind.toNat : Int) = (1 : Int)
 ·refine eT 0 71 (f.kind.toNat : Int) (1 : Int)<|rP 1 70 (.bool true)<|eN<|cT<|sR<|?_
  have hk_ : f.kind = 1 := UInt8.toNat_inj.1 (by have h_ : (1 : UInt8).toNat = 1 := rfl; omega)
  have hmk_ := (Mur.mayFM_1 hH4_ hk_).1 hm
  have hu8_ := hmk_.2.2.2.1
  refine rP 0 72 (pt w.heap.size 3)<|rq 1 73 (.agg #[.int .i64 f.pTo, .int .u8 f.pKind.toNat, .int .u64 f.pSeq, .int .i64 f.pAbout, .slice z.u.A z.u.n z.u.c]) rfl (lR 3 [.int .i64 f.pTo, .int .u8 f.pKind.toNat, .int .u64 f.pSeq, .int .i64 f.pAbout, .slice z.u.A z.u.n z.u.c] (show World.rangeAt _ _ (0 + 3) _ from segs_rng hI.sz (range_row (qT ch3 (qT ch2 hb1))) 3 5 rfl rfl))<|nW 2 4 #[.int .i64 0, .int .u8 0, .int .u64 0, .int .i64 0, .slice none 0 0] 27 fun W4 hb3 ch4 sz3 => rU 3 rfl (Wk.storeR 27 (.tmp 4) (.tmp 73) rfl W3.heap.size 0 (by kernel_rfl) ([.int .i64 f.pTo, .int .u8 f.pKind.toNat, .int .u64 f.pSeq, .int .i64 f.pAbout, .slice z.u.A z.u.n z.u.c]) (by kernel_rfl) (by kernel_rfl) (by intro v hv; simp at hv; rcases hv with h | h | h | h | h <;> (subst h; rfl)) 27 ([.int .i64 0, .int .u8 0, .int .u64 0, .int .i64 0, .slice none 0 0]) hb3 (by simp)) fun W5 hb4 ch5 _ => ?_
  replace hb4 : W5.heap[W3.heap.size]? = some (.cells #[.int .i64 f.pTo, .int .u8 f.pKind.toNat, .int .u64 f.pSeq, .int .i64 f.pAbout, .slice z.u.A z.u.n z.u.c] 27 (0, 0)) := hb4
  have zz5 := ch5.size
  refine eN<|sR<|rP 0 74 (.slice AA1 nn1 cc1)<|rP 1 75 (pt W3.heap.size 1)<|rL 2 76 1 (.int .u8 f.pKind.toNat) hb4<|rq 3 77 (.int .u64 f.pKind.toNat) rfl (conv_int 5 24 (.tmp 76) rfl (by kernel_rfl) .u64 Tryd.underlying24 .u8 (f.pKind.toNat : Int) (by kernel_rfl) (u64_nat (n := f.pKind.toNat) (by omega)))<|rP 4 78 (pt W3.heap.size 2)<|rL 5 79 2 (.int .u64 f.pSeq) hb4<|rP 6 80 (pt W3.heap.size 3)<|rL 7 81 3 (.int .i64 f.pAbout) hb4<|rq 8 82 (.int .u64 (u64n f.pAbout : Nat)) rfl (conv_u64n 3 24 (.tmp 81) rfl (by kernel_rfl) Tryd.underlying24 .i64 f.pAbout (by kernel_rfl))<|rP 9 83 (pt W3.heap.size 4)<|rL 10 84 4 (.slice z.u.A z.u.n z.u.c) hb4<|rP 11 85 (.int .i64 z.u.n)<|rq 12 86 (.int .u64 z.u.n) rfl (conv_int 3 24 (.tmp 85) rfl (by kernel_rfl) .u64 Tryd.underlying24 .i64 (z.u.n : Int) (by kernel_rfl) (u64_nat (n := z.u.n) (by omega)))<|rX 13 87 rfl rfl (new_ex (.slice (some ⟨W5.heap.size, 0, none⟩) 4 4) #[.int .u64 f.pKind.toNat, .int .u64 f.pSeq, .int .u64 (u64n f.pAbout : Nat), .int .u64 z.u.n] 24 (by kernel_rfl)) ?_
  rintro _ W6 ⟨rfl, hb5, ch6, sz4⟩
  have zz6 := ch6.size
  refine rK 14 88 (RNat4_any W5.heap.size f.pKind.toNat f.pSeq (u64n f.pAbout) z.u.n W6 hb5 (by omega) hI.ok.seq (u64n_lt _) (by omega)) ?_
  rintro _ W7 ⟨AA2, nn2, cc2, rfl, ow2, hle2, ch7⟩
  have zz7 := ch7.size
  have hq4 := ow2.nc
  have hq5 := ow2.cm
  have hq6 := ow2.byt.1
  have ow3 := Mur.own8 (own_chg ow1.own ch4 (fun q e _ _ => trivial))
  have ow4 := Mur.own8 (own_chg ow3.own ch5 (fun q e _ _ => ⟨by have := ow1.lt q e; omega, trivial⟩))
  have ow5 := Mur.own8 (own_chg ow4.own ch6 (fun q e _ _ => trivial))
  have ow6 := Mur.own8 (own_chg ow5.own ch7 (fun q e _ _ => trivial))
  refine rX 15 89 rfl rfl (Mur.append8 (.tmp 74) (.tmp 88) 22 5 rfl Tryd.underlying22 (by kernel_rfl) W2.heap.size AA1 nn1 cc1 (formN f.kind.toNat ++ formN (u64n f.frm) ++ formN (u64n f.dst)) AA2 nn2 cc2 (formN f.pKind.toNat ++ formN f.pSeq ++ formN (u64n f.pAbout) ++ formN z.u.n) (by kernel_rfl) (by kernel_rfl) ow6.own ow2.byt ow2.nil (by omega) (by omega) (nn1 + nn2) (by omega) ((formN f.kind.toNat ++ formN (u64n f.frm) ++ formN (u64n f.dst)) ++ (formN f.pKind.toNat ++ formN f.pSeq ++ formN (u64n f.pAbout) ++ formN z.u.n)) rfl) ?_
  rintro _ W8 ⟨AA3, nn3, rfl, ow7, ch8, ha1⟩
  have zz8 := ch8.size
  have hq7 := ow7.nc
  have hq8 := ow7.cm
  have lts1 : ∀ k_, (.slice AA3 (nn1 + nn2) nn3 : Value).ownBlock = some k_ → (W2.heap.size ≤ k_ ∧ k_ < W8.heap.size) ∧ k_ ≠ W3.heap.size := fun k_ hk_ => ⟨ow7.lt k_ hk_, by rcases ha1 k_ hk_ with h_ | h_ <;> first | (have q_ := ow1.lt k_ h_; omega) | omega⟩
  refine rP 16 3 (.slice AA3 (nn1 + nn2) nn3)<|eN<|sR<|rP 0 5 (.int .i64 0)<|eN<|wp_block<|?_
  have hbase_ : W2.heap.size ≤ W8.heap.size := by omega
  refine Wk.loop (fun m_ a wr => ∃ (i : Nat) (A1 : Option Addr) (N1 : Nat) (c1 : Nat), m_ = z.u.n - i ∧ a = RBody_F1 a.tmps (.slice A1 N1 c1) (pt W3.heap.size 0) (.int .i64 i) ∧ i ≤ z.u.n ∧ Own8 wr W2.heap.size 5 A1 N1 c1 ((formN f.kind.toNat ++ formN (u64n f.frm) ++ formN (u64n f.dst)) ++ (formN f.pKind.toNat ++ formN f.pSeq ++ formN (u64n f.pAbout) ++ formN z.u.n) ++ ((f.pUpd.take i).map Mur.enc3).flatten) ∧ wr.heap[W3.heap.size]? = some (.cells #[.int .i64 f.pTo, .int .u8 f.pKind.toNat, .int .u64 f.pSeq, .int .i64 f.pAbout, .slice z.u.A z.u.n z.u.c] 27 (0, 0)) ∧ N1 ≤ nn1 + nn2 + 27 * i ∧ W2.heap.size ≤ wr.heap.size ∧ (∀ q_, (Value.slice A1 N1 c1).ownBlock = some q_ → q_ ≠ W3.heap.size) ∧ Chg [] w wr) (z.u.n - 0) ?_ ?_
  ·have kk1 : Chg [] w W1 := zA ch1
   have kk2 := kA kk1 ch2
   have kk3 := kA kk2 ch3
   have kk4 := kA kk3 ch4
   have kk5 := kB kk4 ch5
   have kk6 := kA kk5 ch6
   have kk7 := kA kk6 ch7
   have kk8 := Chg.step kk7 ch8 (newOr_blk (fun g hg => by have := ow1.lt g hg; omega))
   refine ⟨0, AA3, nn1 + nn2, nn3, rfl, by kernel_rfl, (by omega), (by rw [List.take_zero]; simp only [List.map_nil, List.flatten_nil, List.append_nil]; exact ow7), (Chg.hp ch8 (qT ch7 (qT ch6 hb4)) (off_blk (fun gz hgz => by have := ow1.lt gz hgz; omega))), (by omega), (by omega), (fun q_ h_ => (lts1 q_ h_).2), kk8⟩
  rintro mm1 aa1 W10 ⟨i, A1, N1, c1, hmm1, hF1, hi, hO, hgb, hN, hbz, hsp, HB⟩
  generalize aa1.tmps = bb1 at hF1
  subst hF1
  have lts0 : ∀ k_, (Value.slice A1 N1 c1).ownBlock = some k_ → (W2.heap.size ≤ k_ ∧ k_ < W10.heap.size) ∧ k_ ≠ W3.heap.size := fun k_ h_ => ⟨hO.lt k_ h_, hsp k_ h_⟩
  have hzB := HB.size
  have hOn := hO.nc
  have hOc := hO.cm
  have hbxl_ := (Array.getElem?_eq_some_iff.1 hgb).1
  by_cases hlt : i < z.u.n
  ·obtain ⟨xa, hxa⟩ : ∃ x_, f.pUpd[i]? = some x_ := ⟨_, List.getElem?_eq_getElem (by omega)⟩
   obtain ⟨g1, o1, hA1_, hr1⟩ := hL.upd.row (map_at Mur.updC hxa) (by decide)
   have hg1l_ : g1 < w.heap.size := slr_lt hL.upd (by decide) hA1_ (by omega)
   have hxu_ : xa.2.2 < 18446744073709551616 := hI.ok.upd xa (List.mem_of_getElem? hxa)
   have hx8_ := xa.2.1.toNat_lt
   have hel_ := Mur.enc3_len (u := xa) hxu_
   refine wp_seq<|sR<|rP 0 90 (.int .i64 i)<|rP 1 91 (pt W3.heap.size 4)<|rL 2 92 4 (.slice z.u.A z.u.n z.u.c) hgb<|rP 3 93 (.int .i64 z.u.n)<|bT 4 94 ((i : Int) < (z.u.n : Int))<|eN<|cT<|wp_skip<|nxt<|wp_seq<|wp_block<|?_
   refine dReg ((Wk.blk (.slice A1 N1 c1))) (by kernel_rfl) ?_
   intro W11 ch9 sz5
   have zz9 := ch9.size
   have sS1 : Chg ((Wk.blk (.slice A1 N1 c1))) W11 W11 := (Chg.refl _).more (by simp)
   refine dW 0 97 (.slice A1 N1 c1) sS1<|dW 1 98 (pt W3.heap.size 4) sS1 ?_
   refine dV 2 99 (.slice z.u.A z.u.n z.u.c) rfl rfl (fun w' hw' => ld 25 98 W3.heap.size 4 (.slice z.u.A z.u.n z.u.c) ((cell_of_row _ _ 4 _ _ _ (Chg.hp hw' (qT ch9 hgb) (off_blk (fun gz hgz => by have := lts0 gz hgz; omega)))).trans rfl)) sS1 ?_
   refine dW 3 100 (.int .i64 i) sS1 ?_
   refine dV 4 101 (pt g1 (o1 + i * 3)) rfl rfl (fun w' hw' => index_sl 25 66 (.tmp 99) (.tmp 100) rfl Tryd.underlying25 3 (by kernel_rfl) g1 o1 z.u.n z.u.c i .i64 (by rw [← hA1_]; kernel_rfl) (by kernel_rfl) (by omega)) sS1 ?_
   refine dW 5 102 (pt g1 (o1 + i * 3)) sS1 ?_
   have kk9 := kA HB ch9
   refine dV 6 103 (.int .i64 xa.1) rfl rfl (fun w' hw' => ld 3 102 g1 (o1 + i * 3) (.int .i64 xa.1) (Chg.cell hw' (Chg.cell kk9 (hr1 0 (.int .i64 xa.1) rfl) trivial) (off_blk (fun gz hgz => by have := lts0 gz hgz; omega)))) sS1 ?_
   refine dV 7 104 (.int .u64 (u64n xa.1 : Nat)) rfl rfl (fun w' hw' => conv_u64n 3 24 (.tmp 103) rfl (by kernel_rfl) Tryd.underlying24 .i64 xa.1 (by kernel_rfl)) sS1 ?_
   refine dW 8 105 (pt W3.heap.size 4) sS1 ?_
   refine dV 9 106 (.slice z.u.A z.u.n z.u.c) rfl rfl (fun w' hw' => ld 25 105 W3.heap.size 4 (.slice z.u.A z.u.n z.u.c) ((cell_of_row _ _ 4 _ _ _ (Chg.hp hw' (qT ch9 hgb) (off_blk (fun gz hgz => by have := lts0 gz hgz; omega)))).trans rfl)) sS1 ?_
   refine dW 10 107 (.int .i64 i) sS1 ?_
   refine dV 11 108 (pt g1 (o1 + i * 3)) rfl rfl (fun w' hw' => index_sl 25 66 (.tmp 106) (.tmp 107) rfl Tryd.underlying25 3 (by kernel_rfl) g1 o1 z.u.n z.u.c i .i64 (by rw [← hA1_]; kernel_rfl) (by kernel_rfl) (by omega)) sS1 ?_
   refine dW 12 109 (pt g1 (o1 + i * 3 + 1)) sS1 ?_
   refine dV 13 110 (.int .u8 xa.2.1.toNat) rfl rfl (fun w' hw' => ld 5 109 g1 (o1 + i * 3 + 1) (.int .u8 xa.2.1.toNat) (Chg.cell hw' (Chg.cell kk9 (hr1 1 (.int .u8 xa.2.1.toNat) rfl) trivial) (off_blk (fun gz hgz => by have := lts0 gz hgz; omega)))) sS1 ?_
   refine dV 14 111 (.int .u64 xa.2.1.toNat) rfl rfl (fun w' hw' => conv_int 5 24 (.tmp 110) rfl (by kernel_rfl) .u64 Tryd.underlying24 .u8 (xa.2.1.toNat : Int) (by kernel_rfl) (u64_nat (n := xa.2.1.toNat) (by omega))) sS1 ?_
   refine dW 15 112 (pt W3.heap.size 4) sS1 ?_
   refine dV 16 113 (.slice z.u.A z.u.n z.u.c) rfl rfl (fun w' hw' => ld 25 112 W3.heap.size 4 (.slice z.u.A z.u.n z.u.c) ((cell_of_row _ _ 4 _ _ _ (Chg.hp hw' (qT ch9 hgb) (off_blk (fun gz hgz => by have := lts0 gz hgz; omega)))).trans rfl)) sS1 ?_
   refine dW 17 114 (.int .i64 i) sS1 ?_
   refine dV 18 115 (pt g1 (o1 + i * 3)) rfl rfl (fun w' hw' => index_sl 25 66 (.tmp 113) (.tmp 114) rfl Tryd.underlying25 3 (by kernel_rfl) g1 o1 z.u.n z.u.c i .i64 (by rw [← hA1_]; kernel_rfl) (by kernel_rfl) (by omega)) sS1 ?_
   refine dW 19 116 (pt g1 (o1 + i * 3 + 2)) sS1 ?_
   refine dV 20 117 (.int .u64 xa.2.2) rfl rfl (fun w' hw' => ld 24 116 g1 (o1 + i * 3 + 2) (.int .u64 xa.2.2) (Chg.cell hw' (Chg.cell kk9 (hr1 2 (.int .u64 xa.2.2) rfl) trivial) (off_blk (fun gz hgz => by have := lts0 gz hgz; omega)))) sS1 ?_
   refine dOp 21 (by kernel_rfl) ?_
   refine oEx (some 118) _ rfl rfl (by kernel_rfl) (new_ex (.slice (some ⟨W11.heap.size, 0, none⟩) 3 3) #[.int .u64 (u64n xa.1 : Nat), .int .u64 xa.2.1.toNat, .int .u64 xa.2.2] 24 (by kernel_rfl)) ?_
   rintro _ W12 ⟨rfl, hb6, ch10, sz6⟩
   have zz10 := ch10.size
   have sS2 := kA sS1 ch10
   refine ⟨sS2, ?_⟩
   refine dOp 22 (by kernel_rfl) ?_
   refine oK 119 (RNat3_any W11.heap.size (u64n xa.1) xa.2.1.toNat xa.2.2 W12 hb6 (u64n_lt _) (by omega) hxu_) ?_
   rintro _ W13 ⟨AA4, nn4, cc3, rfl, ow8, hle3, ch11⟩
   have zz11 := ch11.size
   have hq9 := ow8.nc
   have hq10 := ow8.cm
   have hq11 := ow8.byt.1
   have sS3 := kA sS2 ch11
   refine ⟨sS3, ?_⟩
   refine dOp 23 (by kernel_rfl) ?_
   have ow9 := Mur.own8 (own_chg hO.own ch9 (fun q e _ _ => trivial))
   have ow10 := Mur.own8 (own_chg ow9.own ch10 (fun q e _ _ => trivial))
   have ow11 := Mur.own8 (own_chg ow10.own ch11 (fun q e _ _ => trivial))
   refine oEx (some 120) _ rfl rfl (by kernel_rfl) (Mur.append8 (.tmp 97) (.tmp 119) 22 5 rfl Tryd.underlying22 (by kernel_rfl) W2.heap.size A1 N1 c1 ((formN f.kind.toNat ++ formN (u64n f.frm) ++ formN (u64n f.dst)) ++ (formN f.pKind.toNat ++ formN f.pSeq ++ formN (u64n f.pAbout) ++ formN z.u.n) ++ ((f.pUpd.take i).map Mur.enc3).flatten) AA4 nn4 cc3 (formN (u64n xa.1) ++ formN xa.2.1.toNat ++ formN xa.2.2) (by kernel_rfl) (by kernel_rfl) ow11.own ow8.byt ow8.nil (by omega) (by omega) (N1 + nn4) (by omega) (((formN f.kind.toNat ++ formN (u64n f.frm) ++ formN (u64n f.dst)) ++ (formN f.pKind.toNat ++ formN f.pSeq ++ formN (u64n f.pAbout) ++ formN z.u.n) ++ ((f.pUpd.take i).map Mur.enc3).flatten) ++ (formN (u64n xa.1) ++ formN xa.2.1.toNat ++ formN xa.2.2)) rfl) ?_
   rintro _ W14 ⟨AA5, nn5, rfl, ow12, ch12, ha2⟩
   have zz12 := ch12.size
   have hq12 := ow12.nc
   have hq13 := ow12.cm
   have lts2 : ∀ k_, (.slice AA5 (N1 + nn4) nn5 : Value).ownBlock = some k_ → (W2.heap.size ≤ k_ ∧ k_ < W14.heap.size) ∧ k_ ≠ W3.heap.size := fun k_ hk_ => ⟨ow12.lt k_ hk_, by rcases ha2 k_ hk_ with h_ | h_ <;> first | (have q_ := lts0 k_ h_; omega) | omega⟩
   have sS4 := Chg.step sS3 ch12 (newOr_iff.2 (fun t ht => .inl ht))
   refine ⟨sS4, ?_⟩
   refine dW 24 3 (.slice AA5 (N1 + nn4) nn5) sS4 ?_
   refine dE<|inN<|nxt<|reg<|?_
   refine rP 0 95 (.int .i64 i)<|rI 1 96 ((i : Int) + 1) (((i + 1 : Nat) : Int))<|rP 2 5 (.int .i64 (i + 1 : Nat))<|eN<|?_
   have kk10 := kA kk9 ch10
   have kk11 := kA kk10 ch11
   have kk12 := Chg.step kk11 ch12 (newOr_blk (fun g hg => by have := lts0 g hg; omega))
   refine ⟨_, ?_, i + 1, AA5, N1 + nn4, nn5, rfl, by kernel_rfl, (by omega), (by rw [flat_sn Mur.enc3 hxa, ← List.append_assoc]; rw [show Mur.enc3 xa = formN (u64n xa.1) ++ formN xa.2.1.toNat ++ formN xa.2.2 from rfl]; exact own8_low ow12 (by omega)), (Chg.hp ch12 (qT ch11 (qT ch10 (qT ch9 hgb))) (off_blk (fun gz hgz => by have := lts0 gz hgz; omega))), (by omega), (by omega), (fun q_ h_ => (lts2 q_ h_).2), kk12⟩
   omega
  refine wp_seq<|sR<|rP 0 90 (.int .i64 i)<|rP 1 91 (pt W3.heap.size 4)<|rL 2 92 4 (.slice z.u.A z.u.n z.u.c) hgb<|rP 3 93 (.int .i64 z.u.n)<|bF 4 94 ((i : Int) < (z.u.n : Int))<|eN<|cF<|xX<|inN<|nxt<|sR<|rP 0 212 (.slice A1 N1 c1)<|rP 1 2 (.slice A1 N1 c1)<|eN<|wp_ret<|?_
  have hH_ := hO
  have hE_ : (formN f.kind.toNat ++ formN (u64n f.frm) ++ formN (u64n f.dst)) ++ (formN f.pKind.toNat ++ formN f.pSeq ++ formN (u64n f.pAbout) ++ formN z.u.n) ++ ((f.pUpd.take i).map Mur.enc3).flatten = bodyFM f := by rw [← Mur.bodyB_1 hm hk_, u64n_of (n := f.kind.toNat) (by omega), List.take_of_length_le (show f.pUpd.length ≤ i by omega), ← hul_] <;> simp only [List.append_assoc]
  rw [hE_] at hH_
  have hbd_ := body_le hm hI.ok
  have hbl_ := hH_.byt.1
  refine rt (.slice A1 N1 c1) ?_
  exact ⟨_, _, _, rfl, own8_low hH_ (by omega), by omega, HB⟩
 refine eF 0 71 (f.kind.toNat : Int) (1 : Int)<|rP 1 70 (.bool false)<|eN<|cF<|sR<|?_
 by_cases hx2 : (f.kind.toNat : Int) = (2 : Int)
 ·refine eT 0 122 (f.kind.toNat : Int) (2 : Int)<|rP 1 121 (.bool true)<|eN<|cT<|sR<|?_
  have hk_ : f.kind = 2 := UInt8.toNat_inj.1 (by have h_ : (2 : UInt8).toNat = 2 := rfl; omega)
  have hmk_ := (Mur.mayFM_2 hH4_ hk_).1 hm
  have hp8_ := Mur.pre_len hmk_.1
  have hi8_ := hmk_.2.2.2.1
  refine rP 0 123 (pt w.heap.size 8)<|rq 1 124 (.agg ((Mur.msgC f.gos.kind z.p.A z.p.n z.p.c f.gos.sum f.gos.cnt z.i.A z.i.n z.i.c f.gos.ans).toArray)) rfl (lR 8 (Mur.msgC f.gos.kind z.p.A z.p.n z.p.c f.gos.sum f.gos.cnt z.i.A z.i.n z.i.c f.gos.ans) (show World.rangeAt _ _ (0 + 8) _ from segs_rng hI.sz (range_row (qT ch3 (qT ch2 hb1))) 8 6 rfl rfl) (by rw [Mur.msgC_length hI.ok.sum]; kernel_rfl))<|nW 2 6 ZM 32 fun W15 hb7 ch13 sz7 => rU 3 rfl (sB (Mur.msgC f.gos.kind z.p.A z.p.n z.p.c f.gos.sum f.gos.cnt z.i.A z.i.n z.i.c f.gos.ans).toArray (Mur.msgC_size hI.ok.sum) Mur.msgC_all hb7 (by kernel_rfl)) fun W16 hb8 ch14 zz14 => eN<|sR<|rP 0 125 (.slice AA1 nn1 cc1)<|rP 1 126 (pt W3.heap.size 0)<|rq 2 127 _ rfl (ld 5 126 W3.heap.size 0 (.int .u8 f.gos.kind.toNat) (show World.cell? _ ⟨_, 0 + 0, _⟩ = _ from msg_kind (range_row hb8)))<|rq 3 128 (.int .u64 f.gos.kind.toNat) rfl (conv_int 5 24 (.tmp 127) rfl (by kernel_rfl) .u64 Tryd.underlying24 .u8 (f.gos.kind.toNat : Int) (by kernel_rfl) (u64_nat (n := f.gos.kind.toNat) (by omega)))<|rP 4 129 (pt W3.heap.size 1)<|rq 5 130 _ rfl (ld 22 129 W3.heap.size 1 (.slice z.p.A z.p.n z.p.c) (show World.cell? _ ⟨_, 0 + 1, _⟩ = _ from msg_pre (range_row hb8)))<|rP 6 131 (.int .i64 z.p.n)<|rq 7 132 (.int .u64 z.p.n) rfl (conv_int 3 24 (.tmp 131) rfl (by kernel_rfl) .u64 Tryd.underlying24 .i64 (z.p.n : Int) (by kernel_rfl) (u64_nat (n := z.p.n) (by omega)))<|rX 8 133 rfl rfl (new_ex (.slice (some ⟨W16.heap.size, 0, none⟩) 2 2) #[.int .u64 f.gos.kind.toNat, .int .u64 z.p.n] 24 (by kernel_rfl)) ?_
  rintro _ W17 ⟨rfl, hb9, ch15, sz8⟩
  have zz15 := ch15.size
  refine rK 9 134 (RNat2_any W16.heap.size f.gos.kind.toNat z.p.n W17 hb9 (by omega) (by omega)) ?_
  rintro _ W18 ⟨AA6, nn6, cc4, rfl, ow13, hle4, ch16⟩
  have zz16 := ch16.size
  have hq14 := ow13.nc
  have hq15 := ow13.cm
  have hq16 := ow13.byt.1
  have ow14 := Mur.own8 (own_chg ow1.own ch13 (fun q e _ _ => trivial))
  have ow15 := Mur.own8 (own_chg ow14.own ch14 (fun q e _ _ => ⟨by have := ow1.lt q e; omega, trivial⟩))
  have ow16 := Mur.own8 (own_chg ow15.own ch15 (fun q e _ _ => trivial))
  have ow17 := Mur.own8 (own_chg ow16.own ch16 (fun q e _ _ => trivial))
  refine rX 10 135 rfl rfl (Mur.append8 (.tmp 125) (.tmp 134) 22 5 rfl Tryd.underlying22 (by kernel_rfl) W2.heap.size AA1 nn1 cc1 (formN f.kind.toNat ++ formN (u64n f.frm) ++ formN (u64n f.dst)) AA6 nn6 cc4 (formN f.gos.kind.toNat ++ formN z.p.n) (by kernel_rfl) (by kernel_rfl) ow17.own ow13.byt ow13.nil (by omega) (by omega) (nn1 + nn6) (by omega) ((formN f.kind.toNat ++ formN (u64n f.frm) ++ formN (u64n f.dst)) ++ (formN f.gos.kind.toNat ++ formN z.p.n)) rfl) ?_
  rintro _ W19 ⟨AA7, nn7, rfl, ow18, ch17, ha3⟩
  have zz17 := ch17.size
  have hq17 := ow18.nc
  have hq18 := ow18.cm
  have lts3 : ∀ k_, (.slice AA7 (nn1 + nn6) nn7 : Value).ownBlock = some k_ → (W2.heap.size ≤ k_ ∧ k_ < W19.heap.size) ∧ k_ ≠ W3.heap.size := fun k_ hk_ => ⟨ow18.lt k_ hk_, by rcases ha3 k_ hk_ with h_ | h_ <;> first | (have q_ := ow1.lt k_ h_; omega) | omega⟩
  refine rP 11 3 (.slice AA7 (nn1 + nn6) nn7)<|eN<|sR<|rP 0 136 (.slice AA7 (nn1 + nn6) nn7)<|rP 1 137 (pt W3.heap.size 1)<|rq 2 138 _ rfl (ld 22 137 W3.heap.size 1 (.slice z.p.A z.p.n z.p.c) (show World.cell? _ ⟨_, 0 + 1, _⟩ = _ from msg_pre (range_row (Chg.hp ch17 (qT ch16 (qT ch15 hb8)) (off_blk (fun gz hgz => by have := ow1.lt gz hgz; omega)))))) ?_
  have kk13 : Chg [] w W1 := zA ch1
  have kk14 := kA kk13 ch2
  have kk15 := kA kk14 ch3
  have kk16 := kA kk15 ch13
  have kk17 := kB kk16 ch14
  have kk18 := kA kk17 ch15
  have kk19 := kA kk18 ch16
  have kk20 := Chg.step kk19 ch17 (newOr_blk (fun g hg => by have := ow1.lt g hg; omega))
  refine rX 3 139 rfl rfl (Mur.append8 (.tmp 136) (.tmp 138) 22 5 rfl Tryd.underlying22 (by kernel_rfl) W2.heap.size AA7 (nn1 + nn6) nn7 ((formN f.kind.toNat ++ formN (u64n f.frm) ++ formN (u64n f.dst)) ++ (formN f.gos.kind.toNat ++ formN z.p.n)) z.p.A z.p.n z.p.c f.gos.pre (by kernel_rfl) (by kernel_rfl) ow18.own (byt_chg hL.pre kk20 (fun g off e hl => trivial)) hL.np.nil (by omega) (by omega) (nn1 + nn6 + z.p.n) (by omega) (((formN f.kind.toNat ++ formN (u64n f.frm) ++ formN (u64n f.dst)) ++ (formN f.gos.kind.toNat ++ formN z.p.n)) ++ f.gos.pre) rfl) ?_
  rintro _ W20 ⟨AA8, nn8, rfl, ow19, ch18, ha4⟩
  have zz18 := ch18.size
  have hq19 := ow19.nc
  have hq20 := ow19.cm
  have lts4 : ∀ k_, (.slice AA8 (nn1 + nn6 + z.p.n) nn8 : Value).ownBlock = some k_ → (W2.heap.size ≤ k_ ∧ k_ < W20.heap.size) ∧ k_ ≠ W3.heap.size := fun k_ hk_ => ⟨ow19.lt k_ hk_, by rcases ha4 k_ hk_ with h_ | h_ <;> first | (have q_ := lts3 k_ h_; omega) | omega⟩
  refine rP 4 3 (.slice AA8 (nn1 + nn6 + z.p.n) nn8)<|eN<|sR<|rP 0 140 (pt W3.heap.size 0)<|rq 1 141 _ rfl (ld 5 140 W3.heap.size 0 (.int .u8 f.gos.kind.toNat) (show World.cell? _ ⟨_, 0 + 0, _⟩ = _ from msg_kind (range_row (Chg.hp ch18 (Chg.hp ch17 (qT ch16 (qT ch15 hb8)) (off_blk (fun gz hgz => by have := ow1.lt gz hgz; omega))) (off_blk (fun gz hgz => by have := lts3 gz hgz; omega)))))) ?_
  by_cases hx3 : (f.gos.kind.toNat : Int) = (1 : Int)
  ·refine eT 2 142 (f.gos.kind.toNat : Int) (1 : Int)<|eN<|cT<|sR<|rP 0 143 (.slice AA8 (nn1 + nn6 + z.p.n) nn8)<|rP 1 144 (pt W3.heap.size 2)<|rq 2 145 (.slice (some ⟨W3.heap.size, 2, none⟩) 32 32) rfl (arr_slice_at 29 5 (.tmp 144) 32 rfl Tryd.underlying29 (by kernel_rfl) W3.heap.size 2 (by kernel_rfl))<|rX 3 146 rfl rfl (Mur.append8 (.tmp 143) (.tmp 145) 22 5 rfl Tryd.underlying22 (by kernel_rfl) W2.heap.size AA8 (nn1 + nn6 + z.p.n) nn8 (((formN f.kind.toNat ++ formN (u64n f.frm) ++ formN (u64n f.dst)) ++ (formN f.gos.kind.toNat ++ formN z.p.n)) ++ f.gos.pre) (some ⟨W3.heap.size, 2, none⟩) 32 32 f.gos.sum (by kernel_rfl) (by kernel_rfl) ow19.own (byt_rng (show World.rangeAt _ _ (0 + 2) _ from Mur.msg_sum (range_row (Chg.hp ch18 (Chg.hp ch17 (qT ch16 (qT ch15 hb8)) (off_blk (fun gz hgz => by have := ow1.lt gz hgz; omega))) (off_blk (fun gz hgz => by have := lts3 gz hgz; omega))))) hI.ok.sum) (fun h => by cases h) (by omega) (by omega) (nn1 + nn6 + z.p.n + 32) (by omega) ((((formN f.kind.toNat ++ formN (u64n f.frm) ++ formN (u64n f.dst)) ++ (formN f.gos.kind.toNat ++ formN z.p.n)) ++ f.gos.pre) ++ f.gos.sum) rfl) ?_
   rintro _ W21 ⟨AA9, nn9, rfl, ow20, ch19, ha5⟩
   have zz19 := ch19.size
   have hq21 := ow20.nc
   have hq22 := ow20.cm
   have lts5 : ∀ k_, (.slice AA9 (nn1 + nn6 + z.p.n + 32) nn9 : Value).ownBlock = some k_ → (W2.heap.size ≤ k_ ∧ k_ < W21.heap.size) ∧ k_ ≠ W3.heap.size := fun k_ hk_ => ⟨ow20.lt k_ hk_, by rcases ha5 k_ hk_ with h_ | h_ <;> first | (have q_ := lts4 k_ h_; omega) | omega⟩
   refine rP 4 3 (.slice AA9 (nn1 + nn6 + z.p.n + 32) nn9)<|eN<|reg<|rP 0 147 (.slice AA9 (nn1 + nn6 + z.p.n + 32) nn9)<|rP 1 148 (pt W3.heap.size 34)<|rq 2 149 _ rfl (ld 3 148 W3.heap.size 34 (.int .i64 f.gos.cnt) (show World.cell? _ ⟨_, 0 + 34, _⟩ = _ from Mur.msg_cnt hI.ok.sum (range_row (Chg.hp ch19 (Chg.hp ch18 (Chg.hp ch17 (qT ch16 (qT ch15 hb8)) (off_blk (fun gz hgz => by have := ow1.lt gz hgz; omega))) (off_blk (fun gz hgz => by have := lts3 gz hgz; omega))) (off_blk (fun gz hgz => by have := lts4 gz hgz; omega))))))<|rq 3 150 (.int .u64 (u64n f.gos.cnt : Nat)) rfl (conv_u64n 3 24 (.tmp 149) rfl (by kernel_rfl) Tryd.underlying24 .i64 f.gos.cnt (by kernel_rfl))<|rX 4 151 rfl rfl (new_ex (.slice (some ⟨W21.heap.size, 0, none⟩) 1 1) #[.int .u64 (u64n f.gos.cnt : Nat)] 24 (by kernel_rfl)) ?_
   rintro _ W22 ⟨rfl, hb10, ch20, sz9⟩
   have zz20 := ch20.size
   refine rK 5 152 (RNat1_any W21.heap.size (u64n f.gos.cnt) W22 hb10 (u64n_lt _)) ?_
   rintro _ W23 ⟨AA10, nn10, cc5, rfl, ow21, hle5, ch21⟩
   have zz21 := ch21.size
   have hq23 := ow21.nc
   have hq24 := ow21.cm
   have hq25 := ow21.byt.1
   have ow22 := Mur.own8 (own_chg ow20.own ch20 (fun q e _ _ => trivial))
   have ow23 := Mur.own8 (own_chg ow22.own ch21 (fun q e _ _ => trivial))
   refine rX 6 153 rfl rfl (Mur.append8 (.tmp 147) (.tmp 152) 22 5 rfl Tryd.underlying22 (by kernel_rfl) W2.heap.size AA9 (nn1 + nn6 + z.p.n + 32) nn9 ((((formN f.kind.toNat ++ formN (u64n f.frm) ++ formN (u64n f.dst)) ++ (formN f.gos.kind.toNat ++ formN z.p.n)) ++ f.gos.pre) ++ f.gos.sum) AA10 nn10 cc5 (formN (u64n f.gos.cnt)) (by kernel_rfl) (by kernel_rfl) ow23.own ow21.byt ow21.nil (by omega) (by omega) (nn1 + nn6 + z.p.n + 32 + nn10) (by omega) (((((formN f.kind.toNat ++ formN (u64n f.frm) ++ formN (u64n f.dst)) ++ (formN f.gos.kind.toNat ++ formN z.p.n)) ++ f.gos.pre) ++ f.gos.sum) ++ (formN (u64n f.gos.cnt))) rfl) ?_
   rintro _ W24 ⟨AA11, nn11, rfl, ow24, ch22, ha6⟩
   have zz22 := ch22.size
   have hq26 := ow24.nc
   have hq27 := ow24.cm
   have lts6 : ∀ k_, (.slice AA11 (nn1 + nn6 + z.p.n + 32 + nn10) nn11 : Value).ownBlock = some k_ → (W2.heap.size ≤ k_ ∧ k_ < W24.heap.size) ∧ k_ ≠ W3.heap.size := fun k_ hk_ => ⟨ow24.lt k_ hk_, by rcases ha6 k_ hk_ with h_ | h_ <;> first | (have q_ := lts5 k_ h_; omega) | omega⟩
   refine rP 7 3 (.slice AA11 (nn1 + nn6 + z.p.n + 32 + nn10) nn11)<|rE<|inN<|nxt<|sR<|rP 0 212 (.slice AA11 (nn1 + nn6 + z.p.n + 32 + nn10) nn11)<|rP 1 2 (.slice AA11 (nn1 + nn6 + z.p.n + 32 + nn10) nn11)<|eN<|wp_ret<|?_
   have hH_ := ow24
   have hgk_ : f.gos.kind = 1 := UInt8.toNat_inj.1 (by have h_ : (1 : UInt8).toNat = 1 := rfl; omega)
   have hE_ : ((((formN f.kind.toNat ++ formN (u64n f.frm) ++ formN (u64n f.dst)) ++ (formN f.gos.kind.toNat ++ formN z.p.n)) ++ f.gos.pre) ++ f.gos.sum) ++ (formN (u64n f.gos.cnt)) = bodyFM f := by rw [← Mur.bodyB_2s hm hk_ hgk_, u64n_of (n := f.kind.toNat) (by omega), u64n_of (n := f.gos.kind.toNat) (by omega), ← hpl_] <;> simp only [List.append_assoc]
   rw [hE_] at hH_
   have hbd_ := body_le hm hI.ok
   have hbl_ := hH_.byt.1
   have kk21 := Chg.step kk20 ch18 (newOr_blk (fun g hg => by have := lts3 g hg; omega))
   have kk22 := Chg.step kk21 ch19 (newOr_blk (fun g hg => by have := lts4 g hg; omega))
   have kk23 := kA kk22 ch20
   have kk24 := kA kk23 ch21
   have kk25 := Chg.step kk24 ch22 (newOr_blk (fun g hg => by have := lts5 g hg; omega))
   refine rt (.slice AA11 (nn1 + nn6 + z.p.n + 32 + nn10) nn11) ?_
   exact ⟨_, _, _, rfl, own8_low hH_ (by omega), by omega, kk25⟩
  refine eF 2 142 (f.gos.kind.toNat : Int) (1 : Int)<|eN<|cF<|sR<|rP 0 154 (.slice AA8 (nn1 + nn6 + z.p.n) nn8)<|rP 1 155 (pt W3.heap.size 35)<|rq 2 156 _ rfl (ld 30 155 W3.heap.size 35 (.slice z.i.A z.i.n z.i.c) (show World.cell? _ ⟨_, 0 + 35, _⟩ = _ from msg_items hI.ok.sum (range_row (Chg.hp ch18 (Chg.hp ch17 (qT ch16 (qT ch15 hb8)) (off_blk (fun gz hgz => by have := ow1.lt gz hgz; omega))) (off_blk (fun gz hgz => by have := lts3 gz hgz; omega))))))<|rP 3 157 (.int .i64 z.i.n)<|rq 4 158 (.int .u64 z.i.n) rfl (conv_int 3 24 (.tmp 157) rfl (by kernel_rfl) .u64 Tryd.underlying24 .i64 (z.i.n : Int) (by kernel_rfl) (u64_nat (n := z.i.n) (by omega)))<|rX 5 159 rfl rfl (new_ex (.slice (some ⟨W20.heap.size, 0, none⟩) 1 1) #[.int .u64 z.i.n] 24 (by kernel_rfl)) ?_
  rintro _ W25 ⟨rfl, hb11, ch23, sz10⟩
  have zz23 := ch23.size
  refine rK 6 160 (RNat1_any W20.heap.size z.i.n W25 hb11 (by omega)) ?_
  rintro _ W26 ⟨AA12, nn12, cc6, rfl, ow25, hle6, ch24⟩
  have zz24 := ch24.size
  have hq28 := ow25.nc
  have hq29 := ow25.cm
  have hq30 := ow25.byt.1
  have ow26 := Mur.own8 (own_chg ow19.own ch23 (fun q e _ _ => trivial))
  have ow27 := Mur.own8 (own_chg ow26.own ch24 (fun q e _ _ => trivial))
  refine rX 7 161 rfl rfl (Mur.append8 (.tmp 154) (.tmp 160) 22 5 rfl Tryd.underlying22 (by kernel_rfl) W2.heap.size AA8 (nn1 + nn6 + z.p.n) nn8 (((formN f.kind.toNat ++ formN (u64n f.frm) ++ formN (u64n f.dst)) ++ (formN f.gos.kind.toNat ++ formN z.p.n)) ++ f.gos.pre) AA12 nn12 cc6 (formN z.i.n) (by kernel_rfl) (by kernel_rfl) ow27.own ow25.byt ow25.nil (by omega) (by omega) (nn1 + nn6 + z.p.n + nn12) (by omega) ((((formN f.kind.toNat ++ formN (u64n f.frm) ++ formN (u64n f.dst)) ++ (formN f.gos.kind.toNat ++ formN z.p.n)) ++ f.gos.pre) ++ (formN z.i.n)) rfl) ?_
  rintro _ W27 ⟨AA13, nn13, rfl, ow28, ch25, ha7⟩
  have zz25 := ch25.size
  have hq31 := ow28.nc
  have hq32 := ow28.cm
  have lts7 : ∀ k_, (.slice AA13 (nn1 + nn6 + z.p.n + nn12) nn13 : Value).ownBlock = some k_ → (W2.heap.size ≤ k_ ∧ k_ < W27.heap.size) ∧ k_ ≠ W3.heap.size := fun k_ hk_ => ⟨ow28.lt k_ hk_, by rcases ha7 k_ hk_ with h_ | h_ <;> first | (have q_ := lts4 k_ h_; omega) | omega⟩
  refine rP 8 3 (.slice AA13 (nn1 + nn6 + z.p.n + nn12) nn13)<|eN<|wp_seq<|sR<|rP 0 7 (.int .i64 0)<|eN<|wp_block<|?_
  have hbase_ : W2.heap.size ≤ W27.heap.size := by omega
  refine Wk.loop (fun m_ a wr => ∃ (i : Nat) (A1 : Option Addr) (N1 : Nat) (c1 : Nat), m_ = z.i.n - i ∧ a = RBody_F2 a.tmps (.slice A1 N1 c1) (pt W3.heap.size 0) (.int .i64 i) ∧ i ≤ z.i.n ∧ Own8 wr W2.heap.size 5 A1 N1 c1 ((((formN f.kind.toNat ++ formN (u64n f.frm) ++ formN (u64n f.dst)) ++ (formN f.gos.kind.toNat ++ formN z.p.n)) ++ f.gos.pre) ++ (formN z.i.n) ++ ((f.gos.items.take i).map Att.raw).flatten) ∧ wr.heap[W3.heap.size]? = some (.cells (Mur.msgC f.gos.kind z.p.A z.p.n z.p.c f.gos.sum f.gos.cnt z.i.A z.i.n z.i.c f.gos.ans).toArray 32 (0, 0)) ∧ N1 ≤ nn1 + nn6 + z.p.n + nn12 + 104 * i ∧ W2.heap.size ≤ wr.heap.size ∧ (∀ q_, (Value.slice A1 N1 c1).ownBlock = some q_ → q_ ≠ W3.heap.size) ∧ Chg [] w wr) (z.i.n - 0) ?_ ?_
  ·have kk26 := Chg.step kk20 ch18 (newOr_blk (fun g hg => by have := lts3 g hg; omega))
   have kk27 := kA kk26 ch23
   have kk28 := kA kk27 ch24
   have kk29 := Chg.step kk28 ch25 (newOr_blk (fun g hg => by have := lts4 g hg; omega))
   refine ⟨0, AA13, nn1 + nn6 + z.p.n + nn12, nn13, rfl, by kernel_rfl, (by omega), (by rw [List.take_zero]; simp only [List.map_nil, List.flatten_nil, List.append_nil]; exact ow28), (Chg.hp ch25 (qT ch24 (qT ch23 (Chg.hp ch18 (Chg.hp ch17 (qT ch16 (qT ch15 hb8)) (off_blk (fun gz hgz => by have := ow1.lt gz hgz; omega))) (off_blk (fun gz hgz => by have := lts3 gz hgz; omega))))) (off_blk (fun gz hgz => by have := lts4 gz hgz; omega))), (by omega), (by omega), (fun q_ h_ => (lts7 q_ h_).2), kk29⟩
  rintro mm2 aa2 W28 ⟨i, A1, N1, c1, hmm2, hF2, hi, hO, hgb, hN, hbz, hsp, HB⟩
  generalize aa2.tmps = bb2 at hF2
  subst hF2
  have lts0 : ∀ k_, (Value.slice A1 N1 c1).ownBlock = some k_ → (W2.heap.size ≤ k_ ∧ k_ < W28.heap.size) ∧ k_ ≠ W3.heap.size := fun k_ h_ => ⟨hO.lt k_ h_, hsp k_ h_⟩
  have hzB := HB.size
  have hOn := hO.nc
  have hOc := hO.cm
  have hbxl_ := (Array.getElem?_eq_some_iff.1 hgb).1
  by_cases hlt : i < z.i.n
  ·obtain ⟨xa, hxa⟩ : ∃ x_, f.gos.items[i]? = some x_ := ⟨_, List.getElem?_eq_getElem (by omega)⟩
   obtain ⟨g1, o1, hA1_, hr1⟩ := hL.its.slR.row (map_at Mur.attL hxa) (by decide)
   have hg1l_ : g1 < w.heap.size := slr_lt hL.its.slR (by decide) hA1_ (by omega)
   refine wp_seq<|sR<|rP 0 162 (.int .i64 i)<|rP 1 163 (pt W3.heap.size 35)<|rq 2 164 _ rfl (ld 30 163 W3.heap.size 35 (.slice z.i.A z.i.n z.i.c) (show World.cell? _ ⟨_, 0 + 35, _⟩ = _ from msg_items hI.ok.sum (range_row hgb)))<|rP 3 165 (.int .i64 z.i.n)<|bT 4 166 ((i : Int) < (z.i.n : Int))<|eN<|cT<|wp_skip<|nxt<|wp_seq<|wp_block<|reg<|rP 0 169 (.slice A1 N1 c1)<|rP 1 170 (pt W3.heap.size 35)<|rq 2 171 _ rfl (ld 30 170 W3.heap.size 35 (.slice z.i.A z.i.n z.i.c) (show World.cell? _ ⟨_, 0 + 35, _⟩ = _ from msg_items hI.ok.sum (range_row hgb)))<|rP 3 172 (.int .i64 i)<|rq 4 173 (pt g1 (o1 + i * 97)) rfl (index_sl 30 36 (.tmp 171) (.tmp 172) rfl Tryd.underlying30 97 (by kernel_rfl) g1 o1 z.i.n z.i.c i .i64 (by rw [← hA1_]; kernel_rfl) (by kernel_rfl) (by omega))<|rq 5 174 (.agg ((Mur.attC xa.k xa.r xa.n xa.t).toArray)) rfl (lR (o1 + i * 97) (Mur.attC xa.k xa.r xa.n xa.t) (Chg.range HB hr1 trivial) (by rw [attC_length xa.hk xa.hr xa.ht]; kernel_rfl))<|rK 6 175 (Rbytes_any xa.k xa.r xa.t xa.n xa.hk xa.hr xa.ht W28) ?_
   rintro _ W29 ⟨qr1, cr1, RB1, hRB1, rfl, hbr1, hq33, hq34, ch26⟩
   have zz26 := ch26.size
   have hBt1 : ∀ g off, (some ⟨qr1, 0, none⟩ : Option Addr) = some ⟨g, off, none⟩ → W28.heap.size ≤ g ∧ g < W29.heap.size := fun g off e => by cases e; exact hq33
   have ow29 := Mur.own8 (own_chg hO.own ch26 (fun q e _ _ => trivial))
   refine rX 7 176 rfl rfl (Mur.append8 (.tmp 169) (.tmp 175) 22 5 rfl Tryd.underlying22 (by kernel_rfl) W2.heap.size A1 N1 c1 ((((formN f.kind.toNat ++ formN (u64n f.frm) ++ formN (u64n f.dst)) ++ (formN f.gos.kind.toNat ++ formN z.p.n)) ++ f.gos.pre) ++ (formN z.i.n) ++ ((f.gos.items.take i).map Att.raw).flatten) (some ⟨qr1, 0, none⟩) 104 cr1 RB1 (by kernel_rfl) (by kernel_rfl) ow29.own hbr1 (fun h => by cases h) (by omega) (by omega) (N1 + 104) (by omega) (((((formN f.kind.toNat ++ formN (u64n f.frm) ++ formN (u64n f.dst)) ++ (formN f.gos.kind.toNat ++ formN z.p.n)) ++ f.gos.pre) ++ (formN z.i.n) ++ ((f.gos.items.take i).map Att.raw).flatten) ++ RB1) rfl) ?_
   rintro _ W30 ⟨AA14, nn14, rfl, ow30, ch27, ha8⟩
   have zz27 := ch27.size
   have hq35 := ow30.nc
   have hq36 := ow30.cm
   have lts8 : ∀ k_, (.slice AA14 (N1 + 104) nn14 : Value).ownBlock = some k_ → (W2.heap.size ≤ k_ ∧ k_ < W30.heap.size) ∧ k_ ≠ W3.heap.size := fun k_ hk_ => ⟨ow30.lt k_ hk_, by rcases ha8 k_ hk_ with h_ | h_ <;> first | (have q_ := lts0 k_ h_; omega) | omega⟩
   refine rP 8 3 (.slice AA14 (N1 + 104) nn14)<|rE<|inN<|nxt<|reg<|rP 0 167 (.int .i64 i)<|rI 1 168 ((i : Int) + 1) (((i + 1 : Nat) : Int))<|rP 2 7 (.int .i64 (i + 1 : Nat))<|eN<|?_
   have kk30 := kA HB ch26
   have kk31 := Chg.step kk30 ch27 (newOr_blk (fun g hg => by have := lts0 g hg; omega))
   refine ⟨_, ?_, i + 1, AA14, N1 + 104, nn14, rfl, by kernel_rfl, (by omega), (by rw [flat_sn Att.raw hxa, ← List.append_assoc]; rw [show Att.raw xa = RB1 from hRB1.out.symm]; exact own8_low ow30 (by omega)), (Chg.hp ch27 (qT ch26 hgb) (off_blk (fun gz hgz => by have := lts0 gz hgz; omega))), (by omega), (by omega), (fun q_ h_ => (lts8 q_ h_).2), kk31⟩
   omega
  refine wp_seq<|sR<|rP 0 162 (.int .i64 i)<|rP 1 163 (pt W3.heap.size 35)<|rq 2 164 _ rfl (ld 30 163 W3.heap.size 35 (.slice z.i.A z.i.n z.i.c) (show World.cell? _ ⟨_, 0 + 35, _⟩ = _ from msg_items hI.ok.sum (range_row hgb)))<|rP 3 165 (.int .i64 z.i.n)<|bF 4 166 ((i : Int) < (z.i.n : Int))<|eN<|cF<|xX<|nxt<|reg<|rP 0 177 (.slice A1 N1 c1)<|rP 1 178 (pt W3.heap.size 36)<|rq 2 179 _ rfl (ld 4 178 W3.heap.size 36 (.bool f.gos.ans) (show World.cell? _ ⟨_, 0 + 36, _⟩ = _ from Mur.msg_ans hI.ok.sum (range_row hgb)))<|rK 3 180 (RFlag_any f.gos.ans W28) ?_
  rintro _ W31 ⟨rfl, ch28⟩
  have zz28 := ch28.size
  refine rX 4 181 rfl rfl (new_ex (.slice (some ⟨W31.heap.size, 0, none⟩) 1 1) #[.int .u64 (Mur.flagN f.gos.ans : Nat)] 24 (by kernel_rfl)) ?_
  rintro _ W32 ⟨rfl, hb12, ch29, sz11⟩
  have zz29 := ch29.size
  refine rK 5 182 (RNat1_any W31.heap.size (Mur.flagN f.gos.ans) W32 hb12 (by cases f.gos.ans <;> decide)) ?_
  rintro _ W33 ⟨AA15, nn15, cc7, rfl, ow31, hle7, ch30⟩
  have zz30 := ch30.size
  have hq37 := ow31.nc
  have hq38 := ow31.cm
  have hq39 := ow31.byt.1
  have ow32 := Mur.own8 (own_chg hO.own ch28 (fun q e _ _ => trivial))
  have ow33 := Mur.own8 (own_chg ow32.own ch29 (fun q e _ _ => trivial))
  have ow34 := Mur.own8 (own_chg ow33.own ch30 (fun q e _ _ => trivial))
  refine rX 6 183 rfl rfl (Mur.append8 (.tmp 177) (.tmp 182) 22 5 rfl Tryd.underlying22 (by kernel_rfl) W2.heap.size A1 N1 c1 ((((formN f.kind.toNat ++ formN (u64n f.frm) ++ formN (u64n f.dst)) ++ (formN f.gos.kind.toNat ++ formN z.p.n)) ++ f.gos.pre) ++ (formN z.i.n) ++ ((f.gos.items.take i).map Att.raw).flatten) AA15 nn15 cc7 (formN (Mur.flagN f.gos.ans)) (by kernel_rfl) (by kernel_rfl) ow34.own ow31.byt ow31.nil (by omega) (by omega) (N1 + nn15) (by omega) (((((formN f.kind.toNat ++ formN (u64n f.frm) ++ formN (u64n f.dst)) ++ (formN f.gos.kind.toNat ++ formN z.p.n)) ++ f.gos.pre) ++ (formN z.i.n) ++ ((f.gos.items.take i).map Att.raw).flatten) ++ (formN (Mur.flagN f.gos.ans))) rfl) ?_
  rintro _ W34 ⟨AA16, nn16, rfl, ow35, ch31, ha9⟩
  have zz31 := ch31.size
  have hq40 := ow35.nc
  have hq41 := ow35.cm
  have lts9 : ∀ k_, (.slice AA16 (N1 + nn15) nn16 : Value).ownBlock = some k_ → (W2.heap.size ≤ k_ ∧ k_ < W34.heap.size) ∧ k_ ≠ W3.heap.size := fun k_ hk_ => ⟨ow35.lt k_ hk_, by rcases ha9 k_ hk_ with h_ | h_ <;> first | (have q_ := lts0 k_ h_; omega) | omega⟩
  refine rP 7 3 (.slice AA16 (N1 + nn15) nn16)<|rE<|inN<|nxt<|sR<|rP 0 212 (.slice AA16 (N1 + nn15) nn16)<|rP 1 2 (.slice AA16 (N1 + nn15) nn16)<|eN<|wp_ret<|?_
  have hH_ := ow35
  have hgk_ : ¬ f.gos.kind = 1 := fun e_ => by have h_ : f.gos.kind.toNat = 1 := congrArg UInt8.toNat e_; omega
  have hE_ : ((((formN f.kind.toNat ++ formN (u64n f.frm) ++ formN (u64n f.dst)) ++ (formN f.gos.kind.toNat ++ formN z.p.n)) ++ f.gos.pre) ++ (formN z.i.n) ++ ((f.gos.items.take i).map Att.raw).flatten) ++ (formN (Mur.flagN f.gos.ans)) = bodyFM f := by rw [← Mur.bodyB_2i hm hk_ hgk_, u64n_of (n := f.kind.toNat) (by omega), u64n_of (n := f.gos.kind.toNat) (by omega), ← hpl_, List.take_of_length_le (show f.gos.items.length ≤ i by omega), ← hil_] <;> simp only [List.append_assoc]
  rw [hE_] at hH_
  have hbd_ := body_le hm hI.ok
  have hbl_ := hH_.byt.1
  have kk32 := kA HB ch28
  have kk33 := kA kk32 ch29
  have kk34 := kA kk33 ch30
  have kk35 := Chg.step kk34 ch31 (newOr_blk (fun g hg => by have := lts0 g hg; omega))
  refine rt (.slice AA16 (N1 + nn15) nn16) ?_
  exact ⟨_, _, _, rfl, own8_low hH_ (by omega), by omega, kk35⟩
 refine eF 0 122 (f.kind.toNat : Int) (2 : Int)<|rP 1 121 (.bool false)<|eN<|cF<|sR<|?_
 by_cases hx4 : (f.kind.toNat : Int) = (3 : Int)
 ·refine eT 0 185 (f.kind.toNat : Int) (3 : Int)<|rP 1 184 (.bool true)<|eN<|cT<|sR<|?_
  have hk_ : f.kind = 3 := UInt8.toNat_inj.1 (by have h_ : (3 : UInt8).toNat = 3 := rfl; omega)
  have hmk_ := (Mur.mayFM_3 hH4_ hk_).1 hm
  refine rP 0 186 (.slice AA1 nn1 cc1)<|rP 1 187 (pt w.heap.size 45)<|rP 2 188 (pt w.heap.size 45)<|rq 3 189 (.slice (some ⟨w.heap.size, 45, none⟩) 32 32) rfl (arr_slice_at 29 5 (.tmp 188) 32 rfl Tryd.underlying29 (by kernel_rfl) w.heap.size 45 (by kernel_rfl))<|rX 4 190 rfl rfl (Mur.append8 (.tmp 186) (.tmp 189) 22 5 rfl Tryd.underlying22 (by kernel_rfl) W2.heap.size AA1 nn1 cc1 (formN f.kind.toNat ++ formN (u64n f.frm) ++ formN (u64n f.dst)) (some ⟨w.heap.size, 45, none⟩) 32 32 f.cKey (by kernel_rfl) (by kernel_rfl) ow1.own (byt_rng (show World.rangeAt _ _ (0 + 45) _ from segs_row hI.sz (range_row (qT ch3 (qT ch2 hb1))) 14 rfl rfl) hI.ok.key) (fun h => by cases h) (by omega) (by omega) (nn1 + 32) (by omega) ((formN f.kind.toNat ++ formN (u64n f.frm) ++ formN (u64n f.dst)) ++ f.cKey) rfl) ?_
  rintro _ W35 ⟨AA17, nn17, rfl, ow36, ch32, ha10⟩
  have zz32 := ch32.size
  have hq42 := ow36.nc
  have hq43 := ow36.cm
  refine rP 5 3 (.slice AA17 (nn1 + 32) nn17)<|eN<|?_
  refine dReg ((Wk.blk (.slice AA17 (nn1 + 32) nn17))) (by kernel_rfl) ?_
  intro W36 ch33 sz12
  have zz33 := ch33.size
  have sS5 : Chg ((Wk.blk (.slice AA17 (nn1 + 32) nn17))) W36 W36 := (Chg.refl _).more (by simp)
  refine dW 0 191 (.slice AA17 (nn1 + 32) nn17) sS5<|dW 1 192 (pt w.heap.size 45) sS5<|dW 2 193 (pt w.heap.size 78) sS5 ?_
  refine dV 3 194 (.int .u64 f.cInc) rfl rfl (fun w' hw' => fl 24 193 w.heap.size 78 (.int .u64 f.cInc) hI.sz (Chg.hp hw' (qT ch33 (Chg.hp ch32 (qT ch3 (qT ch2 hb1)) (off_blk (fun gz hgz => by have := ow1.lt gz hgz; omega)))) (off_blk (fun gz hgz => by have := ow36.lt gz hgz; omega))) 16) sS5 ?_
  refine dW 4 195 (pt w.heap.size 45) sS5<|dW 5 196 (pt w.heap.size 79) sS5 ?_
  refine dV 6 197 (.int .u64 f.cCnt) rfl rfl (fun w' hw' => fl 24 196 w.heap.size 79 (.int .u64 f.cCnt) hI.sz (Chg.hp hw' (qT ch33 (Chg.hp ch32 (qT ch3 (qT ch2 hb1)) (off_blk (fun gz hgz => by have := ow1.lt gz hgz; omega)))) (off_blk (fun gz hgz => by have := ow36.lt gz hgz; omega))) 17) sS5 ?_
  refine dW 7 198 (pt w.heap.size 45) sS5<|dW 8 199 (pt w.heap.size 80) sS5 ?_
  refine dV 9 200 (.bool f.cGone) rfl rfl (fun w' hw' => fl 4 199 w.heap.size 80 (.bool f.cGone) hI.sz (Chg.hp hw' (qT ch33 (Chg.hp ch32 (qT ch3 (qT ch2 hb1)) (off_blk (fun gz hgz => by have := ow1.lt gz hgz; omega)))) (off_blk (fun gz hgz => by have := ow36.lt gz hgz; omega))) 18) sS5 ?_
  refine dOp 10 (by kernel_rfl) ?_
  refine oK 201 (RFlag_any f.cGone W36) ?_
  rintro _ W37 ⟨rfl, ch34⟩
  have zz34 := ch34.size
  have sS6 := kA sS5 ch34
  refine ⟨sS6, ?_⟩
  refine dOp 11 (by kernel_rfl) ?_
  refine oEx (some 202) _ rfl rfl (by kernel_rfl) (new_ex (.slice (some ⟨W37.heap.size, 0, none⟩) 3 3) #[.int .u64 f.cInc, .int .u64 f.cCnt, .int .u64 (Mur.flagN f.cGone : Nat)] 24 (by kernel_rfl)) ?_
  rintro _ W38 ⟨rfl, hb13, ch35, sz13⟩
  have zz35 := ch35.size
  have sS7 := kA sS6 ch35
  refine ⟨sS7, ?_⟩
  refine dOp 12 (by kernel_rfl) ?_
  refine oK 203 (RNat3_any W37.heap.size f.cInc f.cCnt (Mur.flagN f.cGone) W38 hb13 hI.ok.inc hI.ok.cnt (by cases f.cGone <;> decide)) ?_
  rintro _ W39 ⟨AA18, nn18, cc8, rfl, ow37, hle8, ch36⟩
  have zz36 := ch36.size
  have hq44 := ow37.nc
  have hq45 := ow37.cm
  have hq46 := ow37.byt.1
  have sS8 := kA sS7 ch36
  refine ⟨sS8, ?_⟩
  refine dOp 13 (by kernel_rfl) ?_
  have ow38 := Mur.own8 (own_chg ow36.own ch33 (fun q e _ _ => trivial))
  have ow39 := Mur.own8 (own_chg ow38.own ch34 (fun q e _ _ => trivial))
  have ow40 := Mur.own8 (own_chg ow39.own ch35 (fun q e _ _ => trivial))
  have ow41 := Mur.own8 (own_chg ow40.own ch36 (fun q e _ _ => trivial))
  refine oEx (some 204) _ rfl rfl (by kernel_rfl) (Mur.append8 (.tmp 191) (.tmp 203) 22 5 rfl Tryd.underlying22 (by kernel_rfl) W2.heap.size AA17 (nn1 + 32) nn17 ((formN f.kind.toNat ++ formN (u64n f.frm) ++ formN (u64n f.dst)) ++ f.cKey) AA18 nn18 cc8 (formN f.cInc ++ formN f.cCnt ++ formN (Mur.flagN f.cGone)) (by kernel_rfl) (by kernel_rfl) ow41.own ow37.byt ow37.nil (by omega) (by omega) (nn1 + 32 + nn18) (by omega) (((formN f.kind.toNat ++ formN (u64n f.frm) ++ formN (u64n f.dst)) ++ f.cKey) ++ (formN f.cInc ++ formN f.cCnt ++ formN (Mur.flagN f.cGone))) rfl) ?_
  rintro _ W40 ⟨AA19, nn19, rfl, ow42, ch37, ha11⟩
  have zz37 := ch37.size
  have hq47 := ow42.nc
  have hq48 := ow42.cm
  have sS9 := Chg.step sS8 ch37 (newOr_iff.2 (fun t ht => .inl ht))
  refine ⟨sS9, ?_⟩
  refine dW 14 3 (.slice AA19 (nn1 + 32 + nn18) nn19) sS9 ?_
  refine dE<|inN<|nxt<|sR<|?_
  refine rP 0 212 (.slice AA19 (nn1 + 32 + nn18) nn19)<|rP 1 2 (.slice AA19 (nn1 + 32 + nn18) nn19)<|eN<|wp_ret<|?_
  have hH_ := ow42
  have hE_ : ((formN f.kind.toNat ++ formN (u64n f.frm) ++ formN (u64n f.dst)) ++ f.cKey) ++ (formN f.cInc ++ formN f.cCnt ++ formN (Mur.flagN f.cGone)) = bodyFM f := by rw [← Mur.bodyB_3 hm hk_, u64n_of (n := f.kind.toNat) (by omega)] <;> simp only [List.append_assoc]
  rw [hE_] at hH_
  have hbd_ := body_le hm hI.ok
  have hbl_ := hH_.byt.1
  have kk36 : Chg [] w W1 := zA ch1
  have kk37 := kA kk36 ch2
  have kk38 := kA kk37 ch3
  have kk39 := Chg.step kk38 ch32 (newOr_blk (fun g hg => by have := ow1.lt g hg; omega))
  have kk40 := kA kk39 ch33
  have kk41 := kA kk40 ch34
  have kk42 := kA kk41 ch35
  have kk43 := kA kk42 ch36
  have kk44 := Chg.step kk43 ch37 (newOr_blk (fun g hg => by have := ow36.lt g hg; omega))
  refine rt (.slice AA19 (nn1 + 32 + nn18) nn19) ?_
  exact ⟨_, _, _, rfl, own8_low hH_ (by omega), by omega, kk44⟩
 refine eF 0 185 (f.kind.toNat : Int) (3 : Int)<|rP 1 184 (.bool false)<|eN<|cF<|sR<|?_
 by_cases hx5 : (f.kind.toNat : Int) = (4 : Int)
 ·refine eT 0 206 (f.kind.toNat : Int) (4 : Int)<|rP 1 205 (.bool true)<|eN<|cT<|reg<|?_
  have hk_ : f.kind = 4 := UInt8.toNat_inj.1 (by have h_ : (4 : UInt8).toNat = 4 := rfl; omega)
  have hmk_ := (Mur.mayFM_4 hH4_ hk_).1 hm
  refine rP 0 207 (.slice AA1 nn1 cc1)<|rP 1 208 (pt w.heap.size 81)<|rq 2 209 (.agg ((Mur.attC f.att.k f.att.r f.att.n f.att.t).toArray)) rfl (lR 81 (Mur.attC f.att.k f.att.r f.att.n f.att.t) (show World.rangeAt _ _ (0 + 81) _ from segs_rng hI.sz (range_row (qT ch3 (qT ch2 hb1))) 19 4 Mur.frmL_att rfl) (by rw [attC_length f.att.hk f.att.hr f.att.ht]; kernel_rfl))<|rK 3 210 (Rbytes_any f.att.k f.att.r f.att.t f.att.n f.att.hk f.att.hr f.att.ht W3) ?_
  rintro _ W41 ⟨qr2, cr2, RB2, hRB2, rfl, hbr2, hq49, hq50, ch38⟩
  have zz38 := ch38.size
  have hBt2 : ∀ g off, (some ⟨qr2, 0, none⟩ : Option Addr) = some ⟨g, off, none⟩ → W3.heap.size ≤ g ∧ g < W41.heap.size := fun g off e => by cases e; exact hq49
  have ow43 := Mur.own8 (own_chg ow1.own ch38 (fun q e _ _ => trivial))
  refine rX 4 211 rfl rfl (Mur.append8 (.tmp 207) (.tmp 210) 22 5 rfl Tryd.underlying22 (by kernel_rfl) W2.heap.size AA1 nn1 cc1 (formN f.kind.toNat ++ formN (u64n f.frm) ++ formN (u64n f.dst)) (some ⟨qr2, 0, none⟩) 104 cr2 RB2 (by kernel_rfl) (by kernel_rfl) ow43.own hbr2 (fun h => by cases h) (by omega) (by omega) (nn1 + 104) (by omega) ((formN f.kind.toNat ++ formN (u64n f.frm) ++ formN (u64n f.dst)) ++ RB2) rfl) ?_
  rintro _ W42 ⟨AA20, nn20, rfl, ow44, ch39, ha12⟩
  have zz39 := ch39.size
  have hq51 := ow44.nc
  have hq52 := ow44.cm
  refine rP 5 3 (.slice AA20 (nn1 + 104) nn20)<|rE<|inN<|nxt<|sR<|rP 0 212 (.slice AA20 (nn1 + 104) nn20)<|rP 1 2 (.slice AA20 (nn1 + 104) nn20)<|eN<|wp_ret<|?_
  have hH_ := ow44
  have hE_ : (formN f.kind.toNat ++ formN (u64n f.frm) ++ formN (u64n f.dst)) ++ RB2 = bodyFM f := by rw [← Mur.bodyB_4 hm hk_, u64n_of (n := f.kind.toNat) (by omega), show f.att.raw = RB2 from hRB2.out.symm] <;> simp only [List.append_assoc]
  rw [hE_] at hH_
  have hbd_ := body_le hm hI.ok
  have hbl_ := hH_.byt.1
  have kk45 : Chg [] w W1 := zA ch1
  have kk46 := kA kk45 ch2
  have kk47 := kA kk46 ch3
  have kk48 := kA kk47 ch38
  have kk49 := Chg.step kk48 ch39 (newOr_blk (fun g hg => by have := ow1.lt g hg; omega))
  refine rt (.slice AA20 (nn1 + 104) nn20) ?_
  exact ⟨_, _, _, rfl, own8_low hH_ (by omega), by omega, kk49⟩
 refine eF 0 206 (f.kind.toNat : Int) (4 : Int)<|rP 1 205 (.bool false)<|eN<|cF<|sR<|rP 0 22 (.slice AA1 nn1 cc1)<|rP 1 23 (pt w.heap.size 178)<|rq 2 24 (.slice (some ⟨w.heap.size, 178, none⟩) 32 32) rfl (arr_slice_at 29 5 (.tmp 23) 32 rfl Tryd.underlying29 (by kernel_rfl) w.heap.size 178 (by kernel_rfl))<|rX 3 25 rfl rfl (Mur.append8 (.tmp 22) (.tmp 24) 22 5 rfl Tryd.underlying22 (by kernel_rfl) W2.heap.size AA1 nn1 cc1 (formN f.kind.toNat ++ formN (u64n f.frm) ++ formN (u64n f.dst)) (some ⟨w.heap.size, 178, none⟩) 32 32 f.root (by kernel_rfl) (by kernel_rfl) ow1.own (byt_rng (show World.rangeAt _ _ (0 + 178) _ from segs_row hI.sz (range_row (qT ch3 (qT ch2 hb1))) 23 rfl rfl) hI.ok.root) (fun h => by cases h) (by omega) (by omega) (nn1 + 32) (by omega) ((formN f.kind.toNat ++ formN (u64n f.frm) ++ formN (u64n f.dst)) ++ f.root) rfl) ?_
 rintro _ W43 ⟨AA21, nn21, rfl, ow45, ch40, ha13⟩
 have zz40 := ch40.size
 have hq53 := ow45.nc
 have hq54 := ow45.cm
 refine rP 4 3 (.slice AA21 (nn1 + 32) nn21)<|eN<|sR<|rP 0 26 (.slice AA21 (nn1 + 32) nn21)<|rP 1 27 (pt w.heap.size 210)<|rF 2 28 210 (.int .i64 f.chunk) hI.sz (Chg.hp ch40 (qT ch3 (qT ch2 hb1)) (off_blk (fun gz hgz => by have := ow1.lt gz hgz; omega))) 24<|rq 3 29 (.int .u64 (u64n f.chunk : Nat)) rfl (conv_u64n 3 24 (.tmp 28) rfl (by kernel_rfl) Tryd.underlying24 .i64 f.chunk (by kernel_rfl))<|rX 4 30 rfl rfl (new_ex (.slice (some ⟨W43.heap.size, 0, none⟩) 1 1) #[.int .u64 (u64n f.chunk : Nat)] 24 (by kernel_rfl)) ?_
 rintro _ W44 ⟨rfl, hb14, ch41, sz14⟩
 have zz41 := ch41.size
 refine rK 5 31 (RNat1_any W43.heap.size (u64n f.chunk) W44 hb14 (u64n_lt _)) ?_
 rintro _ W45 ⟨AA22, nn22, cc9, rfl, ow46, hle9, ch42⟩
 have zz42 := ch42.size
 have hq55 := ow46.nc
 have hq56 := ow46.cm
 have hq57 := ow46.byt.1
 have ow47 := Mur.own8 (own_chg ow45.own ch41 (fun q e _ _ => trivial))
 have ow48 := Mur.own8 (own_chg ow47.own ch42 (fun q e _ _ => trivial))
 refine rX 6 32 rfl rfl (Mur.append8 (.tmp 26) (.tmp 31) 22 5 rfl Tryd.underlying22 (by kernel_rfl) W2.heap.size AA21 (nn1 + 32) nn21 ((formN f.kind.toNat ++ formN (u64n f.frm) ++ formN (u64n f.dst)) ++ f.root) AA22 nn22 cc9 (formN (u64n f.chunk)) (by kernel_rfl) (by kernel_rfl) ow48.own ow46.byt ow46.nil (by omega) (by omega) (nn1 + 32 + nn22) (by omega) (((formN f.kind.toNat ++ formN (u64n f.frm) ++ formN (u64n f.dst)) ++ f.root) ++ (formN (u64n f.chunk))) rfl) ?_
 rintro _ W46 ⟨AA23, nn23, rfl, ow49, ch43, ha14⟩
 have zz43 := ch43.size
 have hq58 := ow49.nc
 have hq59 := ow49.cm
 refine rP 7 3 (.slice AA23 (nn1 + 32 + nn22) nn23)<|eN<|sR<|rP 0 33 (pt w.heap.size 0)<|rF 1 34 0 (.int .u8 f.kind.toNat) hI.sz (Chg.hp ch43 (qT ch42 (qT ch41 (Chg.hp ch40 (qT ch3 (qT ch2 hb1)) (off_blk (fun gz hgz => by have := ow1.lt gz hgz; omega))))) (off_blk (fun gz hgz => by have := ow45.lt gz hgz; omega))) 0 ?_
 by_cases hx6 : (f.kind.toNat : Int) = (6 : Int)
 ·refine eT 2 35 (f.kind.toNat : Int) (6 : Int)<|eN<|cT<|sR<|?_
  have hk_ : f.kind = 6 := UInt8.toNat_inj.1 (by have h_ : (6 : UInt8).toNat = 6 := rfl; omega)
  have hmk_ := (Mur.mayFM_6 hH4_ hk_).1 hm
  have hy6_ := hmk_.2.1
  have hf6_ := hmk_.2.2
  refine rP 0 36 (.slice AA23 (nn1 + 32 + nn22) nn23)<|rP 1 37 (pt w.heap.size 211)<|rF 2 38 211 (.slice z.y.A z.y.n z.y.c) hI.sz (Chg.hp ch43 (qT ch42 (qT ch41 (Chg.hp ch40 (qT ch3 (qT ch2 hb1)) (off_blk (fun gz hgz => by have := ow1.lt gz hgz; omega))))) (off_blk (fun gz hgz => by have := ow45.lt gz hgz; omega))) 25<|rP 3 39 (.int .i64 z.y.n)<|rq 4 40 (.int .u64 z.y.n) rfl (conv_int 3 24 (.tmp 39) rfl (by kernel_rfl) .u64 Tryd.underlying24 .i64 (z.y.n : Int) (by kernel_rfl) (u64_nat (n := z.y.n) (by omega)))<|rX 5 41 rfl rfl (new_ex (.slice (some ⟨W46.heap.size, 0, none⟩) 1 1) #[.int .u64 z.y.n] 24 (by kernel_rfl)) ?_
  rintro _ W47 ⟨rfl, hb15, ch44, sz15⟩
  have zz44 := ch44.size
  refine rK 6 42 (RNat1_any W46.heap.size z.y.n W47 hb15 (by omega)) ?_
  rintro _ W48 ⟨AA24, nn24, cc10, rfl, ow50, hle10, ch45⟩
  have zz45 := ch45.size
  have hq60 := ow50.nc
  have hq61 := ow50.cm
  have hq62 := ow50.byt.1
  have ow51 := Mur.own8 (own_chg ow49.own ch44 (fun q e _ _ => trivial))
  have ow52 := Mur.own8 (own_chg ow51.own ch45 (fun q e _ _ => trivial))
  refine rX 7 43 rfl rfl (Mur.append8 (.tmp 36) (.tmp 42) 22 5 rfl Tryd.underlying22 (by kernel_rfl) W2.heap.size AA23 (nn1 + 32 + nn22) nn23 (((formN f.kind.toNat ++ formN (u64n f.frm) ++ formN (u64n f.dst)) ++ f.root) ++ (formN (u64n f.chunk))) AA24 nn24 cc10 (formN z.y.n) (by kernel_rfl) (by kernel_rfl) ow52.own ow50.byt ow50.nil (by omega) (by omega) (nn1 + 32 + nn22 + nn24) (by omega) ((((formN f.kind.toNat ++ formN (u64n f.frm) ++ formN (u64n f.dst)) ++ f.root) ++ (formN (u64n f.chunk))) ++ (formN z.y.n)) rfl) ?_
  rintro _ W49 ⟨AA25, nn25, rfl, ow53, ch46, ha15⟩
  have zz46 := ch46.size
  have hq63 := ow53.nc
  have hq64 := ow53.cm
  refine rP 8 3 (.slice AA25 (nn1 + 32 + nn22 + nn24) nn25)<|eN<|sR<|rP 0 44 (.slice AA25 (nn1 + 32 + nn22 + nn24) nn25)<|rP 1 45 (pt w.heap.size 211)<|rF 2 46 211 (.slice z.y.A z.y.n z.y.c) hI.sz (Chg.hp ch46 (qT ch45 (qT ch44 (Chg.hp ch43 (qT ch42 (qT ch41 (Chg.hp ch40 (qT ch3 (qT ch2 hb1)) (off_blk (fun gz hgz => by have := ow1.lt gz hgz; omega))))) (off_blk (fun gz hgz => by have := ow45.lt gz hgz; omega))))) (off_blk (fun gz hgz => by have := ow49.lt gz hgz; omega))) 25 ?_
  have kk50 : Chg [] w W1 := zA ch1
  have kk51 := kA kk50 ch2
  have kk52 := kA kk51 ch3
  have kk53 := Chg.step kk52 ch40 (newOr_blk (fun g hg => by have := ow1.lt g hg; omega))
  have kk54 := kA kk53 ch41
  have kk55 := kA kk54 ch42
  have kk56 := Chg.step kk55 ch43 (newOr_blk (fun g hg => by have := ow45.lt g hg; omega))
  have kk57 := kA kk56 ch44
  have kk58 := kA kk57 ch45
  have kk59 := Chg.step kk58 ch46 (newOr_blk (fun g hg => by have := ow49.lt g hg; omega))
  refine rX 3 47 rfl rfl (Mur.append8 (.tmp 44) (.tmp 46) 22 5 rfl Tryd.underlying22 (by kernel_rfl) W2.heap.size AA25 (nn1 + 32 + nn22 + nn24) nn25 ((((formN f.kind.toNat ++ formN (u64n f.frm) ++ formN (u64n f.dst)) ++ f.root) ++ (formN (u64n f.chunk))) ++ (formN z.y.n)) z.y.A z.y.n z.y.c f.byt (by kernel_rfl) (by kernel_rfl) ow53.own (byt_chg hL.byt kk59 (fun g off e hl => trivial)) hL.ny.nil (by omega) (by omega) (nn1 + 32 + nn22 + nn24 + z.y.n) (by omega) (((((formN f.kind.toNat ++ formN (u64n f.frm) ++ formN (u64n f.dst)) ++ f.root) ++ (formN (u64n f.chunk))) ++ (formN z.y.n)) ++ f.byt) rfl) ?_
  rintro _ W50 ⟨AA26, nn26, rfl, ow54, ch47, ha16⟩
  have zz47 := ch47.size
  have hq65 := ow54.nc
  have hq66 := ow54.cm
  refine rP 4 3 (.slice AA26 (nn1 + 32 + nn22 + nn24 + z.y.n) nn26)<|eN<|sR<|rP 0 48 (.slice AA26 (nn1 + 32 + nn22 + nn24 + z.y.n) nn26)<|rP 1 49 (pt w.heap.size 212)<|rF 2 50 212 (.slice z.f.A z.f.n z.f.c) hI.sz (Chg.hp ch47 (Chg.hp ch46 (qT ch45 (qT ch44 (Chg.hp ch43 (qT ch42 (qT ch41 (Chg.hp ch40 (qT ch3 (qT ch2 hb1)) (off_blk (fun gz hgz => by have := ow1.lt gz hgz; omega))))) (off_blk (fun gz hgz => by have := ow45.lt gz hgz; omega))))) (off_blk (fun gz hgz => by have := ow49.lt gz hgz; omega))) (off_blk (fun gz hgz => by have := ow53.lt gz hgz; omega))) 26<|rP 3 51 (.int .i64 z.f.n)<|rq 4 52 (.int .u64 z.f.n) rfl (conv_int 3 24 (.tmp 51) rfl (by kernel_rfl) .u64 Tryd.underlying24 .i64 (z.f.n : Int) (by kernel_rfl) (u64_nat (n := z.f.n) (by omega)))<|rX 5 53 rfl rfl (new_ex (.slice (some ⟨W50.heap.size, 0, none⟩) 1 1) #[.int .u64 z.f.n] 24 (by kernel_rfl)) ?_
  rintro _ W51 ⟨rfl, hb16, ch48, sz16⟩
  have zz48 := ch48.size
  refine rK 6 54 (RNat1_any W50.heap.size z.f.n W51 hb16 (by omega)) ?_
  rintro _ W52 ⟨AA27, nn27, cc11, rfl, ow55, hle11, ch49⟩
  have zz49 := ch49.size
  have hq67 := ow55.nc
  have hq68 := ow55.cm
  have hq69 := ow55.byt.1
  have ow56 := Mur.own8 (own_chg ow54.own ch48 (fun q e _ _ => trivial))
  have ow57 := Mur.own8 (own_chg ow56.own ch49 (fun q e _ _ => trivial))
  refine rX 7 55 rfl rfl (Mur.append8 (.tmp 48) (.tmp 54) 22 5 rfl Tryd.underlying22 (by kernel_rfl) W2.heap.size AA26 (nn1 + 32 + nn22 + nn24 + z.y.n) nn26 (((((formN f.kind.toNat ++ formN (u64n f.frm) ++ formN (u64n f.dst)) ++ f.root) ++ (formN (u64n f.chunk))) ++ (formN z.y.n)) ++ f.byt) AA27 nn27 cc11 (formN z.f.n) (by kernel_rfl) (by kernel_rfl) ow57.own ow55.byt ow55.nil (by omega) (by omega) (nn1 + 32 + nn22 + nn24 + z.y.n + nn27) (by omega) ((((((formN f.kind.toNat ++ formN (u64n f.frm) ++ formN (u64n f.dst)) ++ f.root) ++ (formN (u64n f.chunk))) ++ (formN z.y.n)) ++ f.byt) ++ (formN z.f.n)) rfl) ?_
  rintro _ W53 ⟨AA28, nn28, rfl, ow58, ch50, ha17⟩
  have zz50 := ch50.size
  have hq70 := ow58.nc
  have hq71 := ow58.cm
  refine rP 8 3 (.slice AA28 (nn1 + 32 + nn22 + nn24 + z.y.n + nn27) nn28)<|eN<|sR<|rP 0 8 (.int .i64 0)<|eN<|wp_block<|?_
  have hbase_ : W2.heap.size ≤ W53.heap.size := by omega
  refine Wk.loop (fun m_ a wr => ∃ (i : Nat) (A1 : Option Addr) (N1 : Nat) (c1 : Nat), m_ = z.f.n - i ∧ a = RBody_F3 a.tmps (pt w.heap.size 0) (.slice A1 N1 c1) (.int .i64 i) ∧ i ≤ z.f.n ∧ Own8 wr W2.heap.size 5 A1 N1 c1 ((((((formN f.kind.toNat ++ formN (u64n f.frm) ++ formN (u64n f.dst)) ++ f.root) ++ (formN (u64n f.chunk))) ++ (formN z.y.n)) ++ f.byt) ++ (formN z.f.n) ++ ((f.prf.take i).map (fun x : List UInt8 => x)).flatten) ∧ wr.heap[w.heap.size]? = some (.cells (frmP f z).flatten.toArray 39 (0, 0)) ∧ N1 ≤ nn1 + 32 + nn22 + nn24 + z.y.n + nn27 + 32 * i ∧ W2.heap.size ≤ wr.heap.size ∧ Chg [] w wr) (z.f.n - 0) ?_ ?_
  ·have kk60 := Chg.step kk59 ch47 (newOr_blk (fun g hg => by have := ow53.lt g hg; omega))
   have kk61 := kA kk60 ch48
   have kk62 := kA kk61 ch49
   have kk63 := Chg.step kk62 ch50 (newOr_blk (fun g hg => by have := ow54.lt g hg; omega))
   refine ⟨0, AA28, nn1 + 32 + nn22 + nn24 + z.y.n + nn27, nn28, rfl, by kernel_rfl, (by omega), (by rw [List.take_zero]; simp only [List.map_nil, List.flatten_nil, List.append_nil]; exact ow58), (Chg.hp ch50 (qT ch49 (qT ch48 (Chg.hp ch47 (Chg.hp ch46 (qT ch45 (qT ch44 (Chg.hp ch43 (qT ch42 (qT ch41 (Chg.hp ch40 (qT ch3 (qT ch2 hb1)) (off_blk (fun gz hgz => by have := ow1.lt gz hgz; omega))))) (off_blk (fun gz hgz => by have := ow45.lt gz hgz; omega))))) (off_blk (fun gz hgz => by have := ow49.lt gz hgz; omega))) (off_blk (fun gz hgz => by have := ow53.lt gz hgz; omega))))) (off_blk (fun gz hgz => by have := ow54.lt gz hgz; omega))), (by omega), (by omega), kk63⟩
  rintro mm3 aa3 W54 ⟨i, A1, N1, c1, hmm3, hF3, hi, hO, hgb, hN, hbz, HB⟩
  generalize aa3.tmps = bb3 at hF3
  subst hF3
  have hzB := HB.size
  have hOn := hO.nc
  have hOc := hO.cm
  have hbxl_ := (Array.getElem?_eq_some_iff.1 hgb).1
  by_cases hlt : i < z.f.n
  ·obtain ⟨xa, hxa⟩ : ∃ x_, f.prf[i]? = some x_ := ⟨_, List.getElem?_eq_getElem (by omega)⟩
   obtain ⟨g1, o1, hA1_, hr1⟩ := hL.prf.row (map_at b8s hxa) (by decide)
   have hg1l_ : g1 < w.heap.size := slr_lt hL.prf (by decide) hA1_ (by omega)
   refine wp_seq<|sR<|rP 0 56 (.int .i64 i)<|rP 1 57 (pt w.heap.size 212)<|rF 2 58 212 (.slice z.f.A z.f.n z.f.c) hI.sz hgb 26<|rP 3 59 (.int .i64 z.f.n)<|bT 4 60 ((i : Int) < (z.f.n : Int))<|eN<|cT<|wp_skip<|nxt<|wp_seq<|wp_block<|reg<|rP 0 63 (.slice A1 N1 c1)<|rP 1 64 (pt w.heap.size 212)<|rF 2 65 212 (.slice z.f.A z.f.n z.f.c) hI.sz hgb 26<|rP 3 66 (.int .i64 i)<|rq 4 67 (pt g1 (o1 + i * 32)) rfl (index_sl 37 29 (.tmp 65) (.tmp 66) rfl Tryd.underlying37 32 (by kernel_rfl) g1 o1 z.f.n z.f.c i .i64 (by rw [← hA1_]; kernel_rfl) (by kernel_rfl) (by omega))<|rq 5 68 (.slice (some ⟨g1, o1 + i * 32, none⟩) 32 32) rfl (arr_slice_at 29 5 (.tmp 67) 32 rfl Tryd.underlying29 (by kernel_rfl) g1 (o1 + i * 32) (by kernel_rfl))<|rX 6 69 rfl rfl (Mur.append8 (.tmp 63) (.tmp 68) 22 5 rfl Tryd.underlying22 (by kernel_rfl) W2.heap.size A1 N1 c1 ((((((formN f.kind.toNat ++ formN (u64n f.frm) ++ formN (u64n f.dst)) ++ f.root) ++ (formN (u64n f.chunk))) ++ (formN z.y.n)) ++ f.byt) ++ (formN z.f.n) ++ ((f.prf.take i).map (fun x : List UInt8 => x)).flatten) (some ⟨g1, o1 + i * 32, none⟩) 32 32 xa (by kernel_rfl) (by kernel_rfl) hO.own (byt_rng (Chg.range HB hr1 trivial) (hI.ok.prf xa (List.mem_of_getElem? hxa))) (fun h => by cases h) (by omega) (by omega) (N1 + 32) (by omega) (((((((formN f.kind.toNat ++ formN (u64n f.frm) ++ formN (u64n f.dst)) ++ f.root) ++ (formN (u64n f.chunk))) ++ (formN z.y.n)) ++ f.byt) ++ (formN z.f.n) ++ ((f.prf.take i).map (fun x : List UInt8 => x)).flatten) ++ xa) rfl) ?_
   rintro _ W55 ⟨AA29, nn29, rfl, ow59, ch51, ha18⟩
   have zz51 := ch51.size
   have hq72 := ow59.nc
   have hq73 := ow59.cm
   refine rP 7 3 (.slice AA29 (N1 + 32) nn29)<|rE<|inN<|nxt<|reg<|rP 0 61 (.int .i64 i)<|rI 1 62 ((i : Int) + 1) (((i + 1 : Nat) : Int))<|rP 2 8 (.int .i64 (i + 1 : Nat))<|eN<|?_
   have kk64 := Chg.step HB ch51 (newOr_blk (fun g hg => by have := hO.lt g hg; omega))
   refine ⟨_, ?_, i + 1, AA29, N1 + 32, nn29, rfl, by kernel_rfl, (by omega), (by rw [flat_sn (fun x : List UInt8 => x) hxa, ← List.append_assoc]; exact own8_low ow59 (by omega)), (Chg.hp ch51 hgb (off_blk (fun gz hgz => by have := hO.lt gz hgz; omega))), (by omega), (by omega), kk64⟩
   omega
  refine wp_seq<|sR<|rP 0 56 (.int .i64 i)<|rP 1 57 (pt w.heap.size 212)<|rF 2 58 212 (.slice z.f.A z.f.n z.f.c) hI.sz hgb 26<|rP 3 59 (.int .i64 z.f.n)<|bF 4 60 ((i : Int) < (z.f.n : Int))<|eN<|cF<|xX<|inN<|nxt<|sR<|rP 0 212 (.slice A1 N1 c1)<|rP 1 2 (.slice A1 N1 c1)<|eN<|wp_ret<|?_
  have hH_ := hO
  have hE_ : (((((formN f.kind.toNat ++ formN (u64n f.frm) ++ formN (u64n f.dst)) ++ f.root) ++ (formN (u64n f.chunk))) ++ (formN z.y.n)) ++ f.byt) ++ (formN z.f.n) ++ ((f.prf.take i).map (fun x : List UInt8 => x)).flatten = bodyFM f := by rw [← Mur.bodyB_6 hm hk_, u64n_of (n := f.kind.toNat) (by omega), List.take_of_length_le (show f.prf.length ≤ i by omega), ← hyl_, ← hfl_] <;> simp only [List.append_assoc]
  rw [hE_] at hH_
  have hbd_ := body_le hm hI.ok
  have hbl_ := hH_.byt.1
  refine rt (.slice A1 N1 c1) ?_
  exact ⟨_, _, _, rfl, own8_low hH_ (by omega), by omega, HB⟩
 refine eF 2 35 (f.kind.toNat : Int) (6 : Int)<|eN<|cF<|wp_skip<|inN<|nxt<|sR<|rP 0 212 (.slice AA23 (nn1 + 32 + nn22) nn23)<|rP 1 2 (.slice AA23 (nn1 + 32 + nn22) nn23)<|eN<|wp_ret<|?_
 have hH_ := ow49
 have hk_ : f.kind = 5 := UInt8.toNat_inj.1 (by have h_ : (5 : UInt8).toNat = 5 := rfl; omega)
 have hE_ : ((formN f.kind.toNat ++ formN (u64n f.frm) ++ formN (u64n f.dst)) ++ f.root) ++ (formN (u64n f.chunk)) = bodyFM f := by rw [← Mur.bodyB_5 hm hk_, u64n_of (n := f.kind.toNat) (by omega)] <;> simp only [List.append_assoc]
 rw [hE_] at hH_
 have hbd_ := body_le hm hI.ok
 have hbl_ := hH_.byt.1
 have kk65 : Chg [] w W1 := zA ch1
 have kk66 := kA kk65 ch2
 have kk67 := kA kk66 ch3
 have kk68 := Chg.step kk67 ch40 (newOr_blk (fun g hg => by have := ow1.lt g hg; omega))
 have kk69 := kA kk68 ch41
 have kk70 := kA kk69 ch42
 have kk71 := Chg.step kk70 ch43 (newOr_blk (fun g hg => by have := ow45.lt g hg; omega))
 refine rt (.slice AA23 (nn1 + 32 + nn22) nn23) ?_
 exact ⟨_, _, _, rfl, own8_low hH_ (by omega), by omega, kk71⟩
end Go.Proofs.YtgbadghjnpbiaaaDoor
namespace Go.Proofs.YtgbadghjnpbiaaaDoor
open Go.RowKit Wk
open Mur (b8s Byt Own8 Seg Segs flat cutA attC Att SlA OwnA rowA msgC Frm bytesFM LiesF frmP hmac_length frmL_size frmL_sz byt_chg bodyFM frmL_all segs_cell run_eql_yes run_eql_no headM frmIn_head)
set_option maxRecDepth 100000
set_option maxHeartbeats 4000000
theorem bytes_le {T : List UInt8 → List UInt8} {f : Frm} (h : Mur.mayFM f) (o : Mur.FrmOk f) (hT : ∀ b, (T b).length = 32) : (bytesFM T f).length ≤ 2000 := by
 have := Mur.body_le h o
 unfold bytesFM
 rw [List.length_append]
 split
 ·rw [hT]
  omega
 rw [List.length_nil]
 omega
theorem Secret_any (s : List UInt8) (A : Option Addr) (n c : Nat) (s2 : List UInt8) (B : Option Addr) (m d : Nat) (f : Frm) (z : Mur.Zs) (w : World) (hv : ShaVars w) (hb : Byt w A n s) (hnc : n ≤ c) (hcm : c ≤ Go.maxLen) (ha : A = none → c = 0) (hbB : Byt w B m s2) (hmd : m ≤ d) (hdm : d ≤ Go.maxLen) (hbn : B = none → d = 0) (hL : LiesF w z f) (hI : Mur.FrmIn f) : Calls Tryd.prog 4 #[.slice A n c, .slice B m d, .agg (frmP f z).flatten.toArray] w fun e w' => e = .returned (.bool true) ∧ Below w.heap.size w w' := by
 have HV := Go.Lib.hid hv
 clear hv
 have HBY := Go.Lib.hid hb
 clear hb
 have HA := Go.Lib.hid ha
 clear ha
 obtain ⟨T, hTs⟩ : ∃ T : List UInt8 → List UInt8, ∀ x, T x = Mur.hmac s (18 :: x) := ⟨_, fun _ => rfl⟩
 have hTsl : ∀ x, (T x).length = 32 := fun x => by rw [hTs]; exact hmac_length _ _
 obtain ⟨T2, hTs2⟩ : ∃ T : List UInt8 → List UInt8, ∀ x, T x = Mur.hmac s2 (18 :: x) := ⟨_, fun _ => rfl⟩
 have hTs2l : ∀ x, (T2 x).length = 32 := fun x => by rw [hTs2]; exact hmac_length _ _
 have hml_ : Go.maxLen = 9223372036854775807 := rfl
 have hLin_ : z.In fun g => g < w.heap.size → Wk.Off g [] := ⟨fun _ _ _ _ => trivial, fun _ _ _ _ => trivial, fun _ _ _ _ => trivial, fun _ _ _ _ => trivial, fun _ _ _ _ => trivial⟩
 have hLunc_ := hL.nu.nc
 have hLucm_ := hL.nu.cm
 have hLpnc_ := hL.np.nc
 have hLpcm_ := hL.np.cm
 have hLinc_ := hL.ni.nc
 have hLicm_ := hL.ni.cm
 have hLync_ := hL.ny.nc
 have hLycm_ := hL.ny.cm
 have hLfnc_ := hL.nf.nc
 have hLfcm_ := hL.nf.cm
 have hbl_ := hbB.1
 refine calls_of_wp Tryd.func4 rfl ?_
 refine sR<|nW 0 5 ((frmP f z).flatten.toArray) 39 fun W1 hb1 ch1 sz1 => rP 1 6 (.bool false)<|eN<|wp_seq<|sR<|rP 0 13 (.slice A n c)<|rP 1 14 (.int .i64 n) ?_
 by_cases hx1 : (n : Int) > (100 : Int)
 ·refine bT 2 15 ((n : Int) > (100 : Int))<|rP 3 16 (.bool true)<|rZ 4 17<|rZ 5 18<|rZ 6 19<|rP 7 20 (.bool true)<|rP 8 21 (.bool true)<|rZ 9 22<|rZ 10 23<|rP 11 24 (.bool true)<|eN<|cT<|sR<|?_
  have kk1 : Chg [] w W1 := zA ch1
  refine rK 0 25 (Known25_any W1 (HV.out.below (Chg.below0 kk1))) ?_
  rintro _ W2 ⟨rfl, ch2⟩
  have zz2 := ch2.size
  refine rP 1 6 (.bool true)<|eN<|tR<|?_
  have kk2 := kA kk1 ch2
  refine rt (.bool true) ?_
  exact ⟨rfl, Chg.below0 kk2⟩
 refine bF 2 15 ((n : Int) > (100 : Int))<|rP 3 16 (.bool false)<|rP 4 17 (.slice B m d)<|rP 5 18 (.int .i64 m) ?_
 by_cases hx2 : (m : Int) > (100 : Int)
 ·refine bT 6 19 ((m : Int) > (100 : Int))<|rP 7 20 (.bool true)<|rP 8 21 (.bool true)<|rZ 9 22<|rZ 10 23<|rP 11 24 (.bool true)<|eN<|cT<|sR<|?_
  have kk3 : Chg [] w W1 := zA ch1
  refine rK 0 25 (Known25_any W1 (HV.out.below (Chg.below0 kk3))) ?_
  rintro _ W3 ⟨rfl, ch3⟩
  have zz3 := ch3.size
  refine rP 1 6 (.bool true)<|eN<|tR<|?_
  have kk4 := kA kk3 ch3
  refine rt (.bool true) ?_
  exact ⟨rfl, Chg.below0 kk4⟩
 refine bF 6 19 ((m : Int) > (100 : Int))<|rP 7 20 (.bool false)<|rP 8 21 (.bool false)<|rq 9 22 (.agg ((frmP f z).flatten.toArray)) rfl (lA hb1 (frmL_size hI.sz))<|rK 10 23 (Great_any f z W1 hI) ?_
 rintro _ W4 ⟨bv1, rfl, ch4⟩
 have zz4 := ch4.size
 cases bv1
 ·refine rP 11 24 (.bool false)<|eN<|cF<|wp_skip<|nxt<|sR<|rP 0 27 (.slice A n c)<|rq 1 28 (.agg ((frmP f z).flatten.toArray)) rfl (lA (qT ch4 hb1) (frmL_size hI.sz)) ?_
  have kk5 : Chg [] w W1 := zA ch1
  have kk6 := kA kk5 ch4
  refine rK 2 29 (BytesF_any s A n c T f z W4 (HV.out.below (Chg.below0 kk6)) (byt_chg HBY.out kk6 (fun g off e hl => trivial)) ⟨by omega, by omega⟩ HA.out (by omega) hTs hTsl (LiesF.chg hL kk6 hLin_) hI) ?_
  rintro _ W5 ⟨AA1, nn1, cc1, er1, rfl, hc1, ch5⟩
  have zz5 := ch5.size
  rcases hc1 with ⟨hmy1, rfl, ow1⟩ | ⟨hmy1, rfl, rfl, rfl, rfl⟩
  ·have hq1 := ow1.nc
   have hq2 := ow1.cm
   have hq3 := ow1.byt.1
   have hbl5_ := bytes_le (T := T) hmy1 hI.ok hTsl
   have hrb_ := Mur.read_bytes (T := T) T2 hmy1 hI.ok hTsl hbl5_
   refine rP 3 26 (.tuple #[.slice AA1 nn1 cc1, .int .i64 0])<|rP 4 30 (.slice AA1 nn1 cc1)<|rP 5 31 (.int .i64 0)<|rP 6 7 (.slice AA1 nn1 cc1)<|rP 7 8 (.int .i64 0)<|eN<|wp_seq<|sR<|rP 0 32 (.int .i64 0)<|nF 1 33 (0 : Int) (0 : Int)<|eN<|cF<|wp_skip<|nxt<|sR<|rP 0 36 (.slice B m d)<|rP 1 37 (.slice AA1 nn1 cc1) ?_
   have kk7 := kA kk6 ch5
   refine rK 2 38 (ReadF_any s2 B m d T2 (bytesFM T f) AA1 nn1 cc1 W5 (HV.out.below (Chg.below0 kk7)) (byt_chg hbB kk7 (fun g off e hl => trivial)) ⟨by omega, by omega⟩ hbn (by omega) hTs2 hTs2l ow1.byt ⟨by omega, by omega⟩ ow1.nil) ?_
   rintro _ W6 ⟨FF1, ZZ1, er2, rfl, hLs1, hZin1, hc2, ch6⟩
   have zz6 := ch6.size
   rcases hc2 with ⟨rfl, htd1, hIn1⟩ | ⟨rfl, htd1, rfl⟩ | ⟨rfl, htd1, rfl⟩ | ⟨rfl, htd1, rfl⟩
   ·rw [hrb_] at htd1
    have hcd_ : ¬ (f.kind.toNat ≤ 4 ∧ T (bodyFM f) ≠ T2 (bodyFM f)) := fun q_ => by rw [if_pos q_] at htd1; cases htd1
    have hFf_ : f = FF1 := by rw [if_neg hcd_] at htd1; injection htd1
    subst hFf_
    refine rP 3 35 (.tuple #[.agg ((frmP f ZZ1).flatten.toArray), .int .i64 0])<|rP 4 39 (.agg ((frmP f ZZ1).flatten.toArray))<|rP 5 40 (.int .i64 0)<|nW 6 9 ((frmh 0 0 0).flatten.toArray) 39 fun W7 hb2 ch7 sz2 => rU 7 rfl (sA (frmP f ZZ1).flatten.toArray (frmL_size hI.sz) hb2 (frmL_size (frmL_sz rfl rfl rfl rfl rfl rfl))) fun W8 hb3 ch8 zz8 => rP 8 10 (.int .i64 0)<|eN<|wp_seq<|sR<|rP 0 41 (pt w.heap.size 0)<|rF 1 42 0 (.int .u8 f.kind.toNat) hI.sz (qO ch8 (qT ch7 (qT ch6 (qT ch5 (qT ch4 hb1))))) 0 ?_
    by_cases hx3 : (f.kind.toNat : Int) > (4 : Int)
    ·refine bT 2 43 ((f.kind.toNat : Int) > (4 : Int))<|eN<|cT<|sR<|rP 0 44 (.int .i64 0)<|eT 1 45 (0 : Int) (0 : Int)<|rP 2 46 (.bool true)<|rq 3 47 (.agg ((frmP f z).flatten.toArray)) rfl (lA (qO ch8 (qT ch7 (qT ch6 (qT ch5 (qT ch4 hb1))))) (frmL_size hI.sz))<|rq 4 48 (.agg ((frmP f ZZ1).flatten.toArray)) rfl (lA hb3 (frmL_size hI.sz)) ?_
     have kk8 := kA kk7 ch6
     have kk9 := kA kk8 ch7
     have kk10 := kB kk9 ch8
     have kk11 : Chg [] (W6) W7 := zA ch7
     have kk12 := kB kk11 ch8
     refine rK 5 49 (Same_any f z f ZZ1 W8 (LiesF.chg hL kk10 hLin_) hI (LiesF.chg hLs1 kk12 ⟨fun _ _ _ _ => trivial, fun _ _ _ _ => trivial, fun _ _ _ _ => trivial, fun _ _ _ _ => trivial, fun _ _ _ _ => trivial⟩) hI) ?_
     rintro _ W10 ⟨bv2, rfl, hif1, ch9⟩
     have zz9 := ch9.size
     cases bv2
     ·refine rP 6 50 (.bool false)<|rP 7 51 (.bool false)<|rZ 8 52<|rP 9 53 (.bool false)<|rP 10 6 (.bool false)<|eN<|tR<|?_
      exact absurd rfl (fun q_ => Bool.noConfusion (hif1.2 q_))
     refine rP 6 50 (.bool true)<|rP 7 51 (.bool true) ?_
     have kk13 := kA kk10 ch9
     refine rK 8 52 (Known25_any W10 (HV.out.below (Chg.below0 kk13))) ?_
     rintro _ W11 ⟨rfl, ch10⟩
     have zz10 := ch10.size
     refine rP 9 53 (.bool true)<|rP 10 6 (.bool true)<|eN<|tR<|?_
     have kk14 := kA kk13 ch10
     refine rt (.bool true) ?_
     exact ⟨rfl, Chg.below0 kk14⟩
    refine bF 2 43 ((f.kind.toNat : Int) > (4 : Int))<|eN<|cF<|wp_skip<|nxt<|sR<|rq 0 54 (.agg ((frmP f z).flatten.toArray)) rfl (lA (qO ch8 (qT ch7 (qT ch6 (qT ch5 (qT ch4 hb1))))) (frmL_size hI.sz)) ?_
    have kk15 := kA kk7 ch6
    have kk16 := kA kk15 ch7
    have kk17 := kB kk16 ch8
    refine rK 1 55 (RBody_any f z W8 (LiesF.chg hL kk17 hLin_) hI hmy1) ?_
    rintro _ W12 ⟨AA2, nn2, cc2, rfl, ow2, hle1, ch11⟩
    have zz11 := ch11.size
    have hq4 := ow2.nc
    have hq5 := ow2.cm
    have hq6 := ow2.byt.1
    refine rK 2 56 (RTagged_any (bodyFM f) AA2 nn2 cc2 W12 ow2.byt ⟨by omega, by omega⟩ ow2.nil (by omega)) ?_
    rintro _ W13 ⟨AA3, nn3, cc3, rfl, ow3, ch12⟩
    have zz12 := ch12.size
    have hq7 := ow3.nc
    have hq8 := ow3.cm
    have hq9 := ow3.byt.1
    have hlc1 : (18 :: bodyFM f).length = (bodyFM f).length + 1 := List.length_cons
    refine rP 3 11 (.slice AA3 nn3 cc3)<|eN<|sR<|rP 0 57 (.slice A n c)<|rP 1 58 (.slice AA3 nn3 cc3) ?_
    have kk18 := kA kk17 ch11
    have kk19 := kA kk18 ch12
    refine rK 2 59 (Rtag_any s A n c (18 :: bodyFM f) AA3 nn3 cc3 W13 (byt_chg HBY.out kk19 (fun g off e hl => trivial)) (by omega) HA.out (by omega) ow3.byt ow3.nil (by omega)) ?_
    rintro _ W14 ⟨dd1, hd1, hdl1, rfl, ch13⟩
    have zz13 := ch13.size
    refine rP 3 60 (.slice B m d)<|rP 4 61 (.slice AA3 nn3 cc3) ?_
    have kk20 := kA kk19 ch13
    have ow4 := Mur.own8 (own_chg ow3.own ch13 (fun q e _ _ => trivial))
    refine rK 5 62 (Rtag_any s2 B m d (18 :: bodyFM f) AA3 nn3 cc3 W14 (byt_chg hbB kk20 (fun g off e hl => trivial)) (by omega) hbn (by omega) ow4.byt ow4.nil (by omega)) ?_
    rintro _ W15 ⟨dd2, hd2, hdl2, rfl, ch14⟩
    have zz14 := ch14.size
    by_cases hdq_ : dd1 = dd2
    ·refine rq 6 63 (.bool true) rfl (run_eql_yes digT dd1 dd2 hdl1 hdl2 hdq_ _ (.tmp 59) (.tmp 62) 29 rfl (by kernel_rfl) (by kernel_rfl))<|rP 7 12 (.bool true)<|eN<|sR<|rP 0 64 (.int .i64 0)<|eT 1 65 (0 : Int) (0 : Int)<|rP 2 66 (.bool true)<|rP 3 67 (.bool true)<|rP 4 68 (.bool true)<|rP 5 69 (.bool true)<|rP 6 70 (.bool true)<|rZ 7 71<|rZ 8 72<|rP 9 73 (.bool true)<|rP 10 74 (.bool true)<|rP 11 75 (.bool true) ?_
     have kk21 := kA kk20 ch14
     refine rK 12 76 (Known25_any W15 (HV.out.below (Chg.below0 kk21))) ?_
     rintro _ W16 ⟨rfl, ch15⟩
     have zz15 := ch15.size
     refine rP 13 77 (.bool true)<|rP 14 6 (.bool true)<|eN<|wp_ret<|?_
     have kk22 := kA kk21 ch15
     refine rt (.bool true) ?_
     exact ⟨rfl, Chg.below0 kk22⟩
    refine rq 6 63 (.bool false) rfl (run_eql_no digT dd1 dd2 hdl1 hdl2 hdq_ _ (.tmp 59) (.tmp 62) 29 rfl (by kernel_rfl) (by kernel_rfl))<|rP 7 12 (.bool false)<|eN<|sR<|rP 0 64 (.int .i64 0)<|eT 1 65 (0 : Int) (0 : Int)<|rP 2 66 (.bool false)<|rP 3 67 (.bool false)<|rP 4 68 (.bool false)<|rZ 5 69<|rZ 6 70<|rZ 7 71<|rZ 8 72<|rZ 9 73<|rP 10 74 (.bool false)<|rP 11 75 (.bool false)<|rZ 12 76<|rP 13 77 (.bool false)<|rP 14 6 (.bool false)<|eN<|wp_ret<|?_
    have e1_ : dd1 = T (bodyFM f) := by rw [hd1.out, hTs]
    have e2_ : dd2 = T2 (bodyFM f) := by rw [hd2.out, hTs2]
    exact absurd ⟨by omega, fun q_ => hdq_ (by rw [e1_, e2_, q_])⟩ hcd_
   ·rw [hrb_] at htd1
    exfalso; split at htd1 <;> cases htd1
   ·rw [hrb_] at htd1
    exfalso; split at htd1 <;> cases htd1
   rw [hrb_] at htd1
   have hcd_ : f.kind.toNat ≤ 4 ∧ T (bodyFM f) ≠ T2 (bodyFM f) := Classical.byContradiction fun q_ => by rw [if_neg q_] at htd1; cases htd1
   refine rP 3 35 (.tuple #[.agg ((frmP (headM 0 0 0) ZZ1).flatten.toArray), .int .i64 250])<|rP 4 39 (.agg ((frmP (headM 0 0 0) ZZ1).flatten.toArray))<|rP 5 40 (.int .i64 250)<|nW 6 9 ((frmh 0 0 0).flatten.toArray) 39 fun W17 hb4 ch16 sz3 => rU 7 rfl (sA (frmP (headM 0 0 0) ZZ1).flatten.toArray (frmL_size (frmL_sz (frmIn_head 0 (by decide) (by decide)).ok.sum (frmIn_head 0 (by decide) (by decide)).ok.key (headM 0 0 0).att.hk (headM 0 0 0).att.hr (headM 0 0 0).att.ht (frmIn_head 0 (by decide) (by decide)).ok.root)) hb4 (frmL_size (frmL_sz rfl rfl rfl rfl rfl rfl))) fun W18 hb5 ch17 zz17 => rP 8 10 (.int .i64 250)<|eN<|wp_seq<|sR<|rP 0 41 (pt w.heap.size 0)<|rF 1 42 0 (.int .u8 f.kind.toNat) hI.sz (qO ch17 (qT ch16 (qT ch6 (qT ch5 (qT ch4 hb1))))) 0 ?_
   by_cases hx4 : (f.kind.toNat : Int) > (4 : Int)
   ·refine bT 2 43 ((f.kind.toNat : Int) > (4 : Int))<|eN<|cT<|sR<|rP 0 44 (.int .i64 250)<|eF 1 45 (250 : Int) (0 : Int)<|rP 2 46 (.bool false)<|rZ 3 47<|rZ 4 48<|rZ 5 49<|rP 6 50 (.bool false)<|rP 7 51 (.bool false)<|rZ 8 52<|rP 9 53 (.bool false)<|rP 10 6 (.bool false)<|eN<|tR<|?_
    exfalso; have h_ := hcd_.1; omega
   refine bF 2 43 ((f.kind.toNat : Int) > (4 : Int))<|eN<|cF<|wp_skip<|nxt<|sR<|rq 0 54 (.agg ((frmP f z).flatten.toArray)) rfl (lA (qO ch17 (qT ch16 (qT ch6 (qT ch5 (qT ch4 hb1))))) (frmL_size hI.sz)) ?_
   have kk23 := kA kk7 ch6
   have kk24 := kA kk23 ch16
   have kk25 := kB kk24 ch17
   refine rK 1 55 (RBody_any f z W18 (LiesF.chg hL kk25 hLin_) hI hmy1) ?_
   rintro _ W19 ⟨AA4, nn4, cc4, rfl, ow5, hle2, ch18⟩
   have zz18 := ch18.size
   have hq10 := ow5.nc
   have hq11 := ow5.cm
   have hq12 := ow5.byt.1
   refine rK 2 56 (RTagged_any (bodyFM f) AA4 nn4 cc4 W19 ow5.byt ⟨by omega, by omega⟩ ow5.nil (by omega)) ?_
   rintro _ W20 ⟨AA5, nn5, cc5, rfl, ow6, ch19⟩
   have zz19 := ch19.size
   have hq13 := ow6.nc
   have hq14 := ow6.cm
   have hq15 := ow6.byt.1
   have hlc2 : (18 :: bodyFM f).length = (bodyFM f).length + 1 := List.length_cons
   refine rP 3 11 (.slice AA5 nn5 cc5)<|eN<|sR<|rP 0 57 (.slice A n c)<|rP 1 58 (.slice AA5 nn5 cc5) ?_
   have kk26 := kA kk25 ch18
   have kk27 := kA kk26 ch19
   refine rK 2 59 (Rtag_any s A n c (18 :: bodyFM f) AA5 nn5 cc5 W20 (byt_chg HBY.out kk27 (fun g off e hl => trivial)) (by omega) HA.out (by omega) ow6.byt ow6.nil (by omega)) ?_
   rintro _ W21 ⟨dd3, hd3, hdl3, rfl, ch20⟩
   have zz20 := ch20.size
   refine rP 3 60 (.slice B m d)<|rP 4 61 (.slice AA5 nn5 cc5) ?_
   have kk28 := kA kk27 ch20
   have ow7 := Mur.own8 (own_chg ow6.own ch20 (fun q e _ _ => trivial))
   refine rK 5 62 (Rtag_any s2 B m d (18 :: bodyFM f) AA5 nn5 cc5 W21 (byt_chg hbB kk28 (fun g off e hl => trivial)) (by omega) hbn (by omega) ow7.byt ow7.nil (by omega)) ?_
   rintro _ W22 ⟨dd4, hd4, hdl4, rfl, ch21⟩
   have zz21 := ch21.size
   by_cases hdq_ : dd3 = dd4
   ·refine rq 6 63 (.bool true) rfl (run_eql_yes digT dd3 dd4 hdl3 hdl4 hdq_ _ (.tmp 59) (.tmp 62) 29 rfl (by kernel_rfl) (by kernel_rfl))<|rP 7 12 (.bool true)<|eN<|sR<|rP 0 64 (.int .i64 250)<|eF 1 65 (250 : Int) (0 : Int)<|rP 2 66 (.bool true)<|rP 3 67 (.bool false)<|rP 4 68 (.bool false)<|rZ 5 69<|rZ 6 70<|rZ 7 71<|rZ 8 72<|rZ 9 73<|rP 10 74 (.bool false)<|rP 11 75 (.bool false)<|rZ 12 76<|rP 13 77 (.bool false)<|rP 14 6 (.bool false)<|eN<|wp_ret<|?_
    have e1_ : dd3 = T (bodyFM f) := by rw [hd3.out, hTs]
    have e2_ : dd4 = T2 (bodyFM f) := by rw [hd4.out, hTs2]
    exact absurd (by rw [← e1_, ← e2_]; exact hdq_) hcd_.2
   refine rq 6 63 (.bool false) rfl (run_eql_no digT dd3 dd4 hdl3 hdl4 hdq_ _ (.tmp 59) (.tmp 62) 29 rfl (by kernel_rfl) (by kernel_rfl))<|rP 7 12 (.bool false)<|eN<|sR<|rP 0 64 (.int .i64 250)<|eF 1 65 (250 : Int) (0 : Int)<|rP 2 66 (.bool false)<|rP 3 67 (.bool true)<|rP 4 68 (.bool true)<|rP 5 69 (.bool false)<|rP 6 70 (.bool false)<|rP 7 71 (.int .i64 250)<|eT 8 72 (250 : Int) (250 : Int)<|rP 9 73 (.bool true)<|rP 10 74 (.bool true)<|rP 11 75 (.bool true) ?_
   have kk29 := kA kk28 ch21
   refine rK 12 76 (Known25_any W22 (HV.out.below (Chg.below0 kk29))) ?_
   rintro _ W23 ⟨rfl, ch22⟩
   have zz22 := ch22.size
   refine rP 13 77 (.bool true)<|rP 14 6 (.bool true)<|eN<|wp_ret<|?_
   have kk30 := kA kk29 ch22
   refine rt (.bool true) ?_
   exact ⟨rfl, Chg.below0 kk30⟩
  refine rP 3 26 (.tuple #[.slice none 0 0, .int .i64 2])<|rP 4 30 (.slice none 0 0)<|rP 5 31 (.int .i64 2)<|rP 6 7 (.slice none 0 0)<|rP 7 8 (.int .i64 2)<|eN<|wp_seq<|sR<|rP 0 32 (.int .i64 2)<|nT 1 33 (2 : Int) (0 : Int)<|eN<|cT<|sR<|?_
  have kk31 := kA kk6 ch5
  refine rK 0 34 (Known25_any W5 (HV.out.below (Chg.below0 kk31))) ?_
  rintro _ W24 ⟨rfl, ch23⟩
  have zz23 := ch23.size
  refine rP 1 6 (.bool true)<|eN<|tR<|?_
  have kk32 := kA kk31 ch23
  refine rt (.bool true) ?_
  exact ⟨rfl, Chg.below0 kk32⟩
 refine rP 11 24 (.bool true)<|eN<|cT<|sR<|?_
 have kk33 : Chg [] w W1 := zA ch1
 have kk34 := kA kk33 ch4
 refine rK 0 25 (Known25_any W4 (HV.out.below (Chg.below0 kk34))) ?_
 rintro _ W25 ⟨rfl, ch24⟩
 have zz24 := ch24.size
 refine rP 1 6 (.bool true)<|eN<|tR<|?_
 have kk35 := kA kk34 ch24
 refine rt (.bool true) ?_
 exact ⟨rfl, Chg.below0 kk35⟩
end Go.Proofs.YtgbadghjnpbiaaaDoor
namespace Mur
open Go Go.RowKit Go.WideShapes Go.ChangeShapes
theorem all2_split {α β : Type} {R : α → β → Prop} : ∀ {l1 l2 : List α} {cs : List β}, All2 R (l1 ++ l2) cs → ∃ c1 c2, cs = c1 ++ c2 ∧ All2 R l1 c1 ∧ All2 R l2 c2
  | [], _, cs, h => ⟨[], cs, rfl, .nil, h⟩
  | x :: l1, l2, cs, h => by
    rcases h with _ | ⟨h0, h⟩
    obtain ⟨c1, c2, rfl, h1, h2⟩ := all2_split h
    exact ⟨_ :: c1, c2, rfl, .cons h0 h1, h2⟩
section
variable {H : Type} {enc : TypeId × Value → H} {P : Program} {W : World}
end
end Mur
namespace Go.Proofs.YtgbadghjnpbiaaaDoor
theorem leafs_a : Mur.leafs Tryd.prog 3 36 = some (List.replicate 32 5 ++ (List.replicate 32 5 ++ ([3] ++ List.replicate 32 5))) := by kernel_rfl
end Go.Proofs.YtgbadghjnpbiaaaDoor
namespace Go.Proofs.YtgbadghjnpbiaaaDoor
open Go.RowKit Go.WideShapes Go.ChangeShapes
open Mur (All2 Leaf Att SlA rowA attC b8s)
set_option maxRecDepth 100000
section
variable {H : Type} {enc : TypeId × Value → H} {W : World}
def lsA : List TypeId := (List.replicate 32 5 ++ (List.replicate 32 5 ++ ([3] ++ List.replicate 32 5)))
theorem cAtt : Tryd.prog.cellsOf 36 = lsA.length := by kernel_rfl
theorem leaf_att {cs : List Value} (ha : All2 (Leaf enc Tryd.prog W 0 (fun _ => true) true) lsA cs) : ∃ x : Att, cs = x.C := by
  obtain ⟨c1, c2, e1, h1, ha⟩ := Mur.all2_split ha
  obtain ⟨c3, c4, e2, h2, ha⟩ := Mur.all2_split ha
  obtain ⟨c5, c6, e3, h3, h4⟩ := Mur.all2_split ha
  obtain ⟨k, hk, rfl⟩ := Mur.leaf_u8s Tryd.underlying5 32 _ h1
  obtain ⟨r, hr, rfl⟩ := Mur.leaf_u8s Tryd.underlying5 32 _ h2
  obtain ⟨t, ht, rfl⟩ := Mur.leaf_u8s Tryd.underlying5 32 _ h4
  rcases h3 with _ | ⟨h3, h5⟩
  cases h5
  obtain ⟨n, rfl, hn⟩ := Mur.leaf_int Tryd.underlying3 h3
  refine ⟨⟨k, r, t, n, hk, hr, ht, hn⟩, ?_⟩
  subst e3 e2
  rw [e1]
  rfl
end
end Go.Proofs.YtgbadghjnpbiaaaDoor
namespace Mur
open Go Go.RowKit Go.WideShapes Go.ChangeShapes
section
variable {H : Type} {enc : TypeId × Value → H} {P : Program} {W : World}
theorem leaf_slice {t e : TypeId} {v : Value} (ht : P.underlying t = some (.slice e)) (h : Leaf enc P W 0 (fun _ => true) true t v) : v.cells.toList = [v] ∧ ∃ d ps, DataW.Trod enc P W 0 (fun _ => true) true t v d ps := by
  obtain ⟨m, ⟨d, ps⟩, hf⟩ := h
  have hv : v.cells.toList = [v] := by
    rcases Deep.open_slice ht hf with ⟨h0, _⟩ | ⟨a, len, cap, m, n, D', Pl, h0, _⟩
    · obtain rfl : v = .slice none 0 0 := by simpa using h0
      rfl
    · obtain rfl : v = .slice (some a) len cap := by simpa using h0
      rfl
  exact ⟨hv, d, ps, m, by rw [hv]; exact hf⟩
end
end Mur
namespace Go.Proofs.YtgbadghjnpbiaaaDoor
open Go.RowKit Go.WideShapes Go.ChangeShapes
open Mur (All2 Leaf Att SlA rowA attC b8s msgC)
set_option maxRecDepth 100000
section
variable {H : Type} {enc : TypeId × Value → H} {W : World}
theorem leaf_atts {v : Value} (h : Leaf enc Tryd.prog W 0 (fun _ => true) true 30 v) :
    ∃ A n c L, v = .slice A n c ∧ (n ≤ c ∧ c ≤ 9223372036854775807) ∧ (A = none → c = 0) ∧ SlA W A n L := by
  obtain ⟨hv, d, ps, h⟩ := Mur.leaf_slice Tryd.underlying30 h
  obtain ⟨A, n, c, rows, rfl, hnc, hcm, hnil, hlen, hrows, hat⟩ := Mur.open_rows 3 lsA Tryd.underlying30 leafs_a cAtt (by decide) hv h
  obtain ⟨L, rfl⟩ := Mur.rows_decode Att.C rows fun r hr => leaf_att (hrows r hr)
  have hl : L.length = n := by simpa using hlen
  refine ⟨A, n, c, L, rfl, ⟨hnc, by unfold maxLen at hcm; omega⟩, hnil, hl, by rw [Mur.rowA_len, hl], fun hn => ?_⟩
  have hp : 0 < n := by
    rcases Nat.eq_zero_or_pos n with h0 | h0
    · rw [List.eq_nil_of_length_eq_zero (hl.trans h0)] at hn
      exact absurd rfl hn
    · exact h0
  obtain ⟨g, off, e, hr⟩ := hat hp
  refine ⟨g, off, e, fun j v hv => ?_⟩
  have hj := (List.getElem?_eq_some_iff.1 hv).1
  rw [Mur.rowA_len] at hj
  obtain ⟨x, hx⟩ : ∃ x, L[j / 97]? = some x := ⟨_, List.getElem?_eq_getElem (by omega)⟩
  have h1 := hr (j / 97) x.C (by simp [hx])
  have h2 : x.C[j % 97]? = some v := by
    have e1 : (rowA L)[j]? = ((rowA L).drop (j / 97 * 97))[j % 97]? := by
      rw [List.getElem?_drop]
      congr 1
      omega
    rw [e1, ← Mur.rowA_drop] at hv
    obtain ⟨h3, rfl⟩ := List.getElem?_eq_some_iff.1 hx
    rw [List.drop_eq_getElem_cons h3, Mur.rowA_cons, List.getElem?_append_left (by rw [Att.C_len]; omega)] at hv
    exact hv
  have h4 := h1 (j % 97) v h2
  have e4 : off + j / 97 * lsA.length + j % 97 = off + j := by
    have : lsA.length = 97 := rfl
    rw [this]
    omega
  rw [e4] at h4
  exact h4
theorem cellsU8 : Tryd.prog.cellsOf 5 = 1 := by kernel_rfl
end
end Go.Proofs.YtgbadghjnpbiaaaDoor
namespace Mur
open Go Go.RowKit Go.WideShapes Go.ChangeShapes Wk
theorem decodeQ {α : Type} (enc' : α → List Value) (Q : α → Prop) : ∀ rows : List (List Value), (∀ r ∈ rows, ∃ p, r = enc' p ∧ Q p) → ∃ l : List α, rows = l.map enc' ∧ ∀ x, x ∈ l → Q x
  | [], _ => ⟨[], rfl, fun _ h => (by cases h)⟩
  | r :: rows, h => by
    obtain ⟨p, rfl, hp⟩ := h r (by simp)
    obtain ⟨l, rfl, hl⟩ := decodeQ enc' Q rows fun x hx => h x (by simp [hx])
    exact ⟨p :: l, rfl, fun x hx => (List.mem_cons.1 hx).elim (fun e => e ▸ hp) (hl x)⟩
theorem rows_slR {w : World} {sz n : Nat} {A : Option Addr} {R : List (List Value)} (hz : Sized sz R) (hp : 0 < sz) (hl : R.length = n) (hat : 0 < n → ∃ g off, A = some ⟨g, off, none⟩ ∧ ∀ i r, R[i]? = some r → w.rangeAt g (off + i * sz) r) : SlR w sz A n R := by
  refine ⟨hl, hz, by rw [flatR_len hz, hl], fun hn => ?_⟩
  have hn0 : 0 < n := by
    rcases Nat.eq_zero_or_pos n with h0 | h0
    · rw [List.eq_nil_of_length_eq_zero (hl.trans h0)] at hn
      exact absurd rfl hn
    · exact h0
  obtain ⟨g, off, e, hr⟩ := hat hn0
  refine ⟨g, off, e, fun j v hv => ?_⟩
  have hj := (List.getElem?_eq_some_iff.1 hv).1
  rw [flatR_len hz] at hj
  have hq : j / sz < R.length := Nat.div_lt_of_lt_mul (by rw [Nat.mul_comm]; exact hj)
  have hrow := List.getElem?_eq_getElem hq
  have h1 := hr (j / sz) R[j / sz] hrow
  have hzl := (hz R[j / sz] (List.getElem_mem _)).1
  have hm : j % sz < sz := Nat.mod_lt _ hp
  have hd : j / sz * sz + j % sz = j := by rw [Nat.mul_comm]; exact Nat.div_add_mod j sz
  have h2 : R[j / sz][j % sz]? = some v := by
    have e1 : (flatR R)[j]? = ((flatR R).drop (j / sz * sz))[j % sz]? := by
      rw [List.getElem?_drop, hd]
    rw [e1, ← flatR_drop hz, List.drop_eq_getElem_cons hq] at hv
    have e2 : flatR (R[j / sz] :: R.drop (j / sz + 1)) = R[j / sz] ++ flatR (R.drop (j / sz + 1)) := rfl
    rw [e2, List.getElem?_append_left (by rw [hzl]; exact hm)] at hv
    exact hv
  have h4 := h1 (j % sz) v h2
  rw [show off + j / sz * sz + j % sz = off + j by omega] at h4
  exact h4
end Mur
namespace Go.Proofs.YtgbadghjnpbiaaaDoor
open Go.RowKit Go.WideShapes Go.ChangeShapes
open Mur (All2 Leaf Att SlA rowA attC b8s msgC)
set_option maxRecDepth 100000
section
variable {H : Type} {enc : TypeId × Value → H} {W : World}
def lsU : List TypeId := [3, 5, 24]
theorem leafs_u : Mur.leafs Tryd.prog 3 66 = some lsU := by kernel_rfl
theorem cUpd : Tryd.prog.cellsOf 66 = lsU.length := by kernel_rfl
theorem leaf_upd {cs : List Value} (ha : All2 (Leaf enc Tryd.prog W 0 (fun _ => true) true) lsU cs) : ∃ u : Int × UInt8 × Nat, cs = Mur.updC u ∧ ((-9223372036854775808 ≤ u.1 ∧ u.1 ≤ 9223372036854775807) ∧ u.2.2 < 18446744073709551616) := by
  rcases ha with _ | ⟨k1, ha⟩
  rcases ha with _ | ⟨k2, ha⟩
  rcases ha with _ | ⟨k3, ha⟩
  cases ha
  obtain ⟨a, rfl, ha⟩ := Mur.leaf_int Tryd.underlying3 k1
  obtain ⟨b, rfl⟩ := Mur.leaf_u8 Tryd.underlying5 k2
  obtain ⟨c, rfl, hc⟩ := Mur.leaf_int Tryd.underlying24 k3
  have h1 := bounds_i64 ha
  have h2 := bounds_u64 hc
  refine ⟨(a, b, c.toNat), ?_, by omega, by show c.toNat < _; omega⟩
  unfold Mur.updC
  rw [show ((c.toNat : Nat) : Int) = c by omega]
theorem leaf_upds {v : Value} (h : Leaf enc Tryd.prog W 0 (fun _ => true) true 25 v) :
    ∃ (s : Mur.Sl3) (l : List (Int × UInt8 × Nat)), v = .slice s.A s.n s.c ∧ Mur.SlN s ∧ Mur.SlR W 3 s.A s.n (l.map Mur.updC) ∧ ∀ u, u ∈ l → ((-9223372036854775808 ≤ u.1 ∧ u.1 ≤ 9223372036854775807) ∧ u.2.2 < 18446744073709551616) := by
  obtain ⟨hv, d, ps, h⟩ := Mur.leaf_slice Tryd.underlying25 h
  obtain ⟨A, n, c, rows, rfl, hnc, hcm, hnil, hlen, hrows, hat⟩ := Mur.open_rows 3 lsU Tryd.underlying25 leafs_u cUpd (by decide) hv h
  obtain ⟨l, rfl, hq⟩ := Mur.decodeQ Mur.updC _ rows fun r hr => leaf_upd (hrows r hr)
  exact ⟨⟨A, n, c⟩, l, rfl, ⟨hnil, hnc, by unfold maxLen at hcm; exact hcm⟩, Mur.rows_slR (Mur.upd_sized l) (by decide) hlen hat, hq⟩
def lsD : List TypeId := List.replicate 32 5
theorem leafs_dg : Mur.leafs Tryd.prog 3 29 = some lsD := by kernel_rfl
theorem cDig : Tryd.prog.cellsOf 29 = lsD.length := by kernel_rfl
theorem leaf_digs {v : Value} (h : Leaf enc Tryd.prog W 0 (fun _ => true) true 37 v) :
    ∃ (s : Mur.Sl3) (l : List (List UInt8)), v = .slice s.A s.n s.c ∧ Mur.SlN s ∧ Mur.SlR W 32 s.A s.n (l.map b8s) ∧ ∀ x, x ∈ l → x.length = 32 := by
  obtain ⟨hv, d, ps, h⟩ := Mur.leaf_slice Tryd.underlying37 h
  obtain ⟨A, n, c, rows, rfl, hnc, hcm, hnil, hlen, hrows, hat⟩ := Mur.open_rows 3 lsD Tryd.underlying37 leafs_dg cDig (by decide) hv h
  obtain ⟨l, rfl, hq⟩ := Mur.decodeQ b8s (fun x => x.length = 32) rows fun r hr => (Mur.leaf_u8s Tryd.underlying5 32 _ (hrows r hr)).imp fun x hx => ⟨hx.2, hx.1⟩
  exact ⟨⟨A, n, c⟩, l, rfl, ⟨hnil, hnc, by unfold maxLen at hcm; exact hcm⟩, Mur.rows_slR (Mur.dig_sized hq) (by decide) hlen hat, hq⟩
theorem leaf_bys {v : Value} (h : Leaf enc Tryd.prog W 0 (fun _ => true) true 22 v) : ∃ (s : Mur.Sl3) (l : List UInt8), v = .slice s.A s.n s.c ∧ Mur.SlN s ∧ Mur.Byt W s.A s.n l := by
  obtain ⟨A, n, c, l, rfl, h1, h2, h3, h4⟩ := Mur.leaf_byt Tryd.underlying22 Tryd.underlying5 cellsU8 h
  exact ⟨⟨A, n, c⟩, l, rfl, ⟨h3, h1, by unfold maxLen at h2; exact h2⟩, h4⟩
theorem leaf_at3 {v : Value} (h : Leaf enc Tryd.prog W 0 (fun _ => true) true 30 v) : ∃ (s : Mur.Sl3) (l : List Att), v = .slice s.A s.n s.c ∧ Mur.SlN s ∧ SlA W s.A s.n l := by
  obtain ⟨A, n, c, l, rfl, h1, h2, h3⟩ := leaf_atts h
  exact ⟨⟨A, n, c⟩, l, rfl, ⟨h2, h1.1, h1.2⟩, h3⟩
def lsF : List TypeId := [5, 3, 3, 3, 5, 24, 3, 25, 5, 22] ++ (lsD ++ ([3, 30, 4] ++ (lsD ++ ([3, 24, 24, 4] ++ (lsD ++ (lsD ++ ([3] ++ (lsD ++ (lsD ++ [3, 22, 37])))))))))
theorem leafs_f : Mur.leafs Tryd.prog 4 39 = some lsF := by kernel_rfl
theorem open_frm {v : Value} {d : DataW H} {ps : List MemPlace} (hval : ∃ r b0, Value.okWide Tryd.prog W r b0 39 v) (h : DataW.Trod enc Tryd.prog W 0 (fun _ => true) true 39 v d ps) :
    ∃ (f : Mur.Frm) (z : Mur.Zs), v = .agg (Mur.frmP f z).flatten.toArray ∧ Mur.LiesF W z f ∧ Mur.FrmIn f := by
  obtain ⟨cs, rfl, ha⟩ := Mur.open_agg 4 (.inr ⟨_, Tryd.underlying39⟩) leafs_f hval h
  obtain ⟨c1, cs1, e1, h1, ha⟩ := Mur.all2_split ha
  obtain ⟨c2, cs2, e2, h2, ha⟩ := Mur.all2_split ha
  obtain ⟨c3, cs3, e3, h3, ha⟩ := Mur.all2_split ha
  obtain ⟨c4, cs4, e4, h4, ha⟩ := Mur.all2_split ha
  obtain ⟨c5, cs5, e5, h5, ha⟩ := Mur.all2_split ha
  obtain ⟨c6, cs6, e6, h6, ha⟩ := Mur.all2_split ha
  obtain ⟨c7, cs7, e7, h7, ha⟩ := Mur.all2_split ha
  obtain ⟨c8, cs8, e8, h8, ha⟩ := Mur.all2_split ha
  obtain ⟨c9, cs9, e9, h9, ha⟩ := Mur.all2_split ha
  obtain ⟨c10, c11, e10, h10, h11⟩ := Mur.all2_split ha
  rcases h1 with _ | ⟨k1, h1⟩
  rcases h1 with _ | ⟨k2, h1⟩
  rcases h1 with _ | ⟨k3, h1⟩
  rcases h1 with _ | ⟨k4, h1⟩
  rcases h1 with _ | ⟨k5, h1⟩
  rcases h1 with _ | ⟨k6, h1⟩
  rcases h1 with _ | ⟨k7, h1⟩
  rcases h1 with _ | ⟨k8, h1⟩
  rcases h1 with _ | ⟨k9, h1⟩
  rcases h1 with _ | ⟨k10, h1⟩
  cases h1
  rcases h3 with _ | ⟨m1, h3⟩
  rcases h3 with _ | ⟨m2, h3⟩
  rcases h3 with _ | ⟨m3, h3⟩
  cases h3
  rcases h5 with _ | ⟨n1, h5⟩
  rcases h5 with _ | ⟨n2, h5⟩
  rcases h5 with _ | ⟨n3, h5⟩
  rcases h5 with _ | ⟨n4, h5⟩
  cases h5
  rcases h8 with _ | ⟨o1, h8⟩
  cases h8
  rcases h11 with _ | ⟨q1, h11⟩
  rcases h11 with _ | ⟨q2, h11⟩
  rcases h11 with _ | ⟨q3, h11⟩
  cases h11
  obtain ⟨kd, rfl⟩ := Mur.leaf_u8 Tryd.underlying5 k1
  obtain ⟨a, rfl, w1⟩ := Mur.leaf_int Tryd.underlying3 k2
  obtain ⟨b, rfl, w2⟩ := Mur.leaf_int Tryd.underlying3 k3
  obtain ⟨t, rfl, w3⟩ := Mur.leaf_int Tryd.underlying3 k4
  obtain ⟨pk, rfl⟩ := Mur.leaf_u8 Tryd.underlying5 k5
  obtain ⟨sq, rfl, w4⟩ := Mur.leaf_int Tryd.underlying24 k6
  obtain ⟨ab, rfl, w5⟩ := Mur.leaf_int Tryd.underlying3 k7
  obtain ⟨u, ul, rfl, un, us, uq⟩ := leaf_upds k8
  obtain ⟨gk, rfl⟩ := Mur.leaf_u8 Tryd.underlying5 k9
  obtain ⟨p, pl, rfl, pn, pb⟩ := leaf_bys k10
  obtain ⟨gs, hgs, rfl⟩ := Mur.leaf_u8s Tryd.underlying5 32 _ h2
  obtain ⟨gn, rfl, w6⟩ := Mur.leaf_int Tryd.underlying3 m1
  obtain ⟨i, il, rfl, inn, is⟩ := leaf_at3 m2
  obtain ⟨ga, rfl⟩ := Mur.leaf_bool Tryd.underlying4 m3
  obtain ⟨ck, hck, rfl⟩ := Mur.leaf_u8s Tryd.underlying5 32 _ h4
  obtain ⟨cn, rfl, w7⟩ := Mur.leaf_int Tryd.underlying3 n1
  obtain ⟨ci, rfl, w8⟩ := Mur.leaf_int Tryd.underlying24 n2
  obtain ⟨cc, rfl, w9⟩ := Mur.leaf_int Tryd.underlying24 n3
  obtain ⟨cg, rfl⟩ := Mur.leaf_bool Tryd.underlying4 n4
  obtain ⟨ak, hak, rfl⟩ := Mur.leaf_u8s Tryd.underlying5 32 _ h6
  obtain ⟨ar, har, rfl⟩ := Mur.leaf_u8s Tryd.underlying5 32 _ h7
  obtain ⟨an, rfl, w10⟩ := Mur.leaf_int Tryd.underlying3 o1
  obtain ⟨at_, hat, rfl⟩ := Mur.leaf_u8s Tryd.underlying5 32 _ h9
  obtain ⟨rt, hrt, rfl⟩ := Mur.leaf_u8s Tryd.underlying5 32 _ h10
  obtain ⟨ch, rfl, w11⟩ := Mur.leaf_int Tryd.underlying3 q1
  obtain ⟨y, yl, rfl, yn, yb⟩ := leaf_bys q2
  obtain ⟨f, fl_, rfl, fn, fs, fq⟩ := leaf_digs q3
  have b4 := bounds_u64 w4
  have b8_ := bounds_u64 w8
  have b9 := bounds_u64 w9
  refine ⟨⟨kd, a, b, t, pk, sq.toNat, ab, ul, ⟨gk, pl, gs, gn, il, ga⟩, ck, cn, ci.toNat, cc.toNat, cg, ⟨ak, ar, at_, an, hak, har, hat, w10⟩, rt, ch, yl, fl_⟩, ⟨u, p, i, y, f⟩, ?_, ⟨us, pb, is, yb, fs, un, pn, inn, yn, fn⟩, ⟨⟨?_, ?_, ?_, fun x hx => (uq x hx).2, hgs, hck, hrt, fq⟩, bounds_i64 w1, bounds_i64 w2, bounds_i64 w3, bounds_i64 w5, fun x hx => (uq x hx).1, bounds_i64 w6, bounds_i64 w7, bounds_i64 w11⟩⟩
  · have e4' : ((sq.toNat : Nat) : Int) = sq := by omega
    have e8' : ((ci.toNat : Nat) : Int) = ci := by omega
    have e9' : ((cc.toNat : Nat) : Int) = cc := by omega
    show Value.agg cs = .agg (Mur.frmL kd a b t pk sq.toNat ab u gk p gs gn i ga ck cn ci.toNat cc.toNat cg ak ar an at_ rt ch y f).flatten.toArray
    unfold Mur.frmL
    rw [e4', e8', e9']
    subst e10 e9 e8 e7 e6 e5 e4 e3 e2
    congr 1
    exact (congrArg List.toArray e1).trans (by simp)
  · show sq.toNat < 2 ^ 64
    omega
  · show ci.toNat < 2 ^ 64
    omega
  · show cc.toNat < 2 ^ 64
    omega
end
end Go.Proofs.YtgbadghjnpbiaaaDoor
