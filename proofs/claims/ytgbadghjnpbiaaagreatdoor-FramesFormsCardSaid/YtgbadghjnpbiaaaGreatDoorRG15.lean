/- What the row rests on, part 15. -/
import Derived.Test.YtgbadghjnpbiaaaGreatDoorRG14
import Derived.Test.YtgbadghjnpbiaaaGreatDoorRG9
import Derived.Test.YtgbadghjnpbiaaaGreatDoorRG10
import Derived.Test.YtgbadghjnpbiaaaGreatDoorRG5
import Derived.Test.YtgbadghjnpbiaaaGreatDoorRG8
import Derived.Test.YtgbadghjnpbiaaaGreatDoorRG13
import Derived.Test.YtgbadghjnpbiaaaGreatDoorRG7
import Derived.Test.YtgbadghjnpbiaaaGreatDoorRG3
import Derived.Test.YtgbadghjnpbiaaaGreatDoorRG4
namespace Go.Proofs.YtgbadghjnpbiaaaGreatDoor
open Go.RowKit Wk
open Mur (b8s Byt Own8 Seg Segs flat cutA attC Att SlA OwnA rowA msgC frmP bodyFM segs_cell frmL_sz conv_int u64_nat u64n conv_u64n u64n_lt segs_rng formN map_at slr_lt newOr_iff flat_sn own8_low u64n_of body_le msg_kind msg_pre byt_chg arr_slice_at byt_rng msg_items attC_length segs_row)
set_option maxRecDepth 100000
set_option maxHeartbeats 4000000
def RBody_F1 (b : Array Value) (u3 u4 u5 : Value) : Act := sg 213 [(3, u3), (4, u4), (5, u5)] b
def RBody_F2 (b : Array Value) (u3 u6 u7 : Value) : Act := sg 213 [(3, u3), (6, u6), (7, u7)] b
def RBody_F3 (b : Array Value) (u1 u3 u8 : Value) : Act := sg 213 [(1, u1), (3, u3), (8, u8)] b
theorem RBody_any (f : Mur.Frm) (z : Mur.Zs) (w : World) (hL : Mur.LiesF w z f) (hI : Mur.FrmIn f) (hm : Mur.mayFM f) : Calls Tryz.prog 34 #[.agg (frmP f z).flatten.toArray] w fun e w' => ∃ A1 n1 c1, e = .returned (.slice A1 n1 c1) ∧ Own8 w' w.heap.size 5 A1 n1 c1 (bodyFM f) ∧ n1 ≤ 1900 ∧ Chg [] w w' := by
 have hLin_ : z.In fun g => g < w.heap.size → Wk.Off g [] := ⟨fun _ _ _ _ => trivial, fun _ _ _ _ => trivial, fun _ _ _ _ => trivial, fun _ _ _ _ => trivial, fun _ _ _ _ => trivial⟩
 have hLunc_ := hL.nu.nc
 have hLucm_ := hL.nu.cm
 have hLpnc_ := hL.np.nc
 have hLpcm_ := hL.np.cm
 have hLinc_ := hL.ni.nc
 have hLicm_ := hL.ni.cm
 have hLync_ := hL.ny.nc
 have hLycm_ := hL.ny.cm
 have hLfnc_ := hL.nf.nc
 have hLfcm_ := hL.nf.cm
 have hpk8_ := f.pKind.toNat_lt
 have hgk8_ := f.gos.kind.toNat_lt
 have hfk8_ := f.kind.toNat_lt
 have hul_ := hL.upd.len
 rw [List.length_map] at hul_
 have hil_ := hL.its.len
 have hfl_ := hL.prf.len
 rw [List.length_map] at hfl_
 have hpl_ := hL.pre.1
 have hyl_ := hL.byt.1
 have hkm_ := Mur.kind_may hm
 have hH4_ : Mur.nodeM f.frm ∧ Mur.nodeM f.dst ∧ f.frm ≠ f.dst ∧ f = Mur.bareM f := ⟨hm.1, hm.2.1, hm.2.2.1, hm.2.2.2.1⟩
 refine calls_of_wp Tryz.func34 rfl ?_
 refine sR<|nW 0 1 ((frmP f z).flatten.toArray) 38 fun W1 hb1 ch1 sz1 => rP 1 2 (.slice none 0 0)<|eN<|sR<|rP 0 9 (pw w 0)<|rF 1 10 0 (vB f.kind.toNat) hI.sz hb1 0<|rq 2 11 (vU f.kind.toNat) rfl (conv_int 5 23 (.tmp 10) rfl (by kernel_rfl) .u64 Tryz.underlying23 .u8 (f.kind.toNat : Int) (by kernel_rfl) (u64_nat (n := f.kind.toNat) (by omega)))<|rP 3 12 (pw w 1)<|rF 4 13 1 (vI f.frm) hI.sz hb1 1<|rq 5 14 (vU (u64n f.frm : Nat)) rfl (conv_u64n 3 23 (.tmp 13) rfl (by kernel_rfl) Tryz.underlying23 .i64 f.frm (by kernel_rfl))<|rP 6 15 (pw w 2)<|rF 7 16 2 (vI f.dst) hI.sz hb1 2<|rq 8 17 (vU (u64n f.dst : Nat)) rfl (conv_u64n 3 23 (.tmp 16) rfl (by kernel_rfl) Tryz.underlying23 .i64 f.dst (by kernel_rfl))<|nS 9 18 3 #[vU f.kind.toNat, vU (u64n f.frm : Nat), vU (u64n f.dst : Nat)] 23 fun W2 hb2 ch2 sz2 => rK 10 19 (RNat3_any W1.heap.size f.kind.toNat (u64n f.frm) (u64n f.dst) W2 hb2 (by omega) (u64n_lt _) (u64n_lt _)) ?_
 rintro _ W3 ⟨AA1, nn1, cc1, rfl, ow1, hle1, ch3⟩
 have zz3 := ch3.size
 have hq1 := ow1.nc
 have hq2 := ow1.cm
 have hq3 := ow1.byt.1
 refine rP 11 3 (.slice AA1 nn1 cc1)<|eN<|wp_seq<|sR<|rP 0 20 (pw w 0)<|rF 1 21 0 (vB f.kind.toNat) hI.sz (qT ch3 (qT ch2 hb1)) 0<|eN<|wp_block<|sR<|?_
 by_cases hx1 : (f.kind.toNat : Int) = (1 : Int)
 ·refine eT 0 71 (f.kind.toNat : Int) (1 : Int)<|rP 1 70 vT<|eN<|cT<|sR<|?_
  have hk_ : f.kind = 1 := kI 1
  have hmk_ := (Mur.mayFM_1 hH4_ hk_).1 hm
  have hu8_ := hmk_.2.2.2.1
  refine rP 0 72 (pw w 3)<|rq 1 73 _ rfl (lR 3 [vI f.pTo, vB f.pKind.toNat, vU f.pSeq, vI f.pAbout, .slice z.u.A z.u.n z.u.c] (sgR hI.sz (qT ch3 (qT ch2 hb1)) 3 5 rfl))<|nW 2 4 #[vI 0, vB 0, vU 0, vI 0, .slice none 0 0] 26 fun W4 hb3 ch4 sz3 => rU 3 rfl (Wk.storeR 26 (.tmp 4) (.tmp 73) rfl W3.heap.size 0 (by kernel_rfl) ([vI f.pTo, vB f.pKind.toNat, vU f.pSeq, vI f.pAbout, .slice z.u.A z.u.n z.u.c]) (by kernel_rfl) (by kernel_rfl) (by intro v hv; simp at hv; rcases hv with h | h | h | h | h <;> (subst h; rfl)) 26 ([vI 0, vB 0, vU 0, vI 0, .slice none 0 0]) hb3 (by simp)) fun W5 hb4 ch5 _ => ?_
  replace hb4 : W5.heap[W3.heap.size]? = some (.cells #[vI f.pTo, vB f.pKind.toNat, vU f.pSeq, vI f.pAbout, .slice z.u.A z.u.n z.u.c] 26 (0, 0)) := hb4
  have zz5 := ch5.size
  refine eN<|sR<|rP 0 74 (.slice AA1 nn1 cc1)<|rP 1 75 (pw W3 1)<|rL 2 76 1 (vB f.pKind.toNat) hb4<|rq 3 77 (vU f.pKind.toNat) rfl (conv_int 5 23 (.tmp 76) rfl (by kernel_rfl) .u64 Tryz.underlying23 .u8 (f.pKind.toNat : Int) (by kernel_rfl) (u64_nat (n := f.pKind.toNat) (by omega)))<|rP 4 78 (pw W3 2)<|rL 5 79 2 (vU f.pSeq) hb4<|rP 6 80 (pw W3 3)<|rL 7 81 3 (vI f.pAbout) hb4<|rq 8 82 (vU (u64n f.pAbout : Nat)) rfl (conv_u64n 3 23 (.tmp 81) rfl (by kernel_rfl) Tryz.underlying23 .i64 f.pAbout (by kernel_rfl))<|rP 9 83 (pw W3 4)<|rL 10 84 4 (.slice z.u.A z.u.n z.u.c) hb4<|rP 11 85 (vI z.u.n)<|rq 12 86 (vU z.u.n) rfl (conv_int 3 23 (.tmp 85) rfl (by kernel_rfl) .u64 Tryz.underlying23 .i64 (z.u.n : Int) (by kernel_rfl) (u64_nat (n := z.u.n) (by omega)))<|nS 13 87 4 #[vU f.pKind.toNat, vU f.pSeq, vU (u64n f.pAbout : Nat), vU z.u.n] 23 fun W6 hb5 ch6 sz4 => rK 14 88 (RNat4_any W5.heap.size f.pKind.toNat f.pSeq (u64n f.pAbout) z.u.n W6 hb5 (by omega) hI.ok.seq (u64n_lt _) (by omega)) ?_
  rintro _ W7 ⟨AA2, nn2, cc2, rfl, ow2, hle2, ch7⟩
  have zz7 := ch7.size
  have hq4 := ow2.nc
  have hq5 := ow2.cm
  have hq6 := ow2.byt.1
  refine rX 15 89 rfl rfl (ap8 nn2 cc2 (oA (oA (oB (oA ow1 ch4) ch5 ow1.lt) ch6) ch7).own ow2.byt ow2.nil (nn1 + nn2) ((formN f.kind.toNat ++ formN (u64n f.frm) ++ formN (u64n f.dst)) ++ (formN f.pKind.toNat ++ formN f.pSeq ++ formN (u64n f.pAbout) ++ formN z.u.n))) ?_
  rintro _ W8 ⟨AA3, nn3, rfl, ow7, ch8, ha1⟩
  have zz8 := ch8.size
  have hq7 := ow7.nc
  have hq8 := ow7.cm
  have lts1 : ∀ k_, (.slice AA3 (nn1 + nn2) nn3 : Value).ownBlock = some k_ → (W2.heap.size ≤ k_ ∧ k_ < W8.heap.size) ∧ k_ ≠ W3.heap.size := fun k_ hk_ => ⟨ow7.lt k_ hk_, by rcases ha1 k_ hk_ with h_ | h_ <;> first | (have q_ := ow1.lt k_ h_; omega) | omega⟩
  refine rP 16 3 (.slice AA3 (nn1 + nn2) nn3)<|eN<|sR<|rP 0 5 (vI 0)<|eN<|wp_block<|?_
  have hbase_ : W2.heap.size ≤ W8.heap.size := by omega
  refine Wk.loop (fun m_ a wr => ∃ (i : Nat) (A1 : Option Addr) (N1 : Nat) (c1 : Nat), m_ = z.u.n - i ∧ a = RBody_F1 a.tmps (.slice A1 N1 c1) (pw W3 0) (vI i) ∧ i ≤ z.u.n ∧ Own8 wr W2.heap.size 5 A1 N1 c1 ((formN f.kind.toNat ++ formN (u64n f.frm) ++ formN (u64n f.dst)) ++ (formN f.pKind.toNat ++ formN f.pSeq ++ formN (u64n f.pAbout) ++ formN z.u.n) ++ ((f.pUpd.take i).map Mur.enc3).flatten) ∧ wr.heap[W3.heap.size]? = some (.cells #[vI f.pTo, vB f.pKind.toNat, vU f.pSeq, vI f.pAbout, .slice z.u.A z.u.n z.u.c] 26 (0, 0)) ∧ N1 ≤ nn1 + nn2 + 27 * i ∧ W2.heap.size ≤ wr.heap.size ∧ (∀ q_, (Value.slice A1 N1 c1).ownBlock = some q_ → q_ ≠ W3.heap.size) ∧ Chg [] w wr) (z.u.n - 0) ?_ ?_
  ·have kk1 : Chg [] w W1 := zA ch1
   refine ⟨0, AA3, nn1 + nn2, nn3, rfl, by kernel_rfl, (by omega), (by rw [List.take_zero]; simp only [List.map_nil, List.flatten_nil, List.append_nil]; exact ow7), (Chg.hp ch8 (qT ch7 (qT ch6 hb4)) (off_blk (fun gz hgz => by have := ow1.lt gz hgz; omega))), (by omega), (by omega), (fun q_ h_ => (lts1 q_ h_).2), (Chg.step (kA (kA (kB (kA (kA (kA kk1 ch2) ch3) ch4) ch5) ch6) ch7) ch8 (newOr_blk (fun g hg => by have := ow1.lt g hg; omega)))⟩
  rintro mm1 aa1 W10 ⟨i, A1, N1, c1, hmm1, hF1, hi, hO, hgb, hN, hbz, hsp, HB⟩
  generalize aa1.tmps = bb1 at hF1
  subst hF1
  have lts0 : ∀ k_, (Value.slice A1 N1 c1).ownBlock = some k_ → (W2.heap.size ≤ k_ ∧ k_ < W10.heap.size) ∧ k_ ≠ W3.heap.size := fun k_ h_ => ⟨hO.lt k_ h_, hsp k_ h_⟩
  have hzB := HB.size
  have hOn := hO.nc
  have hOc := hO.cm
  have hbxl_ := (Array.getElem?_eq_some_iff.1 hgb).1
  by_cases hlt : i < z.u.n
  ·obtain ⟨xa, hxa⟩ : ∃ x_, f.pUpd[i]? = some x_ := ⟨_, List.getElem?_eq_getElem (by omega)⟩
   obtain ⟨g1, o1, hA1_, hr1⟩ := hL.upd.row (map_at Mur.updC hxa) (by decide)
   have hg1l_ : g1 < w.heap.size := slr_lt hL.upd (by decide) hA1_ (by omega)
   have hxu_ : xa.2.2 < 18446744073709551616 := hI.ok.upd xa (List.mem_of_getElem? hxa)
   have hx8_ := xa.2.1.toNat_lt
   have hel_ := Mur.enc3_len (u := xa) hxu_
   refine wp_seq<|sR<|rP 0 90 (vI i)<|rP 1 91 (pw W3 4)<|rL 2 92 4 (.slice z.u.A z.u.n z.u.c) hgb<|rP 3 93 (vI z.u.n)<|bT 4 94 ((i : Int) < (z.u.n : Int))<|eN<|cT<|wp_skip<|nxt<|wp_seq<|wp_block<|?_
   refine dReg ((Wk.blk (.slice A1 N1 c1))) (by kernel_rfl) ?_
   intro W11 ch9 sz5
   have zz9 := ch9.size
   have sS1 : Chg ((Wk.blk (.slice A1 N1 c1))) W11 W11 := (Chg.refl _).more (by simp)
   refine dW 0 97 (.slice A1 N1 c1) sS1<|dW 1 98 (pw W3 4) sS1<|dV 2 99 (.slice z.u.A z.u.n z.u.c) rfl rfl (fun w' hw' => ld 24 98 W3.heap.size 4 (.slice z.u.A z.u.n z.u.c) ((cell_of_row _ _ 4 _ _ _ (Chg.hp hw' (qT ch9 hgb) (off_blk (fun gz hgz => by have := lts0 gz hgz; omega)))).trans rfl)) sS1<|dW 3 100 (vI i) sS1<|dV 4 101 (pt g1 (o1 + i * 3)) rfl rfl (fun w' hw' => index_sl 24 61 (.tmp 99) (.tmp 100) rfl Tryz.underlying24 3 (by kernel_rfl) g1 o1 z.u.n z.u.c i .i64 (by rw [← hA1_]; kernel_rfl) (by kernel_rfl) (by omega)) sS1<|dW 5 102 (pt g1 (o1 + i * 3)) sS1 ?_
   have kk9 := kA HB ch9
   refine dV 6 103 (vI xa.1) rfl rfl (fun w' hw' => ld 3 102 g1 (o1 + i * 3) (vI xa.1) (Chg.cell hw' (Chg.cell kk9 (hr1 0 (vI xa.1) rfl) trivial) (off_blk (fun gz hgz => by have := lts0 gz hgz; omega)))) sS1<|dV 7 104 (vU (u64n xa.1 : Nat)) rfl rfl (fun w' hw' => conv_u64n 3 23 (.tmp 103) rfl (by kernel_rfl) Tryz.underlying23 .i64 xa.1 (by kernel_rfl)) sS1<|dW 8 105 (pw W3 4) sS1<|dV 9 106 (.slice z.u.A z.u.n z.u.c) rfl rfl (fun w' hw' => ld 24 105 W3.heap.size 4 (.slice z.u.A z.u.n z.u.c) ((cell_of_row _ _ 4 _ _ _ (Chg.hp hw' (qT ch9 hgb) (off_blk (fun gz hgz => by have := lts0 gz hgz; omega)))).trans rfl)) sS1<|dW 10 107 (vI i) sS1<|dV 11 108 (pt g1 (o1 + i * 3)) rfl rfl (fun w' hw' => index_sl 24 61 (.tmp 106) (.tmp 107) rfl Tryz.underlying24 3 (by kernel_rfl) g1 o1 z.u.n z.u.c i .i64 (by rw [← hA1_]; kernel_rfl) (by kernel_rfl) (by omega)) sS1<|dW 12 109 (pt g1 (o1 + i * 3 + 1)) sS1<|dV 13 110 (vB xa.2.1.toNat) rfl rfl (fun w' hw' => ld 5 109 g1 (o1 + i * 3 + 1) (vB xa.2.1.toNat) (Chg.cell hw' (Chg.cell kk9 (hr1 1 (vB xa.2.1.toNat) rfl) trivial) (off_blk (fun gz hgz => by have := lts0 gz hgz; omega)))) sS1<|dV 14 111 (vU xa.2.1.toNat) rfl rfl (fun w' hw' => conv_int 5 23 (.tmp 110) rfl (by kernel_rfl) .u64 Tryz.underlying23 .u8 (xa.2.1.toNat : Int) (by kernel_rfl) (u64_nat (n := xa.2.1.toNat) (by omega))) sS1<|dW 15 112 (pw W3 4) sS1<|dV 16 113 (.slice z.u.A z.u.n z.u.c) rfl rfl (fun w' hw' => ld 24 112 W3.heap.size 4 (.slice z.u.A z.u.n z.u.c) ((cell_of_row _ _ 4 _ _ _ (Chg.hp hw' (qT ch9 hgb) (off_blk (fun gz hgz => by have := lts0 gz hgz; omega)))).trans rfl)) sS1 ?_
   refine dW 17 114 (vI i) sS1<|dV 18 115 (pt g1 (o1 + i * 3)) rfl rfl (fun w' hw' => index_sl 24 61 (.tmp 113) (.tmp 114) rfl Tryz.underlying24 3 (by kernel_rfl) g1 o1 z.u.n z.u.c i .i64 (by rw [← hA1_]; kernel_rfl) (by kernel_rfl) (by omega)) sS1<|dW 19 116 (pt g1 (o1 + i * 3 + 2)) sS1<|dV 20 117 (vU xa.2.2) rfl rfl (fun w' hw' => ld 23 116 g1 (o1 + i * 3 + 2) (vU xa.2.2) (Chg.cell hw' (Chg.cell kk9 (hr1 2 (vU xa.2.2) rfl) trivial) (off_blk (fun gz hgz => by have := lts0 gz hgz; omega)))) sS1<|dO 21<|oS 118 3 #[vU (u64n xa.1 : Nat), vU xa.2.1.toNat, vU xa.2.2] 23 fun W12 hb6 ch10 sz6 => ?_
   have sS2 := kA sS1 ch10
   refine aN sS2<|dO 22<|oK 119 (RNat3_any W11.heap.size (u64n xa.1) xa.2.1.toNat xa.2.2 W12 hb6 (u64n_lt _) (by omega) hxu_) ?_
   rintro _ W13 ⟨AA4, nn4, cc3, rfl, ow8, hle3, ch11⟩
   have zz11 := ch11.size
   have hq9 := ow8.nc
   have hq10 := ow8.cm
   have hq11 := ow8.byt.1
   have sS3 := kA sS2 ch11
   refine aN sS3<|dO 23<|oEx (some 120) _ rfl rfl (by kernel_rfl) (ap8 nn4 cc3 (oA (oA (oA hO ch9) ch10) ch11).own ow8.byt ow8.nil (N1 + nn4) (((formN f.kind.toNat ++ formN (u64n f.frm) ++ formN (u64n f.dst)) ++ (formN f.pKind.toNat ++ formN f.pSeq ++ formN (u64n f.pAbout) ++ formN z.u.n) ++ ((f.pUpd.take i).map Mur.enc3).flatten) ++ (formN (u64n xa.1) ++ formN xa.2.1.toNat ++ formN xa.2.2))) ?_
   rintro _ W14 ⟨AA5, nn5, rfl, ow12, ch12, ha2⟩
   have zz12 := ch12.size
   have hq12 := ow12.nc
   have hq13 := ow12.cm
   have lts2 : ∀ k_, (.slice AA5 (N1 + nn4) nn5 : Value).ownBlock = some k_ → (W2.heap.size ≤ k_ ∧ k_ < W14.heap.size) ∧ k_ ≠ W3.heap.size := fun k_ hk_ => ⟨ow12.lt k_ hk_, by rcases ha2 k_ hk_ with h_ | h_ <;> first | (have q_ := lts0 k_ h_; omega) | omega⟩
   have sS4 := Chg.step sS3 ch12 (newOr_iff.2 (fun t ht => .inl ht))
   refine aN sS4<|dW 24 3 (.slice AA5 (N1 + nn4) nn5) sS4<|dE<|inN<|nxt<|reg<|rP 0 95 (vI i)<|rI 1 96 ((i : Int) + 1) (((i + 1 : Nat) : Int))<|rP 2 5 (vI (i + 1 : Nat))<|eN<|?_
   refine ⟨_, ?_, i + 1, AA5, N1 + nn4, nn5, rfl, by kernel_rfl, (by omega), (by rw [flat_sn Mur.enc3 hxa, ← List.append_assoc]; rw [show Mur.enc3 xa = formN (u64n xa.1) ++ formN xa.2.1.toNat ++ formN xa.2.2 from rfl]; exact own8_low ow12 (by omega)), (Chg.hp ch12 (qT ch11 (qT ch10 (qT ch9 hgb))) (off_blk (fun gz hgz => by have := lts0 gz hgz; omega))), (by omega), (by omega), (fun q_ h_ => (lts2 q_ h_).2), (Chg.step (kA (kA kk9 ch10) ch11) ch12 (newOr_blk (fun g hg => by have := lts0 g hg; omega)))⟩
   omega
  refine wp_seq<|sR<|rP 0 90 (vI i)<|rP 1 91 (pw W3 4)<|rL 2 92 4 (.slice z.u.A z.u.n z.u.c) hgb<|rP 3 93 (vI z.u.n)<|bF 4 94 ((i : Int) < (z.u.n : Int))<|eN<|cF<|xX<|inN<|nxt<|sR<|rP 0 212 (.slice A1 N1 c1)<|rP 1 2 (.slice A1 N1 c1)<|eN<|wp_ret<|?_
  have hH_ := hO
  have hE_ : (formN f.kind.toNat ++ formN (u64n f.frm) ++ formN (u64n f.dst)) ++ (formN f.pKind.toNat ++ formN f.pSeq ++ formN (u64n f.pAbout) ++ formN z.u.n) ++ ((f.pUpd.take i).map Mur.enc3).flatten = bodyFM f := by rw [← Mur.bodyB_1 hm hk_, u64n_of (n := f.kind.toNat) (by omega), List.take_of_length_le (show f.pUpd.length ≤ i by omega), ← hul_] <;> simp only [List.append_assoc]
  rw [hE_] at hH_
  have hbd_ := body_le hm hI.ok
  have hbl_ := hH_.byt.1
  exact rt (.slice A1 N1 c1) ⟨_, _, _, rfl, own8_low hH_ (by omega), by omega, HB⟩
 refine eF 0 71 (f.kind.toNat : Int) (1 : Int)<|rP 1 70 vF<|eN<|cF<|sR<|?_
 by_cases hx2 : (f.kind.toNat : Int) = (2 : Int)
 ·refine eT 0 122 (f.kind.toNat : Int) (2 : Int)<|rP 1 121 vT<|eN<|cT<|sR<|?_
  have hk_ : f.kind = 2 := kI 2
  have hmk_ := (Mur.mayFM_2 hH4_ hk_).1 hm
  have hp8_ := Mur.pre_len hmk_.1
  have hi8_ := hmk_.2.2.2.1
  refine rP 0 123 (pw w 8)<|rq 1 124 _ rfl (lR 8 (Mur.msgC f.gos.kind z.p.A z.p.n z.p.c f.gos.sum f.gos.cnt z.i.A z.i.n z.i.c f.gos.ans) (sgR hI.sz (qT ch3 (qT ch2 hb1)) 8 6 rfl) (by rw [Mur.msgC_length hI.ok.sum]; kernel_rfl))<|nW 2 6 ZM 31 fun W15 hb7 ch13 sz7 => rU 3 rfl (sB (Mur.msgC f.gos.kind z.p.A z.p.n z.p.c f.gos.sum f.gos.cnt z.i.A z.i.n z.i.c f.gos.ans).toArray (Mur.msgC_size hI.ok.sum) Mur.msgC_all hb7 (by kernel_rfl)) fun W16 hb8 ch14 zz14 => eN<|sR<|rP 0 125 (.slice AA1 nn1 cc1)<|rP 1 126 (pw W3 0)<|rq 2 127 _ rfl (ld 5 126 W3.heap.size 0 (vB f.gos.kind.toNat) (show World.cell? _ ⟨_, 0 + 0, _⟩ = _ from msg_kind (range_row hb8)))<|rq 3 128 (vU f.gos.kind.toNat) rfl (conv_int 5 23 (.tmp 127) rfl (by kernel_rfl) .u64 Tryz.underlying23 .u8 (f.gos.kind.toNat : Int) (by kernel_rfl) (u64_nat (n := f.gos.kind.toNat) (by omega)))<|rP 4 129 (pw W3 1)<|rq 5 130 _ rfl (ld 22 129 W3.heap.size 1 (.slice z.p.A z.p.n z.p.c) (show World.cell? _ ⟨_, 0 + 1, _⟩ = _ from msg_pre (range_row hb8)))<|rP 6 131 (vI z.p.n)<|rq 7 132 (vU z.p.n) rfl (conv_int 3 23 (.tmp 131) rfl (by kernel_rfl) .u64 Tryz.underlying23 .i64 (z.p.n : Int) (by kernel_rfl) (u64_nat (n := z.p.n) (by omega)))<|nS 8 133 2 #[vU f.gos.kind.toNat, vU z.p.n] 23 fun W17 hb9 ch15 sz8 => rK 9 134 (RNat2_any W16.heap.size f.gos.kind.toNat z.p.n W17 hb9 (by omega) (by omega)) ?_
  rintro _ W18 ⟨AA6, nn6, cc4, rfl, ow13, hle4, ch16⟩
  have zz16 := ch16.size
  have hq14 := ow13.nc
  have hq15 := ow13.cm
  have hq16 := ow13.byt.1
  refine rX 10 135 rfl rfl (ap8 nn6 cc4 (oA (oA (oB (oA ow1 ch13) ch14 ow1.lt) ch15) ch16).own ow13.byt ow13.nil (nn1 + nn6) ((formN f.kind.toNat ++ formN (u64n f.frm) ++ formN (u64n f.dst)) ++ (formN f.gos.kind.toNat ++ formN z.p.n))) ?_
  rintro _ W19 ⟨AA7, nn7, rfl, ow18, ch17, ha3⟩
  have zz17 := ch17.size
  have hq17 := ow18.nc
  have hq18 := ow18.cm
  have lts3 : ∀ k_, (.slice AA7 (nn1 + nn6) nn7 : Value).ownBlock = some k_ → (W2.heap.size ≤ k_ ∧ k_ < W19.heap.size) ∧ k_ ≠ W3.heap.size := fun k_ hk_ => ⟨ow18.lt k_ hk_, by rcases ha3 k_ hk_ with h_ | h_ <;> first | (have q_ := ow1.lt k_ h_; omega) | omega⟩
  refine rP 11 3 (.slice AA7 (nn1 + nn6) nn7)<|eN<|sR<|rP 0 136 (.slice AA7 (nn1 + nn6) nn7)<|rP 1 137 (pw W3 1)<|rq 2 138 _ rfl (ld 22 137 W3.heap.size 1 (.slice z.p.A z.p.n z.p.c) (show World.cell? _ ⟨_, 0 + 1, _⟩ = _ from msg_pre (range_row (Chg.hp ch17 (qT ch16 (qT ch15 hb8)) (off_blk (fun gz hgz => by have := ow1.lt gz hgz; omega)))))) ?_
  have kk20 := Chg.step (kA (kA (kB (kA (kA (kA (zA ch1 : Chg [] w W1) ch2) ch3) ch13) ch14) ch15) ch16) ch17 (newOr_blk (fun g hg => by have := ow1.lt g hg; omega))
  refine rX 3 139 rfl rfl (ap8 z.p.n z.p.c ow18.own (byt_chg hL.pre kk20 (fun g off e hl => trivial)) hL.np.nil (nn1 + nn6 + z.p.n) (((formN f.kind.toNat ++ formN (u64n f.frm) ++ formN (u64n f.dst)) ++ (formN f.gos.kind.toNat ++ formN z.p.n)) ++ f.gos.pre)) ?_
  rintro _ W20 ⟨AA8, nn8, rfl, ow19, ch18, ha4⟩
  have zz18 := ch18.size
  have hq19 := ow19.nc
  have hq20 := ow19.cm
  have lts4 : ∀ k_, (.slice AA8 (nn1 + nn6 + z.p.n) nn8 : Value).ownBlock = some k_ → (W2.heap.size ≤ k_ ∧ k_ < W20.heap.size) ∧ k_ ≠ W3.heap.size := fun k_ hk_ => ⟨ow19.lt k_ hk_, by rcases ha4 k_ hk_ with h_ | h_ <;> first | (have q_ := lts3 k_ h_; omega) | omega⟩
  refine rP 4 3 (.slice AA8 (nn1 + nn6 + z.p.n) nn8)<|eN<|sR<|rP 0 140 (pw W3 0)<|rq 1 141 _ rfl (ld 5 140 W3.heap.size 0 (vB f.gos.kind.toNat) (show World.cell? _ ⟨_, 0 + 0, _⟩ = _ from msg_kind (range_row (Chg.hp ch18 (Chg.hp ch17 (qT ch16 (qT ch15 hb8)) (off_blk (fun gz hgz => by have := ow1.lt gz hgz; omega))) (off_blk (fun gz hgz => by have := lts3 gz hgz; omega)))))) ?_
  by_cases hx3 : (f.gos.kind.toNat : Int) = (1 : Int)
  ·refine eT 2 142 (f.gos.kind.toNat : Int) (1 : Int)<|eN<|cT<|sR<|rP 0 143 (.slice AA8 (nn1 + nn6 + z.p.n) nn8)<|rP 1 144 (pw W3 2)<|rq 2 145 (.slice (some ⟨W3.heap.size, 2, none⟩) 32 32) rfl (arr_slice_at 28 5 (.tmp 144) 32 rfl Tryz.underlying28 (by kernel_rfl) W3.heap.size 2 (by kernel_rfl))<|rX 3 146 rfl rfl (ap8 32 32 ow19.own (byt_rng (show World.rangeAt _ _ (0 + 2) _ from Mur.msg_sum (range_row (Chg.hp ch18 (Chg.hp ch17 (qT ch16 (qT ch15 hb8)) (off_blk (fun gz hgz => by have := ow1.lt gz hgz; omega))) (off_blk (fun gz hgz => by have := lts3 gz hgz; omega))))) hI.ok.sum) (fun h => by cases h) (nn1 + nn6 + z.p.n + 32) ((((formN f.kind.toNat ++ formN (u64n f.frm) ++ formN (u64n f.dst)) ++ (formN f.gos.kind.toNat ++ formN z.p.n)) ++ f.gos.pre) ++ f.gos.sum)) ?_
   rintro _ W21 ⟨AA9, nn9, rfl, ow20, ch19, ha5⟩
   have zz19 := ch19.size
   have hq21 := ow20.nc
   have hq22 := ow20.cm
   have lts5 : ∀ k_, (.slice AA9 (nn1 + nn6 + z.p.n + 32) nn9 : Value).ownBlock = some k_ → (W2.heap.size ≤ k_ ∧ k_ < W21.heap.size) ∧ k_ ≠ W3.heap.size := fun k_ hk_ => ⟨ow20.lt k_ hk_, by rcases ha5 k_ hk_ with h_ | h_ <;> first | (have q_ := lts4 k_ h_; omega) | omega⟩
   refine rP 4 3 (.slice AA9 (nn1 + nn6 + z.p.n + 32) nn9)<|eN<|reg<|rP 0 147 (.slice AA9 (nn1 + nn6 + z.p.n + 32) nn9)<|rP 1 148 (pw W3 34)<|rq 2 149 _ rfl (ld 3 148 W3.heap.size 34 (vI f.gos.cnt) (show World.cell? _ ⟨_, 0 + 34, _⟩ = _ from Mur.msg_cnt hI.ok.sum (range_row (Chg.hp ch19 (Chg.hp ch18 (Chg.hp ch17 (qT ch16 (qT ch15 hb8)) (off_blk (fun gz hgz => by have := ow1.lt gz hgz; omega))) (off_blk (fun gz hgz => by have := lts3 gz hgz; omega))) (off_blk (fun gz hgz => by have := lts4 gz hgz; omega))))))<|rq 3 150 (vU (u64n f.gos.cnt : Nat)) rfl (conv_u64n 3 23 (.tmp 149) rfl (by kernel_rfl) Tryz.underlying23 .i64 f.gos.cnt (by kernel_rfl))<|nS 4 151 1 #[vU (u64n f.gos.cnt : Nat)] 23 fun W22 hb10 ch20 sz9 => rK 5 152 (RNat1_any W21.heap.size (u64n f.gos.cnt) W22 hb10 (u64n_lt _)) ?_
   rintro _ W23 ⟨AA10, nn10, cc5, rfl, ow21, hle5, ch21⟩
   have zz21 := ch21.size
   have hq23 := ow21.nc
   have hq24 := ow21.cm
   have hq25 := ow21.byt.1
   refine rX 6 153 rfl rfl (ap8 nn10 cc5 (oA (oA ow20 ch20) ch21).own ow21.byt ow21.nil (nn1 + nn6 + z.p.n + 32 + nn10) (((((formN f.kind.toNat ++ formN (u64n f.frm) ++ formN (u64n f.dst)) ++ (formN f.gos.kind.toNat ++ formN z.p.n)) ++ f.gos.pre) ++ f.gos.sum) ++ (formN (u64n f.gos.cnt)))) ?_
   rintro _ W24 ⟨AA11, nn11, rfl, ow24, ch22, ha6⟩
   have zz22 := ch22.size
   have hq26 := ow24.nc
   have hq27 := ow24.cm
   have lts6 : ∀ k_, (.slice AA11 (nn1 + nn6 + z.p.n + 32 + nn10) nn11 : Value).ownBlock = some k_ → (W2.heap.size ≤ k_ ∧ k_ < W24.heap.size) ∧ k_ ≠ W3.heap.size := fun k_ hk_ => ⟨ow24.lt k_ hk_, by rcases ha6 k_ hk_ with h_ | h_ <;> first | (have q_ := lts5 k_ h_; omega) | omega⟩
   refine rP 7 3 (.slice AA11 (nn1 + nn6 + z.p.n + 32 + nn10) nn11)<|rE<|inN<|nxt<|sR<|rP 0 212 (.slice AA11 (nn1 + nn6 + z.p.n + 32 + nn10) nn11)<|rP 1 2 (.slice AA11 (nn1 + nn6 + z.p.n + 32 + nn10) nn11)<|eN<|wp_ret<|?_
   have hH_ := ow24
   have hgk_ : f.gos.kind = 1 := kI 1
   have hE_ : ((((formN f.kind.toNat ++ formN (u64n f.frm) ++ formN (u64n f.dst)) ++ (formN f.gos.kind.toNat ++ formN z.p.n)) ++ f.gos.pre) ++ f.gos.sum) ++ (formN (u64n f.gos.cnt)) = bodyFM f := by rw [← Mur.bodyB_2s hm hk_ hgk_, u64n_of (n := f.kind.toNat) (by omega), u64n_of (n := f.gos.kind.toNat) (by omega), ← hpl_] <;> simp only [List.append_assoc]
   rw [hE_] at hH_
   have hbd_ := body_le hm hI.ok
   have hbl_ := hH_.byt.1
   exact rt (.slice AA11 (nn1 + nn6 + z.p.n + 32 + nn10) nn11) ⟨_, _, _, rfl, own8_low hH_ (by omega), by omega, (Chg.step (kA (kA (Chg.step (Chg.step kk20 ch18 (newOr_blk (fun g hg => by have := lts3 g hg; omega))) ch19 (newOr_blk (fun g hg => by have := lts4 g hg; omega))) ch20) ch21) ch22 (newOr_blk (fun g hg => by have := lts5 g hg; omega)))⟩
  refine eF 2 142 (f.gos.kind.toNat : Int) (1 : Int)<|eN<|cF<|sR<|rP 0 154 (.slice AA8 (nn1 + nn6 + z.p.n) nn8)<|rP 1 155 (pw W3 35)<|rq 2 156 _ rfl (ld 29 155 W3.heap.size 35 (.slice z.i.A z.i.n z.i.c) (show World.cell? _ ⟨_, 0 + 35, _⟩ = _ from msg_items hI.ok.sum (range_row (Chg.hp ch18 (Chg.hp ch17 (qT ch16 (qT ch15 hb8)) (off_blk (fun gz hgz => by have := ow1.lt gz hgz; omega))) (off_blk (fun gz hgz => by have := lts3 gz hgz; omega))))))<|rP 3 157 (vI z.i.n)<|rq 4 158 (vU z.i.n) rfl (conv_int 3 23 (.tmp 157) rfl (by kernel_rfl) .u64 Tryz.underlying23 .i64 (z.i.n : Int) (by kernel_rfl) (u64_nat (n := z.i.n) (by omega)))<|nS 5 159 1 #[vU z.i.n] 23 fun W25 hb11 ch23 sz10 => rK 6 160 (RNat1_any W20.heap.size z.i.n W25 hb11 (by omega)) ?_
  rintro _ W26 ⟨AA12, nn12, cc6, rfl, ow25, hle6, ch24⟩
  have zz24 := ch24.size
  have hq28 := ow25.nc
  have hq29 := ow25.cm
  have hq30 := ow25.byt.1
  refine rX 7 161 rfl rfl (ap8 nn12 cc6 (oA (oA ow19 ch23) ch24).own ow25.byt ow25.nil (nn1 + nn6 + z.p.n + nn12) ((((formN f.kind.toNat ++ formN (u64n f.frm) ++ formN (u64n f.dst)) ++ (formN f.gos.kind.toNat ++ formN z.p.n)) ++ f.gos.pre) ++ (formN z.i.n))) ?_
  rintro _ W27 ⟨AA13, nn13, rfl, ow28, ch25, ha7⟩
  have zz25 := ch25.size
  have hq31 := ow28.nc
  have hq32 := ow28.cm
  have lts7 : ∀ k_, (.slice AA13 (nn1 + nn6 + z.p.n + nn12) nn13 : Value).ownBlock = some k_ → (W2.heap.size ≤ k_ ∧ k_ < W27.heap.size) ∧ k_ ≠ W3.heap.size := fun k_ hk_ => ⟨ow28.lt k_ hk_, by rcases ha7 k_ hk_ with h_ | h_ <;> first | (have q_ := lts4 k_ h_; omega) | omega⟩
  refine rP 8 3 (.slice AA13 (nn1 + nn6 + z.p.n + nn12) nn13)<|eN<|wp_seq<|sR<|rP 0 7 (vI 0)<|eN<|wp_block<|?_
  have hbase_ : W2.heap.size ≤ W27.heap.size := by omega
  refine Wk.loop (fun m_ a wr => ∃ (i : Nat) (A1 : Option Addr) (N1 : Nat) (c1 : Nat), m_ = z.i.n - i ∧ a = RBody_F2 a.tmps (.slice A1 N1 c1) (pw W3 0) (vI i) ∧ i ≤ z.i.n ∧ Own8 wr W2.heap.size 5 A1 N1 c1 ((((formN f.kind.toNat ++ formN (u64n f.frm) ++ formN (u64n f.dst)) ++ (formN f.gos.kind.toNat ++ formN z.p.n)) ++ f.gos.pre) ++ (formN z.i.n) ++ ((f.gos.items.take i).map Att.raw).flatten) ∧ wr.heap[W3.heap.size]? = some (.cells (Mur.msgC f.gos.kind z.p.A z.p.n z.p.c f.gos.sum f.gos.cnt z.i.A z.i.n z.i.c f.gos.ans).toArray 31 (0, 0)) ∧ N1 ≤ nn1 + nn6 + z.p.n + nn12 + 104 * i ∧ W2.heap.size ≤ wr.heap.size ∧ (∀ q_, (Value.slice A1 N1 c1).ownBlock = some q_ → q_ ≠ W3.heap.size) ∧ Chg [] w wr) (z.i.n - 0) ?_ ?_
  ·have kk26 := Chg.step kk20 ch18 (newOr_blk (fun g hg => by have := lts3 g hg; omega))
   refine ⟨0, AA13, nn1 + nn6 + z.p.n + nn12, nn13, rfl, by kernel_rfl, (by omega), (by rw [List.take_zero]; simp only [List.map_nil, List.flatten_nil, List.append_nil]; exact ow28), (Chg.hp ch25 (qT ch24 (qT ch23 (Chg.hp ch18 (Chg.hp ch17 (qT ch16 (qT ch15 hb8)) (off_blk (fun gz hgz => by have := ow1.lt gz hgz; omega))) (off_blk (fun gz hgz => by have := lts3 gz hgz; omega))))) (off_blk (fun gz hgz => by have := lts4 gz hgz; omega))), (by omega), (by omega), (fun q_ h_ => (lts7 q_ h_).2), (Chg.step (kA (kA kk26 ch23) ch24) ch25 (newOr_blk (fun g hg => by have := lts4 g hg; omega)))⟩
  rintro mm2 aa2 W28 ⟨i, A1, N1, c1, hmm2, hF2, hi, hO, hgb, hN, hbz, hsp, HB⟩
  generalize aa2.tmps = bb2 at hF2
  subst hF2
  have lts0 : ∀ k_, (Value.slice A1 N1 c1).ownBlock = some k_ → (W2.heap.size ≤ k_ ∧ k_ < W28.heap.size) ∧ k_ ≠ W3.heap.size := fun k_ h_ => ⟨hO.lt k_ h_, hsp k_ h_⟩
  have hzB := HB.size
  have hOn := hO.nc
  have hOc := hO.cm
  have hbxl_ := (Array.getElem?_eq_some_iff.1 hgb).1
  by_cases hlt : i < z.i.n
  ·obtain ⟨xa, hxa⟩ : ∃ x_, f.gos.items[i]? = some x_ := ⟨_, List.getElem?_eq_getElem (by omega)⟩
   obtain ⟨g1, o1, hA1_, hr1⟩ := hL.its.slR.row (map_at Mur.attL hxa) (by decide)
   have hg1l_ : g1 < w.heap.size := slr_lt hL.its.slR (by decide) hA1_ (by omega)
   refine wp_seq<|sR<|rP 0 162 (vI i)<|rP 1 163 (pw W3 35)<|rq 2 164 _ rfl (ld 29 163 W3.heap.size 35 (.slice z.i.A z.i.n z.i.c) (show World.cell? _ ⟨_, 0 + 35, _⟩ = _ from msg_items hI.ok.sum (range_row hgb)))<|rP 3 165 (vI z.i.n)<|bT 4 166 ((i : Int) < (z.i.n : Int))<|eN<|cT<|wp_skip<|nxt<|wp_seq<|wp_block<|reg<|rP 0 169 (.slice A1 N1 c1)<|rP 1 170 (pw W3 35)<|rq 2 171 _ rfl (ld 29 170 W3.heap.size 35 (.slice z.i.A z.i.n z.i.c) (show World.cell? _ ⟨_, 0 + 35, _⟩ = _ from msg_items hI.ok.sum (range_row hgb)))<|rP 3 172 (vI i)<|rq 4 173 (pt g1 (o1 + i * 97)) rfl (index_sl 29 35 (.tmp 171) (.tmp 172) rfl Tryz.underlying29 97 (by kernel_rfl) g1 o1 z.i.n z.i.c i .i64 (by rw [← hA1_]; kernel_rfl) (by kernel_rfl) (by omega))<|rq 5 174 _ rfl (lR (o1 + i * 97) (Mur.attC xa.k xa.r xa.n xa.t) (Chg.range HB hr1 trivial) (by rw [attC_length xa.hk xa.hr xa.ht]; kernel_rfl))<|rK 6 175 (Rbytes_any xa.k xa.r xa.t xa.n xa.hk xa.hr xa.ht W28) ?_
   rintro _ W29 ⟨qr1, cr1, RB1, hRB1, rfl, hbr1, hq33, hq34, ch26⟩
   have zz26 := ch26.size
   have hBt1 : ∀ g off, (some ⟨qr1, 0, none⟩ : Option Addr) = some ⟨g, off, none⟩ → W28.heap.size ≤ g ∧ g < W29.heap.size := fun g off e => by cases e; exact hq33
   refine rX 7 176 rfl rfl (ap8 104 cr1 (oA hO ch26).own hbr1 (fun h => by cases h) (N1 + 104) (((((formN f.kind.toNat ++ formN (u64n f.frm) ++ formN (u64n f.dst)) ++ (formN f.gos.kind.toNat ++ formN z.p.n)) ++ f.gos.pre) ++ (formN z.i.n) ++ ((f.gos.items.take i).map Att.raw).flatten) ++ RB1)) ?_
   rintro _ W30 ⟨AA14, nn14, rfl, ow30, ch27, ha8⟩
   have zz27 := ch27.size
   have hq35 := ow30.nc
   have hq36 := ow30.cm
   have lts8 : ∀ k_, (.slice AA14 (N1 + 104) nn14 : Value).ownBlock = some k_ → (W2.heap.size ≤ k_ ∧ k_ < W30.heap.size) ∧ k_ ≠ W3.heap.size := fun k_ hk_ => ⟨ow30.lt k_ hk_, by rcases ha8 k_ hk_ with h_ | h_ <;> first | (have q_ := lts0 k_ h_; omega) | omega⟩
   refine rP 8 3 (.slice AA14 (N1 + 104) nn14)<|rE<|inN<|nxt<|reg<|rP 0 167 (vI i)<|rI 1 168 ((i : Int) + 1) (((i + 1 : Nat) : Int))<|rP 2 7 (vI (i + 1 : Nat))<|eN<|?_
   refine ⟨_, ?_, i + 1, AA14, N1 + 104, nn14, rfl, by kernel_rfl, (by omega), (by rw [flat_sn Att.raw hxa, ← List.append_assoc]; rw [show Att.raw xa = RB1 from hRB1.out.symm]; exact own8_low ow30 (by omega)), (Chg.hp ch27 (qT ch26 hgb) (off_blk (fun gz hgz => by have := lts0 gz hgz; omega))), (by omega), (by omega), (fun q_ h_ => (lts8 q_ h_).2), (Chg.step (kA HB ch26) ch27 (newOr_blk (fun g hg => by have := lts0 g hg; omega)))⟩
   omega
  refine wp_seq<|sR<|rP 0 162 (vI i)<|rP 1 163 (pw W3 35)<|rq 2 164 _ rfl (ld 29 163 W3.heap.size 35 (.slice z.i.A z.i.n z.i.c) (show World.cell? _ ⟨_, 0 + 35, _⟩ = _ from msg_items hI.ok.sum (range_row hgb)))<|rP 3 165 (vI z.i.n)<|bF 4 166 ((i : Int) < (z.i.n : Int))<|eN<|cF<|xX<|nxt<|reg<|rP 0 177 (.slice A1 N1 c1)<|rP 1 178 (pw W3 36)<|rq 2 179 _ rfl (ld 4 178 W3.heap.size 36 (.bool f.gos.ans) (show World.cell? _ ⟨_, 0 + 36, _⟩ = _ from Mur.msg_ans hI.ok.sum (range_row hgb)))<|rK 3 180 (RFlag_any f.gos.ans W28) ?_
  rintro _ W31 ⟨rfl, ch28⟩
  have zz28 := ch28.size
  refine nS 4 181 1 #[vU (Mur.flagN f.gos.ans : Nat)] 23 fun W32 hb12 ch29 sz11 => rK 5 182 (RNat1_any W31.heap.size (Mur.flagN f.gos.ans) W32 hb12 (by cases f.gos.ans <;> decide)) ?_
  rintro _ W33 ⟨AA15, nn15, cc7, rfl, ow31, hle7, ch30⟩
  have zz30 := ch30.size
  have hq37 := ow31.nc
  have hq38 := ow31.cm
  have hq39 := ow31.byt.1
  refine rX 6 183 rfl rfl (ap8 nn15 cc7 (oA (oA (oA hO ch28) ch29) ch30).own ow31.byt ow31.nil (N1 + nn15) (((((formN f.kind.toNat ++ formN (u64n f.frm) ++ formN (u64n f.dst)) ++ (formN f.gos.kind.toNat ++ formN z.p.n)) ++ f.gos.pre) ++ (formN z.i.n) ++ ((f.gos.items.take i).map Att.raw).flatten) ++ (formN (Mur.flagN f.gos.ans)))) ?_
  rintro _ W34 ⟨AA16, nn16, rfl, ow35, ch31, ha9⟩
  have zz31 := ch31.size
  have hq40 := ow35.nc
  have hq41 := ow35.cm
  have lts9 : ∀ k_, (.slice AA16 (N1 + nn15) nn16 : Value).ownBlock = some k_ → (W2.heap.size ≤ k_ ∧ k_ < W34.heap.size) ∧ k_ ≠ W3.heap.size := fun k_ hk_ => ⟨ow35.lt k_ hk_, by rcases ha9 k_ hk_ with h_ | h_ <;> first | (have q_ := lts0 k_ h_; omega) | omega⟩
  refine rP 7 3 (.slice AA16 (N1 + nn15) nn16)<|rE<|inN<|nxt<|sR<|rP 0 212 (.slice AA16 (N1 + nn15) nn16)<|rP 1 2 (.slice AA16 (N1 + nn15) nn16)<|eN<|wp_ret<|?_
  have hH_ := ow35
  have hgk_ : ¬ f.gos.kind = 1 := fun e_ => by have h_ : f.gos.kind.toNat = 1 := congrArg UInt8.toNat e_; omega
  have hE_ : ((((formN f.kind.toNat ++ formN (u64n f.frm) ++ formN (u64n f.dst)) ++ (formN f.gos.kind.toNat ++ formN z.p.n)) ++ f.gos.pre) ++ (formN z.i.n) ++ ((f.gos.items.take i).map Att.raw).flatten) ++ (formN (Mur.flagN f.gos.ans)) = bodyFM f := by rw [← Mur.bodyB_2i hm hk_ hgk_, u64n_of (n := f.kind.toNat) (by omega), u64n_of (n := f.gos.kind.toNat) (by omega), ← hpl_, List.take_of_length_le (show f.gos.items.length ≤ i by omega), ← hil_] <;> simp only [List.append_assoc]
  rw [hE_] at hH_
  have hbd_ := body_le hm hI.ok
  have hbl_ := hH_.byt.1
  exact rt (.slice AA16 (N1 + nn15) nn16) ⟨_, _, _, rfl, own8_low hH_ (by omega), by omega, (Chg.step (kA (kA (kA HB ch28) ch29) ch30) ch31 (newOr_blk (fun g hg => by have := lts0 g hg; omega)))⟩
 refine eF 0 122 (f.kind.toNat : Int) (2 : Int)<|rP 1 121 vF<|eN<|cF<|sR<|?_
 by_cases hx4 : (f.kind.toNat : Int) = (3 : Int)
 ·refine eT 0 185 (f.kind.toNat : Int) (3 : Int)<|rP 1 184 vT<|eN<|cT<|sR<|?_
  have hk_ : f.kind = 3 := kI 3
  have hmk_ := (Mur.mayFM_3 hH4_ hk_).1 hm
  refine rP 0 186 (.slice AA1 nn1 cc1)<|rP 1 187 (pw w 45)<|rP 2 188 (pw w 45)<|rq 3 189 (.slice (some ⟨w.heap.size, 45, none⟩) 32 32) rfl (arr_slice_at 28 5 (.tmp 188) 32 rfl Tryz.underlying28 (by kernel_rfl) w.heap.size 45 (by kernel_rfl))<|rX 4 190 rfl rfl (ap8 32 32 ow1.own (byt_rng (sgW hI.sz (qT ch3 (qT ch2 hb1)) 14) hI.ok.key) (fun h => by cases h) (nn1 + 32) ((formN f.kind.toNat ++ formN (u64n f.frm) ++ formN (u64n f.dst)) ++ f.cKey)) ?_
  rintro _ W35 ⟨AA17, nn17, rfl, ow36, ch32, ha10⟩
  have zz32 := ch32.size
  have hq42 := ow36.nc
  have hq43 := ow36.cm
  refine rP 5 3 (.slice AA17 (nn1 + 32) nn17)<|eN<|?_
  refine dReg ((Wk.blk (.slice AA17 (nn1 + 32) nn17))) (by kernel_rfl) ?_
  intro W36 ch33 sz12
  have zz33 := ch33.size
  have sS5 : Chg ((Wk.blk (.slice AA17 (nn1 + 32) nn17))) W36 W36 := (Chg.refl _).more (by simp)
  refine dW 0 191 (.slice AA17 (nn1 + 32) nn17) sS5<|dW 1 192 (pw w 45) sS5<|dW 2 193 (pw w 78) sS5<|dV 3 194 (vU f.cInc) rfl rfl (fun w' hw' => fl 23 193 w.heap.size 78 (vU f.cInc) hI.sz (Chg.hp hw' (qT ch33 (Chg.hp ch32 (qT ch3 (qT ch2 hb1)) (off_blk (fun gz hgz => by have := ow1.lt gz hgz; omega)))) (off_blk (fun gz hgz => by have := ow36.lt gz hgz; omega))) 16) sS5<|dW 4 195 (pw w 45) sS5<|dW 5 196 (pw w 79) sS5<|dV 6 197 (vU f.cCnt) rfl rfl (fun w' hw' => fl 23 196 w.heap.size 79 (vU f.cCnt) hI.sz (Chg.hp hw' (qT ch33 (Chg.hp ch32 (qT ch3 (qT ch2 hb1)) (off_blk (fun gz hgz => by have := ow1.lt gz hgz; omega)))) (off_blk (fun gz hgz => by have := ow36.lt gz hgz; omega))) 17) sS5<|dW 7 198 (pw w 45) sS5<|dW 8 199 (pw w 80) sS5<|dV 9 200 (.bool f.cGone) rfl rfl (fun w' hw' => fl 4 199 w.heap.size 80 (.bool f.cGone) hI.sz (Chg.hp hw' (qT ch33 (Chg.hp ch32 (qT ch3 (qT ch2 hb1)) (off_blk (fun gz hgz => by have := ow1.lt gz hgz; omega)))) (off_blk (fun gz hgz => by have := ow36.lt gz hgz; omega))) 18) sS5<|dO 10<|oK 201 (RFlag_any f.cGone W36) ?_
  rintro _ W37 ⟨rfl, ch34⟩
  have zz34 := ch34.size
  have sS6 := kA sS5 ch34
  refine aN sS6<|dO 11<|oS 202 3 #[vU f.cInc, vU f.cCnt, vU (Mur.flagN f.cGone : Nat)] 23 fun W38 hb13 ch35 sz13 => ?_
  have sS7 := kA sS6 ch35
  refine aN sS7<|dO 12<|oK 203 (RNat3_any W37.heap.size f.cInc f.cCnt (Mur.flagN f.cGone) W38 hb13 hI.ok.inc hI.ok.cnt (by cases f.cGone <;> decide)) ?_
  rintro _ W39 ⟨AA18, nn18, cc8, rfl, ow37, hle8, ch36⟩
  have zz36 := ch36.size
  have hq44 := ow37.nc
  have hq45 := ow37.cm
  have hq46 := ow37.byt.1
  have sS8 := kA sS7 ch36
  refine aN sS8<|dO 13<|oEx (some 204) _ rfl rfl (by kernel_rfl) (ap8 nn18 cc8 (oA (oA (oA (oA ow36 ch33) ch34) ch35) ch36).own ow37.byt ow37.nil (nn1 + 32 + nn18) (((formN f.kind.toNat ++ formN (u64n f.frm) ++ formN (u64n f.dst)) ++ f.cKey) ++ (formN f.cInc ++ formN f.cCnt ++ formN (Mur.flagN f.cGone)))) ?_
  rintro _ W40 ⟨AA19, nn19, rfl, ow42, ch37, ha11⟩
  have zz37 := ch37.size
  have hq47 := ow42.nc
  have hq48 := ow42.cm
  have sS9 := Chg.step sS8 ch37 (newOr_iff.2 (fun t ht => .inl ht))
  refine aN sS9<|dW 14 3 (.slice AA19 (nn1 + 32 + nn18) nn19) sS9<|dE<|inN<|nxt<|sR<|rP 0 212 (.slice AA19 (nn1 + 32 + nn18) nn19)<|rP 1 2 (.slice AA19 (nn1 + 32 + nn18) nn19)<|eN<|wp_ret<|?_
  have hH_ := ow42
  have hE_ : ((formN f.kind.toNat ++ formN (u64n f.frm) ++ formN (u64n f.dst)) ++ f.cKey) ++ (formN f.cInc ++ formN f.cCnt ++ formN (Mur.flagN f.cGone)) = bodyFM f := by rw [← Mur.bodyB_3 hm hk_, u64n_of (n := f.kind.toNat) (by omega)] <;> simp only [List.append_assoc]
  rw [hE_] at hH_
  have hbd_ := body_le hm hI.ok
  have hbl_ := hH_.byt.1
  exact rt (.slice AA19 (nn1 + 32 + nn18) nn19) ⟨_, _, _, rfl, own8_low hH_ (by omega), by omega, (Chg.step (kA (kA (kA (kA (Chg.step (kA (kA (zA ch1 : Chg [] w W1) ch2) ch3) ch32 (newOr_blk (fun g hg => by have := ow1.lt g hg; omega))) ch33) ch34) ch35) ch36) ch37 (newOr_blk (fun g hg => by have := ow36.lt g hg; omega)))⟩
 refine eF 0 185 (f.kind.toNat : Int) (3 : Int)<|rP 1 184 vF<|eN<|cF<|sR<|?_
 by_cases hx5 : (f.kind.toNat : Int) = (4 : Int)
 ·refine eT 0 206 (f.kind.toNat : Int) (4 : Int)<|rP 1 205 vT<|eN<|cT<|reg<|?_
  have hk_ : f.kind = 4 := kI 4
  have hmk_ := (Mur.mayFM_4 hH4_ hk_).1 hm
  refine rP 0 207 (.slice AA1 nn1 cc1)<|rP 1 208 (pw w 81)<|rq 2 209 _ rfl (lR 81 (Mur.attC f.att.k f.att.r f.att.n f.att.t) (sgR hI.sz (qT ch3 (qT ch2 hb1)) 19 4 Mur.frmL_att) (by rw [attC_length f.att.hk f.att.hr f.att.ht]; kernel_rfl))<|rK 3 210 (Rbytes_any f.att.k f.att.r f.att.t f.att.n f.att.hk f.att.hr f.att.ht W3) ?_
  rintro _ W41 ⟨qr2, cr2, RB2, hRB2, rfl, hbr2, hq49, hq50, ch38⟩
  have zz38 := ch38.size
  have hBt2 : ∀ g off, (some ⟨qr2, 0, none⟩ : Option Addr) = some ⟨g, off, none⟩ → W3.heap.size ≤ g ∧ g < W41.heap.size := fun g off e => by cases e; exact hq49
  refine rX 4 211 rfl rfl (ap8 104 cr2 (oA ow1 ch38).own hbr2 (fun h => by cases h) (nn1 + 104) ((formN f.kind.toNat ++ formN (u64n f.frm) ++ formN (u64n f.dst)) ++ RB2)) ?_
  rintro _ W42 ⟨AA20, nn20, rfl, ow44, ch39, ha12⟩
  have zz39 := ch39.size
  have hq51 := ow44.nc
  have hq52 := ow44.cm
  refine rP 5 3 (.slice AA20 (nn1 + 104) nn20)<|rE<|inN<|nxt<|sR<|rP 0 212 (.slice AA20 (nn1 + 104) nn20)<|rP 1 2 (.slice AA20 (nn1 + 104) nn20)<|eN<|wp_ret<|?_
  have hH_ := ow44
  have hE_ : (formN f.kind.toNat ++ formN (u64n f.frm) ++ formN (u64n f.dst)) ++ RB2 = bodyFM f := by rw [← Mur.bodyB_4 hm hk_, u64n_of (n := f.kind.toNat) (by omega), show f.att.raw = RB2 from hRB2.out.symm] <;> simp only [List.append_assoc]
  rw [hE_] at hH_
  have hbd_ := body_le hm hI.ok
  have hbl_ := hH_.byt.1
  exact rt (.slice AA20 (nn1 + 104) nn20) ⟨_, _, _, rfl, own8_low hH_ (by omega), by omega, (Chg.step (kA (kA (kA (zA ch1 : Chg [] w W1) ch2) ch3) ch38) ch39 (newOr_blk (fun g hg => by have := ow1.lt g hg; omega)))⟩
 refine eF 0 206 (f.kind.toNat : Int) (4 : Int)<|rP 1 205 vF<|eN<|cF<|sR<|rP 0 22 (.slice AA1 nn1 cc1)<|rP 1 23 (pw w 178)<|rq 2 24 (.slice (some ⟨w.heap.size, 178, none⟩) 32 32) rfl (arr_slice_at 28 5 (.tmp 23) 32 rfl Tryz.underlying28 (by kernel_rfl) w.heap.size 178 (by kernel_rfl))<|rX 3 25 rfl rfl (ap8 32 32 ow1.own (byt_rng (sgW hI.sz (qT ch3 (qT ch2 hb1)) 23) hI.ok.root) (fun h => by cases h) (nn1 + 32) ((formN f.kind.toNat ++ formN (u64n f.frm) ++ formN (u64n f.dst)) ++ f.root)) ?_
 rintro _ W43 ⟨AA21, nn21, rfl, ow45, ch40, ha13⟩
 have zz40 := ch40.size
 have hq53 := ow45.nc
 have hq54 := ow45.cm
 refine rP 4 3 (.slice AA21 (nn1 + 32) nn21)<|eN<|sR<|rP 0 26 (.slice AA21 (nn1 + 32) nn21)<|rP 1 27 (pw w 210)<|rF 2 28 210 (vI f.chunk) hI.sz (Chg.hp ch40 (qT ch3 (qT ch2 hb1)) (off_blk (fun gz hgz => by have := ow1.lt gz hgz; omega))) 24<|rq 3 29 (vU (u64n f.chunk : Nat)) rfl (conv_u64n 3 23 (.tmp 28) rfl (by kernel_rfl) Tryz.underlying23 .i64 f.chunk (by kernel_rfl))<|nS 4 30 1 #[vU (u64n f.chunk : Nat)] 23 fun W44 hb14 ch41 sz14 => rK 5 31 (RNat1_any W43.heap.size (u64n f.chunk) W44 hb14 (u64n_lt _)) ?_
 rintro _ W45 ⟨AA22, nn22, cc9, rfl, ow46, hle9, ch42⟩
 have zz42 := ch42.size
 have hq55 := ow46.nc
 have hq56 := ow46.cm
 have hq57 := ow46.byt.1
 refine rX 6 32 rfl rfl (ap8 nn22 cc9 (oA (oA ow45 ch41) ch42).own ow46.byt ow46.nil (nn1 + 32 + nn22) (((formN f.kind.toNat ++ formN (u64n f.frm) ++ formN (u64n f.dst)) ++ f.root) ++ (formN (u64n f.chunk)))) ?_
 rintro _ W46 ⟨AA23, nn23, rfl, ow49, ch43, ha14⟩
 have zz43 := ch43.size
 have hq58 := ow49.nc
 have hq59 := ow49.cm
 refine rP 7 3 (.slice AA23 (nn1 + 32 + nn22) nn23)<|eN<|sR<|rP 0 33 (pw w 0)<|rF 1 34 0 (vB f.kind.toNat) hI.sz (Chg.hp ch43 (qT ch42 (qT ch41 (Chg.hp ch40 (qT ch3 (qT ch2 hb1)) (off_blk (fun gz hgz => by have := ow1.lt gz hgz; omega))))) (off_blk (fun gz hgz => by have := ow45.lt gz hgz; omega))) 0 ?_
 by_cases hx6 : (f.kind.toNat : Int) = (6 : Int)
 ·refine eT 2 35 (f.kind.toNat : Int) (6 : Int)<|eN<|cT<|sR<|?_
  have hk_ : f.kind = 6 := kI 6
  have hmk_ := (Mur.mayFM_6 hH4_ hk_).1 hm
  have hy6_ := hmk_.2.1
  have hf6_ := hmk_.2.2
  refine rP 0 36 (.slice AA23 (nn1 + 32 + nn22) nn23)<|rP 1 37 (pw w 211)<|rF 2 38 211 (.slice z.y.A z.y.n z.y.c) hI.sz (Chg.hp ch43 (qT ch42 (qT ch41 (Chg.hp ch40 (qT ch3 (qT ch2 hb1)) (off_blk (fun gz hgz => by have := ow1.lt gz hgz; omega))))) (off_blk (fun gz hgz => by have := ow45.lt gz hgz; omega))) 25<|rP 3 39 (vI z.y.n)<|rq 4 40 (vU z.y.n) rfl (conv_int 3 23 (.tmp 39) rfl (by kernel_rfl) .u64 Tryz.underlying23 .i64 (z.y.n : Int) (by kernel_rfl) (u64_nat (n := z.y.n) (by omega)))<|nS 5 41 1 #[vU z.y.n] 23 fun W47 hb15 ch44 sz15 => rK 6 42 (RNat1_any W46.heap.size z.y.n W47 hb15 (by omega)) ?_
  rintro _ W48 ⟨AA24, nn24, cc10, rfl, ow50, hle10, ch45⟩
  have zz45 := ch45.size
  have hq60 := ow50.nc
  have hq61 := ow50.cm
  have hq62 := ow50.byt.1
  refine rX 7 43 rfl rfl (ap8 nn24 cc10 (oA (oA ow49 ch44) ch45).own ow50.byt ow50.nil (nn1 + 32 + nn22 + nn24) ((((formN f.kind.toNat ++ formN (u64n f.frm) ++ formN (u64n f.dst)) ++ f.root) ++ (formN (u64n f.chunk))) ++ (formN z.y.n))) ?_
  rintro _ W49 ⟨AA25, nn25, rfl, ow53, ch46, ha15⟩
  have zz46 := ch46.size
  have hq63 := ow53.nc
  have hq64 := ow53.cm
  refine rP 8 3 (.slice AA25 (nn1 + 32 + nn22 + nn24) nn25)<|eN<|sR<|rP 0 44 (.slice AA25 (nn1 + 32 + nn22 + nn24) nn25)<|rP 1 45 (pw w 211)<|rF 2 46 211 (.slice z.y.A z.y.n z.y.c) hI.sz (Chg.hp ch46 (qT ch45 (qT ch44 (Chg.hp ch43 (qT ch42 (qT ch41 (Chg.hp ch40 (qT ch3 (qT ch2 hb1)) (off_blk (fun gz hgz => by have := ow1.lt gz hgz; omega))))) (off_blk (fun gz hgz => by have := ow45.lt gz hgz; omega))))) (off_blk (fun gz hgz => by have := ow49.lt gz hgz; omega))) 25 ?_
  have kk59 := Chg.step (kA (kA (Chg.step (kA (kA (Chg.step (kA (kA (zA ch1 : Chg [] w W1) ch2) ch3) ch40 (newOr_blk (fun g hg => by have := ow1.lt g hg; omega))) ch41) ch42) ch43 (newOr_blk (fun g hg => by have := ow45.lt g hg; omega))) ch44) ch45) ch46 (newOr_blk (fun g hg => by have := ow49.lt g hg; omega))
  refine rX 3 47 rfl rfl (ap8 z.y.n z.y.c ow53.own (byt_chg hL.byt kk59 (fun g off e hl => trivial)) hL.ny.nil (nn1 + 32 + nn22 + nn24 + z.y.n) (((((formN f.kind.toNat ++ formN (u64n f.frm) ++ formN (u64n f.dst)) ++ f.root) ++ (formN (u64n f.chunk))) ++ (formN z.y.n)) ++ f.byt)) ?_
  rintro _ W50 ⟨AA26, nn26, rfl, ow54, ch47, ha16⟩
  have zz47 := ch47.size
  have hq65 := ow54.nc
  have hq66 := ow54.cm
  refine rP 4 3 (.slice AA26 (nn1 + 32 + nn22 + nn24 + z.y.n) nn26)<|eN<|sR<|rP 0 48 (.slice AA26 (nn1 + 32 + nn22 + nn24 + z.y.n) nn26)<|rP 1 49 (pw w 212)<|rF 2 50 212 (.slice z.f.A z.f.n z.f.c) hI.sz (Chg.hp ch47 (Chg.hp ch46 (qT ch45 (qT ch44 (Chg.hp ch43 (qT ch42 (qT ch41 (Chg.hp ch40 (qT ch3 (qT ch2 hb1)) (off_blk (fun gz hgz => by have := ow1.lt gz hgz; omega))))) (off_blk (fun gz hgz => by have := ow45.lt gz hgz; omega))))) (off_blk (fun gz hgz => by have := ow49.lt gz hgz; omega))) (off_blk (fun gz hgz => by have := ow53.lt gz hgz; omega))) 26<|rP 3 51 (vI z.f.n)<|rq 4 52 (vU z.f.n) rfl (conv_int 3 23 (.tmp 51) rfl (by kernel_rfl) .u64 Tryz.underlying23 .i64 (z.f.n : Int) (by kernel_rfl) (u64_nat (n := z.f.n) (by omega)))<|nS 5 53 1 #[vU z.f.n] 23 fun W51 hb16 ch48 sz16 => rK 6 54 (RNat1_any W50.heap.size z.f.n W51 hb16 (by omega)) ?_
  rintro _ W52 ⟨AA27, nn27, cc11, rfl, ow55, hle11, ch49⟩
  have zz49 := ch49.size
  have hq67 := ow55.nc
  have hq68 := ow55.cm
  have hq69 := ow55.byt.1
  refine rX 7 55 rfl rfl (ap8 nn27 cc11 (oA (oA ow54 ch48) ch49).own ow55.byt ow55.nil (nn1 + 32 + nn22 + nn24 + z.y.n + nn27) ((((((formN f.kind.toNat ++ formN (u64n f.frm) ++ formN (u64n f.dst)) ++ f.root) ++ (formN (u64n f.chunk))) ++ (formN z.y.n)) ++ f.byt) ++ (formN z.f.n))) ?_
  rintro _ W53 ⟨AA28, nn28, rfl, ow58, ch50, ha17⟩
  have zz50 := ch50.size
  have hq70 := ow58.nc
  have hq71 := ow58.cm
  refine rP 8 3 (.slice AA28 (nn1 + 32 + nn22 + nn24 + z.y.n + nn27) nn28)<|eN<|sR<|rP 0 8 (vI 0)<|eN<|wp_block<|?_
  have hbase_ : W2.heap.size ≤ W53.heap.size := by omega
  refine Wk.loop (fun m_ a wr => ∃ (i : Nat) (A1 : Option Addr) (N1 : Nat) (c1 : Nat), m_ = z.f.n - i ∧ a = RBody_F3 a.tmps (pw w 0) (.slice A1 N1 c1) (vI i) ∧ i ≤ z.f.n ∧ Own8 wr W2.heap.size 5 A1 N1 c1 ((((((formN f.kind.toNat ++ formN (u64n f.frm) ++ formN (u64n f.dst)) ++ f.root) ++ (formN (u64n f.chunk))) ++ (formN z.y.n)) ++ f.byt) ++ (formN z.f.n) ++ ((f.prf.take i).map (fun x : List UInt8 => x)).flatten) ∧ wr.heap[w.heap.size]? = some (.cells (frmP f z).flatten.toArray 38 (0, 0)) ∧ N1 ≤ nn1 + 32 + nn22 + nn24 + z.y.n + nn27 + 32 * i ∧ W2.heap.size ≤ wr.heap.size ∧ Chg [] w wr) (z.f.n - 0) ?_ ?_
  ·have kk60 := Chg.step kk59 ch47 (newOr_blk (fun g hg => by have := ow53.lt g hg; omega))
   refine ⟨0, AA28, nn1 + 32 + nn22 + nn24 + z.y.n + nn27, nn28, rfl, by kernel_rfl, (by omega), (by rw [List.take_zero]; simp only [List.map_nil, List.flatten_nil, List.append_nil]; exact ow58), (Chg.hp ch50 (qT ch49 (qT ch48 (Chg.hp ch47 (Chg.hp ch46 (qT ch45 (qT ch44 (Chg.hp ch43 (qT ch42 (qT ch41 (Chg.hp ch40 (qT ch3 (qT ch2 hb1)) (off_blk (fun gz hgz => by have := ow1.lt gz hgz; omega))))) (off_blk (fun gz hgz => by have := ow45.lt gz hgz; omega))))) (off_blk (fun gz hgz => by have := ow49.lt gz hgz; omega))) (off_blk (fun gz hgz => by have := ow53.lt gz hgz; omega))))) (off_blk (fun gz hgz => by have := ow54.lt gz hgz; omega))), (by omega), (by omega), (Chg.step (kA (kA kk60 ch48) ch49) ch50 (newOr_blk (fun g hg => by have := ow54.lt g hg; omega)))⟩
  rintro mm3 aa3 W54 ⟨i, A1, N1, c1, hmm3, hF3, hi, hO, hgb, hN, hbz, HB⟩
  generalize aa3.tmps = bb3 at hF3
  subst hF3
  have hzB := HB.size
  have hOn := hO.nc
  have hOc := hO.cm
  have hbxl_ := (Array.getElem?_eq_some_iff.1 hgb).1
  by_cases hlt : i < z.f.n
  ·obtain ⟨xa, hxa⟩ : ∃ x_, f.prf[i]? = some x_ := ⟨_, List.getElem?_eq_getElem (by omega)⟩
   obtain ⟨g1, o1, hA1_, hr1⟩ := hL.prf.row (map_at b8s hxa) (by decide)
   have hg1l_ : g1 < w.heap.size := slr_lt hL.prf (by decide) hA1_ (by omega)
   refine wp_seq<|sR<|rP 0 56 (vI i)<|rP 1 57 (pw w 212)<|rF 2 58 212 (.slice z.f.A z.f.n z.f.c) hI.sz hgb 26<|rP 3 59 (vI z.f.n)<|bT 4 60 ((i : Int) < (z.f.n : Int))<|eN<|cT<|wp_skip<|nxt<|wp_seq<|wp_block<|reg<|rP 0 63 (.slice A1 N1 c1)<|rP 1 64 (pw w 212)<|rF 2 65 212 (.slice z.f.A z.f.n z.f.c) hI.sz hgb 26<|rP 3 66 (vI i)<|rq 4 67 (pt g1 (o1 + i * 32)) rfl (index_sl 36 28 (.tmp 65) (.tmp 66) rfl Tryz.underlying36 32 (by kernel_rfl) g1 o1 z.f.n z.f.c i .i64 (by rw [← hA1_]; kernel_rfl) (by kernel_rfl) (by omega))<|rq 5 68 (.slice (some ⟨g1, o1 + i * 32, none⟩) 32 32) rfl (arr_slice_at 28 5 (.tmp 67) 32 rfl Tryz.underlying28 (by kernel_rfl) g1 (o1 + i * 32) (by kernel_rfl))<|rX 6 69 rfl rfl (ap8 32 32 hO.own (byt_rng (Chg.range HB hr1 trivial) (hI.ok.prf xa (List.mem_of_getElem? hxa))) (fun h => by cases h) (N1 + 32) (((((((formN f.kind.toNat ++ formN (u64n f.frm) ++ formN (u64n f.dst)) ++ f.root) ++ (formN (u64n f.chunk))) ++ (formN z.y.n)) ++ f.byt) ++ (formN z.f.n) ++ ((f.prf.take i).map (fun x : List UInt8 => x)).flatten) ++ xa)) ?_
   rintro _ W55 ⟨AA29, nn29, rfl, ow59, ch51, ha18⟩
   have zz51 := ch51.size
   have hq72 := ow59.nc
   have hq73 := ow59.cm
   refine rP 7 3 (.slice AA29 (N1 + 32) nn29)<|rE<|inN<|nxt<|reg<|rP 0 61 (vI i)<|rI 1 62 ((i : Int) + 1) (((i + 1 : Nat) : Int))<|rP 2 8 (vI (i + 1 : Nat))<|eN<|?_
   refine ⟨_, ?_, i + 1, AA29, N1 + 32, nn29, rfl, by kernel_rfl, (by omega), (by rw [flat_sn (fun x : List UInt8 => x) hxa, ← List.append_assoc]; exact own8_low ow59 (by omega)), (Chg.hp ch51 hgb (off_blk (fun gz hgz => by have := hO.lt gz hgz; omega))), (by omega), (by omega), (Chg.step HB ch51 (newOr_blk (fun g hg => by have := hO.lt g hg; omega)))⟩
   omega
  refine wp_seq<|sR<|rP 0 56 (vI i)<|rP 1 57 (pw w 212)<|rF 2 58 212 (.slice z.f.A z.f.n z.f.c) hI.sz hgb 26<|rP 3 59 (vI z.f.n)<|bF 4 60 ((i : Int) < (z.f.n : Int))<|eN<|cF<|xX<|inN<|nxt<|sR<|rP 0 212 (.slice A1 N1 c1)<|rP 1 2 (.slice A1 N1 c1)<|eN<|wp_ret<|?_
  have hH_ := hO
  have hE_ : (((((formN f.kind.toNat ++ formN (u64n f.frm) ++ formN (u64n f.dst)) ++ f.root) ++ (formN (u64n f.chunk))) ++ (formN z.y.n)) ++ f.byt) ++ (formN z.f.n) ++ ((f.prf.take i).map (fun x : List UInt8 => x)).flatten = bodyFM f := by rw [← Mur.bodyB_6 hm hk_, u64n_of (n := f.kind.toNat) (by omega), List.take_of_length_le (show f.prf.length ≤ i by omega), ← hyl_, ← hfl_] <;> simp only [List.append_assoc]
  rw [hE_] at hH_
  have hbd_ := body_le hm hI.ok
  have hbl_ := hH_.byt.1
  exact rt (.slice A1 N1 c1) ⟨_, _, _, rfl, own8_low hH_ (by omega), by omega, HB⟩
 refine eF 2 35 (f.kind.toNat : Int) (6 : Int)<|eN<|cF<|wp_skip<|inN<|nxt<|sR<|rP 0 212 (.slice AA23 (nn1 + 32 + nn22) nn23)<|rP 1 2 (.slice AA23 (nn1 + 32 + nn22) nn23)<|eN<|wp_ret<|?_
 have hH_ := ow49
 have hk_ : f.kind = 5 := kI 5
 have hE_ : ((formN f.kind.toNat ++ formN (u64n f.frm) ++ formN (u64n f.dst)) ++ f.root) ++ (formN (u64n f.chunk)) = bodyFM f := by rw [← Mur.bodyB_5 hm hk_, u64n_of (n := f.kind.toNat) (by omega)] <;> simp only [List.append_assoc]
 rw [hE_] at hH_
 have hbd_ := body_le hm hI.ok
 have hbl_ := hH_.byt.1
 exact rt (.slice AA23 (nn1 + 32 + nn22) nn23) ⟨_, _, _, rfl, own8_low hH_ (by omega), by omega, (Chg.step (kA (kA (Chg.step (kA (kA (zA ch1 : Chg [] w W1) ch2) ch3) ch40 (newOr_blk (fun g hg => by have := ow1.lt g hg; omega))) ch41) ch42) ch43 (newOr_blk (fun g hg => by have := ow45.lt g hg; omega)))⟩
end Go.Proofs.YtgbadghjnpbiaaaGreatDoor
namespace Go.Proofs.YtgbadghjnpbiaaaGreatDoor
open Go.RowKit Wk
open Mur (b8s Byt Own8 Seg Segs flat cutA attC Att SlA OwnA rowA msgC LiesF frmP bytesFM frmL_sz bodyFM own8_low)
set_option maxRecDepth 100000
set_option maxHeartbeats 4000000
theorem RBytes25_any (s : List UInt8) (A : Option Addr) (n c : Nat) (T : List UInt8 → List UInt8) (f : Mur.Frm) (z : Mur.Zs) (w : World) (hv : ShaVars w) (hb : Byt w A n s) (hnc : n ≤ c ∧ c ≤ 9223372036854775807) (ha : A = none → c = 0) (hn : n ≤ 1000000) (hT : ∀ x, T x = Mur.hmac s (18 :: x)) (_hTl : ∀ x, (T x).length = 32) (hL : LiesF w z f) (hI : Mur.FrmIn f) (hm : Mur.mayFM f) : Calls Tryz.prog 13 #[.slice A n c, .agg (frmP f z).flatten.toArray] w fun e w' => ∃ A1 n1 c1, e = .returned (.slice A1 n1 c1) ∧ Own8 w' w.heap.size 5 A1 n1 c1 (bytesFM T f) ∧ n1 ≤ 2000 ∧ Chg [] w w' := by
 have hml_ : Go.maxLen = 9223372036854775807 := rfl
 have HV := Go.Lib.hid hv
 clear hv
 have HBY := Go.Lib.hid hb
 clear hb
 have HA := Go.Lib.hid ha
 clear ha
 have hLin_ : z.In fun g => g < w.heap.size → Wk.Off g [] := ⟨fun _ _ _ _ => trivial, fun _ _ _ _ => trivial, fun _ _ _ _ => trivial, fun _ _ _ _ => trivial, fun _ _ _ _ => trivial⟩
 have hLunc_ := hL.nu.nc
 have hLucm_ := hL.nu.cm
 have hLpnc_ := hL.np.nc
 have hLpcm_ := hL.np.cm
 have hLinc_ := hL.ni.nc
 have hLicm_ := hL.ni.cm
 have hLync_ := hL.ny.nc
 have hLycm_ := hL.ny.cm
 have hLfnc_ := hL.nf.nc
 have hLfcm_ := hL.nf.cm
 refine calls_of_wp Tryz.func13 rfl ?_
 refine sR<|nW 0 3 ((frmP f z).flatten.toArray) 38 fun W1 hb1 ch1 sz1 => rP 1 4 (.slice none 0 0)<|eN<|sR<|rq 0 7 _ rfl (lA hb1 (Mur.frmL_size hI.sz)) ?_
 have kk1 : Chg [] w W1 := zA ch1
 refine rK 1 8 (RBody_any f z W1 (LiesF.chg hL kk1 hLin_) hI hm) ?_
 rintro _ W2 ⟨AA1, nn1, cc1, rfl, ow1, hle1, ch2⟩
 have zz2 := ch2.size
 have hq1 := ow1.nc
 have hq2 := ow1.cm
 have hq3 := ow1.byt.1
 refine rP 2 5 (.slice AA1 nn1 cc1)<|eN<|wp_seq<|sR<|rP 0 9 (pw w 0)<|rF 1 10 0 (vB f.kind.toNat) hI.sz (qT ch2 hb1) 0 ?_
 by_cases hx1 : (f.kind.toNat : Int) > (4 : Int)
 ·refine bT 2 11 ((f.kind.toNat : Int) > (4 : Int))<|eN<|cT<|sR<|rP 0 12 (.slice AA1 nn1 cc1)<|rP 1 4 (.slice AA1 nn1 cc1)<|eN<|tR<|?_
  have hH_ := ow1
  have hby_ : bytesFM T f = bodyFM f := by unfold bytesFM; rw [if_neg (by omega)]; exact List.append_nil _
  exact rt (.slice AA1 nn1 cc1) ⟨_, _, _, rfl, by rw [hby_]; exact own8_low hH_ (by omega), by omega, (kA kk1 ch2)⟩
 refine bF 2 11 ((f.kind.toNat : Int) > (4 : Int))<|eN<|cF<|wp_skip<|nxt<|sR<|rP 0 13 (.slice A n c)<|rP 1 14 (.slice AA1 nn1 cc1)<|rK 2 15 (RTagged_any (bodyFM f) AA1 nn1 cc1 W2 ow1.byt ⟨by omega, by omega⟩ ow1.nil (by omega)) ?_
 rintro _ W3 ⟨AA2, nn2, cc2, rfl, ow2, ch3⟩
 have zz3 := ch3.size
 have hq4 := ow2.nc
 have hq5 := ow2.cm
 have hq6 := ow2.byt.1
 have hlc1 : (18 :: bodyFM f).length = (bodyFM f).length + 1 := List.length_cons
 have kk4 := kA (kA kk1 ch2) ch3
 refine rK 3 16 (Rtag_any s A n c (18 :: bodyFM f) AA2 nn2 cc2 W3 (Mur.byt_chg HBY.out kk4 (fun g off e hl => trivial)) (by omega) HA.out (by omega) ow2.byt ow2.nil (by omega)) ?_
 rintro _ W4 ⟨dd1, hd1, hdl1, rfl, ch4⟩
 have zz4 := ch4.size
 refine nW 4 6 Z32 28 fun W5 hb2 ch5 sz2 => rU 5 rfl (sC dd1 hdl1 hb2) fun W6 hb3 ch6 zz6 => eN<|sR<|rP 0 17 (.slice AA1 nn1 cc1)<|rq 1 18 (.slice (some ⟨W4.heap.size, 0, none⟩) 32 32) rfl (Mur.arr_slice 28 5 (.tmp 6) 32 rfl Tryz.underlying28 (by kernel_rfl) W4.heap.size (by kernel_rfl))<|rX 2 19 rfl rfl (ap8 32 32 (oB (oA (oA (oA ow1 ch3) ch4) ch5) ch6 ow1.lt).own (Mur.byt_blk dd1 hdl1 hb3) (fun h => by cases h) (nn1 + 32) ((bodyFM f) ++ dd1)) ?_
 rintro _ W7 ⟨AA3, nn3, rfl, ow7, ch7, ha1⟩
 have zz7 := ch7.size
 have hq7 := ow7.nc
 have hq8 := ow7.cm
 refine rP 3 4 (.slice AA3 (nn1 + 32) nn3)<|eN<|wp_ret<|?_
 have hH_ := ow7
 have e1_ : dd1 = T (bodyFM f) := by rw [hd1.out, hT]
 have hby_ : bytesFM T f = bodyFM f ++ dd1 := by unfold bytesFM; rw [if_pos (by omega), e1_]
 exact rt (.slice AA3 (nn1 + 32) nn3) ⟨_, _, _, rfl, by rw [hby_]; exact own8_low hH_ (by omega), by omega, (Chg.step (kB (kA (kA kk4 ch4) ch5) ch6) ch7 (newOr_blk (fun g hg => by have := ow1.lt g hg; omega)))⟩
end Go.Proofs.YtgbadghjnpbiaaaGreatDoor
namespace Mur
open Go Go.RowKit
variable {T : List UInt8 → List UInt8}
theorem bytes_pos (f : Frm) : 0 < (bytesFM T f).length := by
 unfold bytesFM bodyFM bodyF
 have := formN_pos (fraM f).con.kind
 rw [List.length_append, List.length_append]
 omega
theorem ok_pos {b : List UInt8} {f : Frm} (h : readAll T b = .ok f) : 0 < b.length := by
 rw [← (bytes_read h).2.1]
 exact bytes_pos f
end Mur
namespace Go.Proofs.YtgbadghjnpbiaaaGreatDoor
open Go.RowKit Wk
open Mur (b8s Byt Own8 Seg Segs flat cutA attC Att SlA OwnA rowA msgC Frm Zs FrmIn frmP segs_cell frmL_sz LiesF ownR_empty updC store_seg1 frmL own8_empty byt_chg z32 attL frmL_size)
set_option maxRecDepth 100000
set_option maxHeartbeats 4000000
theorem Great2_any (f : Frm) (z : Zs) (w : World) (hI : FrmIn f) : Calls Tryz.prog 5 #[.agg (frmP f z).flatten.toArray] w fun e w' => ∃ v, e = .returned (.bool v) ∧ (v = false → z.u.n ≤ 50 ∧ z.p.n ≤ 50 ∧ z.i.n ≤ 50 ∧ z.y.n ≤ 500 ∧ z.f.n ≤ 50) ∧ Chg [] w w' := by
 refine calls_of_wp Tryz.func5 rfl ?_
 refine sR<|nW 0 1 ((frmP f z).flatten.toArray) 38 fun W1 hb1 ch1 sz1 => rP 1 2 vF<|eN<|sR<|rP 0 3 (pw w 3)<|rP 1 4 (pw w 7)<|rF 2 5 7 (.slice z.u.A z.u.n z.u.c) (frmL_sz hI.ok.sum hI.ok.key f.att.hk f.att.hr f.att.ht hI.ok.root) hb1 7<|rP 3 6 (vI z.u.n) ?_
 by_cases hx1 : (z.u.n : Int) > (50 : Int)
 ·exact bT 4 7 ((z.u.n : Int) > (50 : Int))<|mV 34 26 5 [(7, vT)] 33 vT fun _ => rP 31 2 vT<|eN<|wp_ret<|rt vT ⟨_, rfl, fun h_ => (by cases h_), (zA ch1 : Chg [] w W1)⟩
 refine bF 4 7 ((z.u.n : Int) > (50 : Int))<|rP 5 8 vF<|rP 6 9 (pw w 8)<|rP 7 10 (pw w 9)<|rF 8 11 9 (.slice z.p.A z.p.n z.p.c) (frmL_sz hI.ok.sum hI.ok.key f.att.hk f.att.hr f.att.ht hI.ok.root) hb1 9<|rP 9 12 (vI z.p.n) ?_
 by_cases hx2 : (z.p.n : Int) > (50 : Int)
 ·exact bT 10 13 ((z.p.n : Int) > (50 : Int))<|mV 34 20 11 [(8, vF), (13, vT)] 33 vT fun _ => rP 31 2 vT<|eN<|wp_ret<|rt vT ⟨_, rfl, fun h_ => (by cases h_), (zA ch1 : Chg [] w W1)⟩
 refine bF 10 13 ((z.p.n : Int) > (50 : Int))<|rP 11 14 vF<|rP 12 15 vF<|rP 13 16 (pw w 8)<|rP 14 17 (pw w 43)<|rF 15 18 43 (.slice z.i.A z.i.n z.i.c) (frmL_sz hI.ok.sum hI.ok.key f.att.hk f.att.hr f.att.ht hI.ok.root) hb1 12<|rP 16 19 (vI z.i.n) ?_
 by_cases hx3 : (z.i.n : Int) > (50 : Int)
 ·exact bT 17 20 ((z.i.n : Int) > (50 : Int))<|mV 34 13 18 [(15, vF), (20, vT)] 33 vT fun _ => rP 31 2 vT<|eN<|wp_ret<|rt vT ⟨_, rfl, fun h_ => (by cases h_), (zA ch1 : Chg [] w W1)⟩
 refine bF 17 20 ((z.i.n : Int) > (50 : Int))<|rP 18 21 vF<|rP 19 22 vF<|rP 20 23 (pw w 211)<|rF 21 24 211 (.slice z.y.A z.y.n z.y.c) (frmL_sz hI.ok.sum hI.ok.key f.att.hk f.att.hr f.att.ht hI.ok.root) hb1 25<|rP 22 25 (vI z.y.n) ?_
 by_cases hx4 : (z.y.n : Int) > (500 : Int)
 ·exact bT 23 26 ((z.y.n : Int) > (500 : Int))<|mV 34 7 24 [(22, vF), (26, vT)] 33 vT fun _ => rP 31 2 vT<|eN<|wp_ret<|rt vT ⟨_, rfl, fun h_ => (by cases h_), (zA ch1 : Chg [] w W1)⟩
 refine bF 23 26 ((z.y.n : Int) > (500 : Int))<|rP 24 27 vF<|rP 25 28 vF<|rP 26 29 (pw w 212)<|rF 27 30 212 (.slice z.f.A z.f.n z.f.c) (frmL_sz hI.ok.sum hI.ok.key f.att.hk f.att.hr f.att.ht hI.ok.root) hb1 26<|rP 28 31 (vI z.f.n) ?_
 by_cases hx5 : (z.f.n : Int) > (50 : Int)
 ·exact bT 29 32 ((z.f.n : Int) > (50 : Int))<|rP 30 33 vT<|rP 31 2 vT<|eN<|wp_ret<|rt vT ⟨_, rfl, fun h_ => (by cases h_), (zA ch1 : Chg [] w W1)⟩
 exact bF 29 32 ((z.f.n : Int) > (50 : Int))<|rP 30 33 vF<|rP 31 2 vF<|eN<|wp_ret<|rt vF ⟨_, rfl, fun _ => ⟨by omega, by omega, by omega, by omega, by omega⟩, (zA ch1 : Chg [] w W1)⟩
theorem Copy_any (f : Frm) (z : Zs) (w : World) (hL : LiesF w z f) (hI : FrmIn f) (hu : z.u.n ≤ 1000) (hp : z.p.n ≤ 1000) (hi : z.i.n ≤ 1000) (hy : z.y.n ≤ 1000) (hf : z.f.n ≤ 1000) : Calls Tryz.prog 7 #[.agg (frmP f z).flatten.toArray] w fun e w' => ∃ Z, e = .returned (.agg (frmP f Z).flatten.toArray) ∧ LiesF w' Z f ∧ Z.In (fun g => w.heap.size ≤ g) ∧ Chg [] w w' := by
 have hLin_ : z.In fun g => g < w.heap.size → Wk.Off g [] := ⟨fun _ _ _ _ => trivial, fun _ _ _ _ => trivial, fun _ _ _ _ => trivial, fun _ _ _ _ => trivial, fun _ _ _ _ => trivial⟩
 have hLunc_ := hL.nu.nc
 have hLucm_ := hL.nu.cm
 have hLpnc_ := hL.np.nc
 have hLpcm_ := hL.np.cm
 have hLinc_ := hL.ni.nc
 have hLicm_ := hL.ni.cm
 have hLync_ := hL.ny.nc
 have hLycm_ := hL.ny.cm
 have hLfnc_ := hL.nf.nc
 have hLfcm_ := hL.nf.cm
 have hml_ : Go.maxLen = 9223372036854775807 := rfl
 have hul_ := hL.upd.len
 rw [List.length_map] at hul_
 have hil_ := hL.its.len
 have hfl_ := hL.prf.len
 rw [List.length_map] at hfl_
 have hpl_ := hL.pre.1
 have hyl_ := hL.byt.1
 refine calls_of_wp Tryz.func7 rfl ?_
 refine sR<|nW 0 1 ((frmP f z).flatten.toArray) 38 fun W1 hb1 ch1 sz1 => nW 1 2 ((frmh 0 0 0).flatten.toArray) 38 fun W2 hb2 ch2 sz2 => eN<|sR<|nS 0 3 0 #[] 61 fun W3 hb3 ch3 sz3 => rP 1 4 (pw w 3)<|rP 2 5 (pw w 7)<|rF 3 6 7 (.slice z.u.A z.u.n z.u.c) (frmL_sz hI.ok.sum hI.ok.key f.att.hk f.att.hr f.att.ht hI.ok.root) (qT ch3 (qT ch2 hb1)) 7 ?_
 have ow1 := ownR_empty (sz := 3) hb3 (Nat.le_refl _) (by decide)
 have kk3 := kA (kA (zA ch1 : Chg [] w W1) ch2) ch3
 refine rX 4 7 rfl rfl (Mur.appendR (.tmp 3) (.tmp 6) 24 61 rfl Tryz.underlying24 (.agg [vI 0, vB 0, vU 0].toArray) 3 24 (by kernel_rfl) (by kernel_rfl) (by decide) (by decide) W2.heap.size (some ⟨W2.heap.size, 0, none⟩) 0 0 [] z.u.A z.u.n z.u.c (f.pUpd.map updC) (by kernel_rfl) (by kernel_rfl) ow1 (LiesF.chg hL kk3 hLin_).upd hL.nu.nil (by omega) (by omega) z.u.n (by omega)) ?_
 rintro _ W4 ⟨AA1, nn1, rfl, ow2, ch4, ha1⟩
 have zz4 := ch4.size
 have ow3 : Mur.OwnR W4 W2.heap.size 61 3 AA1 z.u.n nn1 (f.pUpd.map updC) := ow2
 have hq1 := ow3.nc
 have hq2 := ow3.cm
 refine rP 5 8 (pw w 3)<|rP 6 9 (pw w 7)<|rU 7 rfl (sG 7 (.slice AA1 z.u.n nn1) (frmL_sz hI.ok.sum hI.ok.key f.att.hk f.att.hr f.att.ht hI.ok.root) (Chg.hp ch4 (qT ch3 (qT ch2 hb1)) (off_blk (fun gz hgz => by have := ow1.lt gz hgz; omega))) 7 (frmL f.kind f.frm f.dst f.pTo f.pKind f.pSeq f.pAbout ⟨AA1, z.u.n, nn1⟩ f.gos.kind z.p f.gos.sum f.gos.cnt z.i f.gos.ans f.cKey f.cNode f.cInc f.cCnt f.cGone f.att.k f.att.r f.att.n f.att.t f.root f.chunk z.y z.f)) fun W5 hb4 ch5 zz5 => eN<|sR<|nS 0 10 0 #[] 5 fun W6 hb5 ch6 sz4 => rP 1 11 (pw w 8)<|rP 2 12 (pw w 9)<|rF 3 13 9 (.slice z.p.A z.p.n z.p.c) (frmL_sz hI.ok.sum hI.ok.key f.att.hk f.att.hr f.att.ht hI.ok.root) (qT ch6 hb4) 9 ?_
 have ow4 := own8_empty hb5 (Nat.le_refl _)
 have kk6 := kA (kB (Chg.step kk3 ch4 (newOr_blk (fun g hg => by have := ow1.lt g hg; omega))) ch5) ch6
 refine rX 4 14 rfl rfl (ap8 z.p.n z.p.c ow4.own (byt_chg hL.pre kk6 (fun g off e hl => trivial)) hL.np.nil z.p.n f.gos.pre) ?_
 rintro _ W7 ⟨AA2, nn2, rfl, ow5, ch7, ha2⟩
 have zz7 := ch7.size
 have hq3 := ow5.nc
 have hq4 := ow5.cm
 refine rP 5 15 (pw w 8)<|rP 6 16 (pw w 9)<|rU 7 rfl (sG 9 (.slice AA2 z.p.n nn2) (frmL_sz hI.ok.sum hI.ok.key f.att.hk f.att.hr f.att.ht hI.ok.root) (Chg.hp ch7 (qT ch6 hb4) (off_blk (fun gz hgz => by have := ow4.lt gz hgz; omega))) 9 (frmL f.kind f.frm f.dst f.pTo f.pKind f.pSeq f.pAbout ⟨AA1, z.u.n, nn1⟩ f.gos.kind ⟨AA2, z.p.n, nn2⟩ f.gos.sum f.gos.cnt z.i f.gos.ans f.cKey f.cNode f.cInc f.cCnt f.cGone f.att.k f.att.r f.att.n f.att.t f.root f.chunk z.y z.f)) fun W8 hb6 ch8 zz8 => eN<|sR<|nS 0 17 0 #[] 35 fun W10 hb7 ch9 sz5 => rP 1 18 (pw w 8)<|rP 2 19 (pw w 43)<|rF 3 20 43 (.slice z.i.A z.i.n z.i.c) (frmL_sz hI.ok.sum hI.ok.key f.att.hk f.att.hr f.att.ht hI.ok.root) (qT ch9 hb6) 12 ?_
 have ow6 := ownR_empty (sz := 97) hb7 (Nat.le_refl _) (by decide)
 have kk9 := kA (kB (Chg.step kk6 ch7 (newOr_blk (fun g hg => by have := ow4.lt g hg; omega))) ch8) ch9
 refine rX 4 21 rfl rfl (Mur.appendR (.tmp 17) (.tmp 20) 29 35 rfl Tryz.underlying29 (.agg (Mur.attC z32 z32 0 z32).toArray) 97 104 (by kernel_rfl) (by kernel_rfl) (by decide) (by decide) W8.heap.size (some ⟨W8.heap.size, 0, none⟩) 0 0 [] z.i.A z.i.n z.i.c (f.gos.items.map attL) (by kernel_rfl) (by kernel_rfl) ow6 (LiesF.chg hL kk9 hLin_).its.slR hL.ni.nil (by omega) (by omega) z.i.n (by omega)) ?_
 rintro _ W11 ⟨AA3, nn3, rfl, ow7, ch10, ha3⟩
 have zz10 := ch10.size
 have ow8 : Mur.OwnR W11 W8.heap.size 35 97 AA3 z.i.n nn3 (f.gos.items.map attL) := ow7
 have hq5 := ow8.nc
 have hq6 := ow8.cm
 refine rP 5 22 (pw w 8)<|rP 6 23 (pw w 43)<|rU 7 rfl (sG 43 (.slice AA3 z.i.n nn3) (frmL_sz hI.ok.sum hI.ok.key f.att.hk f.att.hr f.att.ht hI.ok.root) (Chg.hp ch10 (qT ch9 hb6) (off_blk (fun gz hgz => by have := ow6.lt gz hgz; omega))) 12 (frmL f.kind f.frm f.dst f.pTo f.pKind f.pSeq f.pAbout ⟨AA1, z.u.n, nn1⟩ f.gos.kind ⟨AA2, z.p.n, nn2⟩ f.gos.sum f.gos.cnt ⟨AA3, z.i.n, nn3⟩ f.gos.ans f.cKey f.cNode f.cInc f.cCnt f.cGone f.att.k f.att.r f.att.n f.att.t f.root f.chunk z.y z.f)) fun W12 hb8 ch11 zz11 => eN<|sR<|nS 0 24 0 #[] 5 fun W13 hb9 ch12 sz6 => rP 1 25 (pw w 211)<|rF 2 26 211 (.slice z.y.A z.y.n z.y.c) (frmL_sz hI.ok.sum hI.ok.key f.att.hk f.att.hr f.att.ht hI.ok.root) (qT ch12 hb8) 25 ?_
 have ow9 := own8_empty hb9 (Nat.le_refl _)
 have kk12 := kA (kB (Chg.step kk9 ch10 (newOr_blk (fun g hg => by have := ow6.lt g hg; omega))) ch11) ch12
 refine rX 3 27 rfl rfl (ap8 z.y.n z.y.c ow9.own (byt_chg hL.byt kk12 (fun g off e hl => trivial)) hL.ny.nil z.y.n f.byt) ?_
 rintro _ W14 ⟨AA4, nn4, rfl, ow10, ch13, ha4⟩
 have zz13 := ch13.size
 have hq7 := ow10.nc
 have hq8 := ow10.cm
 refine rP 4 28 (pw w 211)<|rU 5 rfl (sG 211 (.slice AA4 z.y.n nn4) (frmL_sz hI.ok.sum hI.ok.key f.att.hk f.att.hr f.att.ht hI.ok.root) (Chg.hp ch13 (qT ch12 hb8) (off_blk (fun gz hgz => by have := ow9.lt gz hgz; omega))) 25 (frmL f.kind f.frm f.dst f.pTo f.pKind f.pSeq f.pAbout ⟨AA1, z.u.n, nn1⟩ f.gos.kind ⟨AA2, z.p.n, nn2⟩ f.gos.sum f.gos.cnt ⟨AA3, z.i.n, nn3⟩ f.gos.ans f.cKey f.cNode f.cInc f.cCnt f.cGone f.att.k f.att.r f.att.n f.att.t f.root f.chunk ⟨AA4, z.y.n, nn4⟩ z.f)) fun W15 hb10 ch14 zz14 => eN<|sR<|nS 0 29 0 #[] 28 fun W16 hb11 ch15 sz7 => rP 1 30 (pw w 212)<|rF 2 31 212 (.slice z.f.A z.f.n z.f.c) (frmL_sz hI.ok.sum hI.ok.key f.att.hk f.att.hr f.att.ht hI.ok.root) (qT ch15 hb10) 26 ?_
 have ow11 := ownR_empty (sz := 32) hb11 (Nat.le_refl _) (by decide)
 have kk15 := kA (kB (Chg.step kk12 ch13 (newOr_blk (fun g hg => by have := ow9.lt g hg; omega))) ch14) ch15
 refine rX 3 32 rfl rfl (Mur.appendR (.tmp 29) (.tmp 31) 36 28 rfl Tryz.underlying36 (.agg (b8s z32).toArray) 32 32 (by kernel_rfl) (by kernel_rfl) (by decide) (by decide) W15.heap.size (some ⟨W15.heap.size, 0, none⟩) 0 0 [] z.f.A z.f.n z.f.c (f.prf.map b8s) (by kernel_rfl) (by kernel_rfl) ow11 (LiesF.chg hL kk15 hLin_).prf hL.nf.nil (by omega) (by omega) z.f.n (by omega)) ?_
 rintro _ W17 ⟨AA5, nn5, rfl, ow12, ch16, ha5⟩
 have zz16 := ch16.size
 have ow13 : Mur.OwnR W17 W15.heap.size 28 32 AA5 z.f.n nn5 (f.prf.map b8s) := ow12
 have hq9 := ow13.nc
 have hq10 := ow13.cm
 refine rP 4 33 (pw w 212)<|rU 5 rfl (sG 212 (.slice AA5 z.f.n nn5) (frmL_sz hI.ok.sum hI.ok.key f.att.hk f.att.hr f.att.ht hI.ok.root) (Chg.hp ch16 (qT ch15 hb10) (off_blk (fun gz hgz => by have := ow11.lt gz hgz; omega))) 26 (frmL f.kind f.frm f.dst f.pTo f.pKind f.pSeq f.pAbout ⟨AA1, z.u.n, nn1⟩ f.gos.kind ⟨AA2, z.p.n, nn2⟩ f.gos.sum f.gos.cnt ⟨AA3, z.i.n, nn3⟩ f.gos.ans f.cKey f.cNode f.cInc f.cCnt f.cGone f.att.k f.att.r f.att.n f.att.t f.root f.chunk ⟨AA4, z.y.n, nn4⟩ ⟨AA5, z.f.n, nn5⟩)) fun W18 hb12 ch17 zz17 => eN<|sR<|rq 0 34 _ rfl (lA hb12 (frmL_size (frmL_sz hI.ok.sum hI.ok.key f.att.hk f.att.hr f.att.ht hI.ok.root)))<|rU 1 rfl (sA (frmL f.kind f.frm f.dst f.pTo f.pKind f.pSeq f.pAbout ⟨AA1, z.u.n, nn1⟩ f.gos.kind ⟨AA2, z.p.n, nn2⟩ f.gos.sum f.gos.cnt ⟨AA3, z.i.n, nn3⟩ f.gos.ans f.cKey f.cNode f.cInc f.cCnt f.cGone f.att.k f.att.r f.att.n f.att.t f.root f.chunk ⟨AA4, z.y.n, nn4⟩ ⟨AA5, z.f.n, nn5⟩).flatten.toArray (frmL_size (frmL_sz hI.ok.sum hI.ok.key f.att.hk f.att.hr f.att.ht hI.ok.root)) (qO ch17 (Chg.hp ch16 (qT ch15 (qO ch14 (Chg.hp ch13 (qT ch12 (qO ch11 (Chg.hp ch10 (qT ch9 (qO ch8 (Chg.hp ch7 (qT ch6 (qO ch5 (Chg.hp ch4 (qT ch3 hb2) (off_blk (fun gz hgz => by have := ow1.lt gz hgz; omega))))) (off_blk (fun gz hgz => by have := ow4.lt gz hgz; omega))))) (off_blk (fun gz hgz => by have := ow6.lt gz hgz; omega))))) (off_blk (fun gz hgz => by have := ow9.lt gz hgz; omega))))) (off_blk (fun gz hgz => by have := ow11.lt gz hgz; omega)))) (frmL_size (frmL_sz rfl rfl rfl rfl rfl rfl))) fun W19 hb13 ch18 zz18 => ?_
 refine eN<|wp_ret<|?_
 have ow18 := Mur.OwnR.chg (Mur.OwnR.chg (Mur.OwnR.chg (Mur.OwnR.chg (Mur.OwnR.chg ow3 (by decide) ch5 (fun q e _ _ => ⟨by have := ow3.lt q e; omega, trivial⟩)) (by decide) ch6 (fun q e _ _ => trivial)) (by decide) ch7 (fun q e _ _ => (off_blk (fun gz hgz => by have := ow4.lt gz hgz; have := ow3.lt q e; omega)))) (by decide) ch8 (fun q e _ _ => ⟨by have := ow3.lt q e; omega, trivial⟩)) (by decide) ch9 (fun q e _ _ => trivial)
 have ow22 := Mur.OwnR.chg (Mur.OwnR.chg (Mur.OwnR.chg (Mur.OwnR.chg ow18 (by decide) ch10 (fun q e _ _ => (off_blk (fun gz hgz => by have := ow6.lt gz hgz; have := ow3.lt q e; omega)))) (by decide) ch11 (fun q e _ _ => ⟨by have := ow3.lt q e; omega, trivial⟩)) (by decide) ch12 (fun q e _ _ => trivial)) (by decide) ch13 (fun q e _ _ => (off_blk (fun gz hgz => by have := ow9.lt gz hgz; have := ow3.lt q e; omega)))
 have ow27 := Mur.OwnR.chg (Mur.OwnR.chg (Mur.OwnR.chg (Mur.OwnR.chg (Mur.OwnR.chg ow22 (by decide) ch14 (fun q e _ _ => ⟨by have := ow3.lt q e; omega, trivial⟩)) (by decide) ch15 (fun q e _ _ => trivial)) (by decide) ch16 (fun q e _ _ => (off_blk (fun gz hgz => by have := ow11.lt gz hgz; have := ow3.lt q e; omega)))) (by decide) ch17 (fun q e _ _ => ⟨by have := ow3.lt q e; omega, trivial⟩)) (by decide) ch18 (fun q e _ _ => ⟨by have := ow3.lt q e; omega, trivial⟩)
 have ow36 := Mur.own8 (own_chg (oA (oB (Mur.own8 (own_chg (oA (oB (Mur.own8 (own_chg (oA (oB ow5 ch8 ow5.lt) ch9).own ch10 (fun q e _ _ => (off_blk (fun gz hgz => by have := ow6.lt gz hgz; have := ow5.lt q e; omega))))) ch11 ow5.lt) ch12).own ch13 (fun q e _ _ => (off_blk (fun gz hgz => by have := ow9.lt gz hgz; have := ow5.lt q e; omega))))) ch14 ow5.lt) ch15).own ch16 (fun q e _ _ => (off_blk (fun gz hgz => by have := ow11.lt gz hgz; have := ow5.lt q e; omega))))
 have ow43 := Mur.OwnR.chg (Mur.OwnR.chg (Mur.OwnR.chg (Mur.OwnR.chg (Mur.OwnR.chg ow8 (by decide) ch11 (fun q e _ _ => ⟨by have := ow8.lt q e; omega, trivial⟩)) (by decide) ch12 (fun q e _ _ => trivial)) (by decide) ch13 (fun q e _ _ => (off_blk (fun gz hgz => by have := ow9.lt gz hgz; have := ow8.lt q e; omega)))) (by decide) ch14 (fun q e _ _ => ⟨by have := ow8.lt q e; omega, trivial⟩)) (by decide) ch15 (fun q e _ _ => trivial)
 have hZu_ := ow27
 have hZp_ := (oB (oB ow36 ch17 ow5.lt) ch18 ow5.lt)
 have hZi_ := (Mur.OwnR.chg (Mur.OwnR.chg (Mur.OwnR.chg ow43 (by decide) ch16 (fun q e _ _ => (off_blk (fun gz hgz => by have := ow11.lt gz hgz; have := ow8.lt q e; omega)))) (by decide) ch17 (fun q e _ _ => ⟨by have := ow8.lt q e; omega, trivial⟩)) (by decide) ch18 (fun q e _ _ => ⟨by have := ow8.lt q e; omega, trivial⟩))
 have hZy_ := (oB (oB (Mur.own8 (own_chg (oA (oB ow10 ch14 ow10.lt) ch15).own ch16 (fun q e _ _ => (off_blk (fun gz hgz => by have := ow11.lt gz hgz; have := ow10.lt q e; omega))))) ch17 ow10.lt) ch18 ow10.lt)
 have hZf_ := (Mur.OwnR.chg (Mur.OwnR.chg ow13 (by decide) ch17 (fun q e _ _ => ⟨by have := ow13.lt q e; omega, trivial⟩)) (by decide) ch18 (fun q e _ _ => ⟨by have := ow13.lt q e; omega, trivial⟩))
 exact retC rfl hb13 (by rw [(frmL_size (frmL_sz hI.ok.sum hI.ok.key f.att.hk f.att.hr f.att.ht hI.ok.root))]; kernel_rfl) ⟨⟨⟨AA1, z.u.n, _⟩, ⟨AA2, z.p.n, _⟩, ⟨AA3, z.i.n, _⟩, ⟨AA4, z.y.n, _⟩, ⟨AA5, z.f.n, _⟩⟩, rfl, ⟨hZu_.slR, hZp_.byt, hZi_.slR.slA, hZy_.byt, hZf_.slR, ⟨hZu_.nil, hZu_.nc, hZu_.cm⟩, ⟨hZp_.nil, hZp_.nc, hZp_.cm⟩, ⟨hZi_.nil, hZi_.nc, hZi_.cm⟩, ⟨hZy_.nil, hZy_.nc, hZy_.cm⟩, ⟨hZf_.nil, hZf_.nc, hZf_.cm⟩⟩, ⟨fun g_ o_ e_ => (by have := hZu_.at_ g_ o_ e_; omega), fun g_ o_ e_ => (by have := hZp_.at_ g_ o_ e_; omega), fun g_ o_ e_ => (by have := hZi_.at_ g_ o_ e_; omega), fun g_ o_ e_ => (by have := hZy_.at_ g_ o_ e_; omega), fun g_ o_ e_ => (by have := hZf_.at_ g_ o_ e_; omega)⟩, (kB (kB (Chg.step kk15 ch16 (newOr_blk (fun g hg => by have := ow11.lt g hg; omega))) ch17) ch18)⟩
end Go.Proofs.YtgbadghjnpbiaaaGreatDoor
namespace Mur
open Go Go.RowKit Wk
section
variable {P : Program} {w w' : World} {a : Act} {o : Oper}
theorem own_store (ty : TypeId) (x y : Operand) (ho : o.op = .store ty x y) (hi : (P.info? ty).map (·.size) = some 1) (g i : Nat) (hx : a.eval x = .pointer (some ⟨g, 0 + i * 1, none⟩)) (b : UInt8) (hy : a.eval y = .int .u8 ((b.toNat : Nat) : Int))
  {base e n c : Nat} {l : List UInt8} (H : Own8 w base e (some ⟨g, 0, none⟩) n c l) (hlt : i < n) :
  ∃ w1, (execOp a.eval o).run P w = .ok .skip w1 ∧ Own8 w1 base e (some ⟨g, 0, none⟩) n c (l.set i b) ∧ Chg [g] w w1 := by
 rw [Nat.zero_add, Nat.mul_one] at hx
 have hl := H.byt.1
 rcases H.own.2 with ⟨e0, h2⟩ | ⟨g', cap, cur, e0, hb, hg, hnc, hcm, hcs, ht⟩
 ·cases e0
 ·injection e0 with e1 e2 e3
  injection e1 with e1
  injection e1 with e1
  subst e1 e3
  obtain ⟨w1, h1, h2, h3⟩ := store1 (P := P) ty x y ho hi g i hx _ hy rfl e cur hg (by omega)
  refine ⟨w1, h1, own8 ⟨by rw [b8s_length, List.length_set, hl, Nat.mul_one], .inr ⟨g, c, _, rfl, hb, h2, hnc, hcm, by simpa using hcs, ?_⟩⟩, h3⟩
  have e4 : b8s (l.set i b) = (b8s l).set i (.int .u8 ((b.toNat : Nat) : Int)) := by simp [b8s, List.map_set]
  rw [e4, ← ht, Array.toList_setIfInBounds, List.take_set]
theorem own8_some {base e n c : Nat} {A : Option Addr} {l : List UInt8} (h : Own8 w base e A n c l) (hn : 0 < n) : ∃ g, A = some ⟨g, 0, none⟩ ∧ base ≤ g ∧ g < w.heap.size := by
 obtain ⟨g, rfl, _⟩ := own_some h.own hn
 exact ⟨g, rfl, h.at_ g 0 rfl⟩
theorem add8 (t ty : TypeId) (x y : Operand) (ho : o.op = .binOp .add t x y ty) (b : UInt8) (hx : a.eval x = .int .u8 ((b.toNat : Nat) : Int)) (hy : a.eval y = .int .u8 1) : (execOp a.eval o).run P w = .ok (.value (.int .u8 (((b + 1).toNat : Nat) : Int))) w := by
 have h1 : IntKind.u8.wrap (((b.toNat : Nat) : Int) + 1) = (((b + 1).toNat : Nat) : Int) := by
  show (((b.toNat : Nat) : Int) + 1) % 256 = _
  rw [UInt8.toNat_add]
  have := b.toNat_lt
  have h2 : (1 : UInt8).toNat = 1 := rfl
  rw [h2]
  omega
 have key : (binOp .add t (.int .u8 ((b.toNat : Nat) : Int)) (.int .u8 1)).run P w = .ok (.int .u8 (IntKind.u8.wrap (((b.toNat : Nat) : Int) + 1))) w := rfl
 have hg : (eqGuard .add t x y (.int .u8 ((b.toNat : Nat) : Int)) (.int .u8 1)).run P w = .ok () w := rfl
 rw [h1] at key
 unfold execOp
 simp only [ho, hx, hy]
 simp only [Sem.run_bind, Sem.run_pure, hg, Result.andThen_ok, key]
end
theorem bytes_le {T : List UInt8 → List UInt8} {f : Frm} (h : mayFM f) (o : FrmOk f) (hT : ∀ b, (T b).length = 32) : (bytesFM T f).length ≤ 2000 := by
 have := body_le h o
 unfold bytesFM
 rw [List.length_append]
 split
 ·rw [hT]
  omega
 ·rw [List.length_nil]
  omega
end Mur
namespace Go.Proofs.YtgbadghjnpbiaaaGreatDoor
open Go.RowKit Wk
open Mur (b8s Byt Own8 Seg Segs flat cutA attC Att SlA OwnA rowA msgC Frm Zs LiesF FrmIn frmP frmL_size frmL_sz frmL_all byt_chg bytesFM run_str ok_pos own8_some byt_cell own_store)
set_option maxRecDepth 100000
set_option maxHeartbeats 4000000
def FormsF_F1 (b : Array Value) (u4 u8 u10 u11 u95 u96 : Value) : Act := sg 116 [(4, u4), (8, u8), (10, u10), (11, u11), (95, u95), (96, u96)] b
def FormsF_F2 (b : Array Value) (u4 u8 u10 u11 u95 u96 : Value) : Act := sg 116 [(4, u4), (8, u8), (10, u10), (11, u11), (95, u95), (96, u96)] b
theorem Forms_any (s : List UInt8) (A : Option Addr) (n c : Nat) (f : Frm) (z : Zs) (g : Frm) (y : Zs) (w : World) (hv : ShaVars w) (hb : Byt w A n s) (hnc : n ≤ c) (hcm : c ≤ Go.maxLen) (ha : A = none → c = 0) (hL : LiesF w z f) (hI : FrmIn f) (hM : LiesF w y g) (hJ : FrmIn g) : Calls Tryz.prog 3 #[.slice A n c, .agg (frmP f z).flatten.toArray, .agg (frmP g y).flatten.toArray] w fun e w' => e = .returned vT ∧ Below w.heap.size w w' := by
 have HV := Go.Lib.hid hv
 clear hv
 have HBY := Go.Lib.hid hb
 clear hb
 have HA := Go.Lib.hid ha
 clear ha
 obtain ⟨T, hTs⟩ : ∃ T : List UInt8 → List UInt8, ∀ x, T x = Mur.hmac s (18 :: x) := ⟨_, fun _ => rfl⟩
 have hTsl : ∀ x, (T x).length = 32 := fun x => by rw [hTs]; exact Mur.hmac_length _ _
 have hml_ : Go.maxLen = 9223372036854775807 := rfl
 have hLin_ : z.In fun g => g < w.heap.size → Wk.Off g [] := ⟨fun _ _ _ _ => trivial, fun _ _ _ _ => trivial, fun _ _ _ _ => trivial, fun _ _ _ _ => trivial, fun _ _ _ _ => trivial⟩
 have hLunc_ := hL.nu.nc
 have hLucm_ := hL.nu.cm
 have hLpnc_ := hL.np.nc
 have hLpcm_ := hL.np.cm
 have hLinc_ := hL.ni.nc
 have hLicm_ := hL.ni.cm
 have hLync_ := hL.ny.nc
 have hLycm_ := hL.ny.cm
 have hLfnc_ := hL.nf.nc
 have hLfcm_ := hL.nf.cm
 have hMin_ : y.In fun g => g < w.heap.size → Wk.Off g [] := ⟨fun _ _ _ _ => trivial, fun _ _ _ _ => trivial, fun _ _ _ _ => trivial, fun _ _ _ _ => trivial, fun _ _ _ _ => trivial⟩
 have hMunc_ := hM.nu.nc
 have hMucm_ := hM.nu.cm
 have hMpnc_ := hM.np.nc
 have hMpcm_ := hM.np.cm
 have hMinc_ := hM.ni.nc
 have hMicm_ := hM.ni.cm
 have hMync_ := hM.ny.nc
 have hMycm_ := hM.ny.cm
 have hMfnc_ := hM.nf.nc
 have hMfcm_ := hM.nf.cm
 refine calls_of_wp Tryz.func3 rfl ?_
 refine sR<|nW 0 4 ((frmP f z).flatten.toArray) 38 fun W1 hb1 ch1 sz1 => nW 1 5 ((frmP g y).flatten.toArray) 38 fun W2 hb2 ch2 sz2 => rP 2 6 vF<|eN<|wp_seq<|sR<|rP 0 13 (.slice A n c)<|rP 1 14 (vI n) ?_
 by_cases hx1 : (n : Int) > (100 : Int)
 ·refine bT 2 15 ((n : Int) > (100 : Int))<|rP 3 16 vT<|rZ 4 17<|rZ 5 18<|rP 6 19 vT<|rP 7 20 vT<|rZ 8 21<|rZ 9 22<|rP 10 23 vT<|eN<|cT<|sR<|?_
  have kk2 := kA (zA ch1 : Chg [] w W1) ch2
  refine rK 0 24 (Known25_any W2 (HV.out.below (Chg.below0 kk2))) ?_
  rintro _ W3 ⟨rfl, ch3⟩
  have zz3 := ch3.size
  exact rP 1 6 vT<|eN<|tR<|rt vT ⟨rfl, Chg.below0 (kA kk2 ch3)⟩
 refine bF 2 15 ((n : Int) > (100 : Int))<|rP 3 16 vF<|rq 4 17 _ rfl (lA (qT ch2 hb1) (frmL_size hI.sz))<|rK 5 18 (Great2_any f z W2 hI) ?_
 rintro _ W4 ⟨bv1, rfl, hgr1, ch4⟩
 have zz4 := ch4.size
 cases bv1
 ·have hgr1_ := hgr1 rfl
  refine rP 6 19 vF<|rP 7 20 vF<|rq 8 21 _ rfl (lA (qT ch4 hb2) (frmL_size hJ.sz))<|rK 9 22 (Great2_any g y W4 hJ) ?_
  rintro _ W5 ⟨bv2, rfl, hgr2, ch5⟩
  have zz5 := ch5.size
  cases bv2
  ·have hgr2_ := hgr2 rfl
   refine rP 10 23 vF<|eN<|cF<|wp_skip<|nxt<|sR<|rq 0 25 _ rfl (lA (qT ch5 (qT ch4 (qT ch2 hb1))) (frmL_size hI.sz)) ?_
   have kk7 := kA (kA (kA (zA ch1 : Chg [] w W1) ch2) ch4) ch5
   refine rK 1 26 (Copy_any f z W5 (LiesF.chg hL kk7 hLin_) hI (by omega) (by omega) (by omega) (by omega) (by omega)) ?_
   rintro _ W6 ⟨ZZ1, rfl, hLs1, hZin1, ch6⟩
   have zz6 := ch6.size
   refine nW 2 7 ((frmh 0 0 0).flatten.toArray) 38 fun W7 hb3 ch7 sz3 => rU 3 rfl (sA (frmP f ZZ1).flatten.toArray (frmL_size hI.sz) hb3 (frmL_size (frmL_sz rfl rfl rfl rfl rfl rfl))) fun W8 hb4 ch8 zz8 => eN<|sR<|rP 0 28 (.slice A n c)<|rq 1 29 _ rfl (lA hb4 (frmL_size hI.sz)) ?_
   have kk10 := kB (kA (kA kk7 ch6) ch7) ch8
   have kk12 := kB (zA ch7 : Chg [] (W6) W7) ch8
   refine rK 2 30 (BytesF_any s A n c T f ZZ1 W8 (HV.out.below (Chg.below0 kk10)) (byt_chg HBY.out kk10 (fun g off e hl => trivial)) ⟨by omega, by omega⟩ HA.out (by omega) hTs hTsl (LiesF.chg hLs1 kk12 ⟨fun _ _ _ _ => trivial, fun _ _ _ _ => trivial, fun _ _ _ _ => trivial, fun _ _ _ _ => trivial, fun _ _ _ _ => trivial⟩) hI) ?_
   rintro _ W10 ⟨AA1, nn1, cc1, er1, rfl, hc1, ch9⟩
   have zz9 := ch9.size
   rcases hc1 with ⟨hmy1, rfl, ow1⟩ | ⟨hmy1, rfl, rfl, rfl, rfl⟩
   ·have hq1 := ow1.nc
    have hq2 := ow1.cm
    have hq3 := ow1.byt.1
    have hbl5_ := Mur.bytes_le (T := T) hmy1 hI.ok hTsl
    have hrb_ : Mur.readAll T (bytesFM T f) = .ok f := by rw [Mur.read_bytes (T := T) T hmy1 hI.ok hTsl hbl5_, if_neg (fun q_ => q_.2 rfl)]
    refine rP 3 27 (.tuple #[.slice AA1 nn1 cc1, vI 0])<|rP 4 31 (.slice AA1 nn1 cc1)<|rP 5 32 (vI 0)<|rP 6 8 (.slice AA1 nn1 cc1)<|rP 7 9 (vI 0)<|eN<|wp_seq<|wp_seq<|?_
    refine dReg ([]) (by kernel_rfl) ?_
    intro W11 ch10 sz4
    have zz10 := ch10.size
    have sS1 : Chg ([]) W11 W11 := (Chg.refl _).more (by simp)
    refine dV 0 33 _ rfl rfl (fun w' hw' => lA (qT hw' (qT ch10 (qT ch9 hb4))) (frmL_size hI.sz)) sS1<|dV 2 35 _ rfl rfl (fun w' hw' => lA (qT hw' (qT ch10 (qT ch9 (qO ch8 (qT ch7 (qT ch6 (qT ch5 (qT ch4 (qT ch2 hb1))))))))) (frmL_size hI.sz)) sS1<|dO 1 ?_
    have kk14 := kA (kA kk12 ch9) ch10
    refine oK 34 (MayF_any f ZZ1 W11 (LiesF.chg hLs1 kk14 ⟨fun _ _ _ _ => trivial, fun _ _ _ _ => trivial, fun _ _ _ _ => trivial, fun _ _ _ _ => trivial, fun _ _ _ _ => trivial⟩) hI) ?_
    rintro _ W12 ⟨bv3, rfl, hif1, ch11⟩
    have zz11 := ch11.size
    obtain rfl : bv3 = true := hif1.2 hmy1
    have sS2 := kA sS1 ch11
    refine aN sS2<|dO 3 ?_
    have kk17 := kA (kA (kA kk10 ch9) ch10) ch11
    refine oK 36 (RMay25_any f z W12 (LiesF.chg hL kk17 hLin_) hI) ?_
    rintro _ W13 ⟨bv4, rfl, hif2, ch12⟩
    have zz12 := ch12.size
    obtain rfl : bv4 = true := hif2.2 hmy1
    have sS3 := kA sS2 ch12
    refine aN sS3<|dW 4 37 vF sS3<|dW 5 38 vF sS3<|dV 6 39 _ rfl rfl (fun w' hw' => lA (qT hw' (qT ch10 (qT ch9 hb4))) (frmL_size hI.sz)) sS3<|dV 7 40 _ rfl rfl (fun w' hw' => lA (qT hw' (qT ch10 (qT ch9 (qO ch8 (qT ch7 (qT ch6 (qT ch5 (qT ch4 hb2)))))))) (frmL_size hJ.sz)) sS3<|dV 9 42 _ rfl rfl (fun w' hw' => lA (qT hw' (qT ch10 (qT ch9 (qO ch8 (qT ch7 (qT ch6 (qT ch5 (qT ch4 (qT ch2 hb1))))))))) (frmL_size hI.sz)) sS3<|dV 10 43 _ rfl rfl (fun w' hw' => lA (qT hw' (qT ch10 (qT ch9 (qO ch8 (qT ch7 (qT ch6 (qT ch5 (qT ch4 hb2)))))))) (frmL_size hJ.sz)) sS3<|dO 8 ?_
    have kk19 := kA (kA kk14 ch11) ch12
    have kk20 := kA kk17 ch12
    refine oK 41 (Same_any f ZZ1 g y W13 (LiesF.chg hLs1 kk19 ⟨fun _ _ _ _ => trivial, fun _ _ _ _ => trivial, fun _ _ _ _ => trivial, fun _ _ _ _ => trivial, fun _ _ _ _ => trivial⟩) hI (LiesF.chg hM kk20 hMin_) hJ) ?_
    rintro _ W14 ⟨bv5, rfl, hif3, ch13⟩
    have zz13 := ch13.size
    cases bv5
    ·have sS4 := kA sS3 ch13
     refine aN sS4<|dO 11 ?_
     have kk21 := kA kk20 ch13
     refine oK 44 (Same25_any f z g y W14 (LiesF.chg hL kk21 hLin_) hI (LiesF.chg hM kk21 hMin_) hJ) ?_
     rintro _ W15 ⟨bv6, rfl, hif4, ch14⟩
     have zz14 := ch14.size
     obtain rfl : bv6 = false := Bool.eq_false_iff.2 (fun q_ => (fun q_ => Bool.noConfusion (hif3.2 q_)) (hif4.1 q_))
     have sS5 := kA sS4 ch14
     refine aN sS5<|dW 12 45 vF sS5<|dW 13 46 vF sS5<|dW 14 47 vF sS5<|dV 15 48 _ rfl rfl (fun w' hw' => lA (qT hw' (qT ch10 (qT ch9 hb4))) (frmL_size hI.sz)) sS5<|dV 16 49 _ rfl rfl (fun w' hw' => lA (qT hw' (qT ch10 (qT ch9 (qO ch8 (qT ch7 (qT ch6 (qT ch5 (qT ch4 (qT ch2 hb1))))))))) (frmL_size hI.sz)) sS5<|dO 17 ?_
     have kk23 := kA (kA kk19 ch13) ch14
     have kk24 := kA kk21 ch14
     refine oK 50 (Same25_any f ZZ1 f z W15 (LiesF.chg hLs1 kk23 ⟨fun _ _ _ _ => trivial, fun _ _ _ _ => trivial, fun _ _ _ _ => trivial, fun _ _ _ _ => trivial, fun _ _ _ _ => trivial⟩) hI (LiesF.chg hL kk24 hLin_) hI) ?_
     rintro _ W16 ⟨bv7, rfl, hif5, ch15⟩
     have zz15 := ch15.size
     obtain rfl : bv7 = true := hif5.2 rfl
     have sS6 := kA sS5 ch15
     refine aN sS6<|dW 18 51 vF sS6<|dW 19 52 vF sS6<|dW 20 53 vF sS6<|dV 21 54 _ rfl rfl (fun w' hw' => lA (qT hw' (qT ch10 (qT ch9 hb4))) (frmL_size hI.sz)) sS6<|dV 22 55 _ rfl rfl (fun w' hw' => lA (qT hw' (qT ch10 (qT ch9 (qO ch8 (qT ch7 (qT ch6 (qT ch5 (qT ch4 (qT ch2 hb1))))))))) (frmL_size hI.sz)) sS6<|dO 23 ?_
     have kk26 := kA kk24 ch15
     refine oK 56 (Same_any f ZZ1 f z W16 (LiesF.chg hLs1 (kA kk23 ch15) ⟨fun _ _ _ _ => trivial, fun _ _ _ _ => trivial, fun _ _ _ _ => trivial, fun _ _ _ _ => trivial, fun _ _ _ _ => trivial⟩) hI (LiesF.chg hL kk26 hLin_) hI) ?_
     rintro _ W17 ⟨bv8, rfl, hif6, ch16⟩
     have zz16 := ch16.size
     obtain rfl : bv8 = true := hif6.2 rfl
     have sS7 := kA sS6 ch16
     refine aN sS7<|dW 24 57 vF sS7<|dW 25 58 vF sS7<|dN<|cF<|wp_skip<|nxt<|wp_seq<|sR<|rq 0 59 _ rfl (lA (qT ch16 (qT ch15 (qT ch14 (qT ch13 (qT ch12 (qT ch11 (qT ch10 (qT ch9 (qO ch8 (qT ch7 (qT ch6 (qT ch5 (qT ch4 (qT ch2 hb1)))))))))))))) (frmL_size hI.sz)) ?_
     have kk27 := kA kk26 ch16
     refine rK 1 60 (RMay25_any f z W17 (LiesF.chg hL kk27 hLin_) hI) ?_
     rintro _ W18 ⟨bv9, rfl, hif7, ch17⟩
     have zz17 := ch17.size
     obtain rfl : bv9 = true := hif7.2 hmy1
     refine rP 2 61 vF<|eN<|cF<|wp_skip<|nxt<|wp_seq<|wp_seq<|?_
     refine dReg ([]) (by kernel_rfl) ?_
     intro W19 ch18 sz5
     have zz18 := ch18.size
     have sS8 : Chg ([]) W19 W19 := (Chg.refl _).more (by simp)
     refine dW 0 72 (vI 0) sS8<|dV 1 73 vF rfl rfl (fun w' hw' => boolF (b := ((0 : Int) != (0 : Int))) (bne_eq_false_iff_eq.2 (by decide)) (by kernel_rfl)) sS8<|dW 2 74 vF sS8<|dW 3 75 (.slice AA1 nn1 cc1) sS8<|dV 4 76 (.string (Mur.str (bytesFM T f))) rfl rfl (fun w' hw' => run_str 22 9 (.tmp 75) 5 rfl Tryz.underlying22 Tryz.underlying5 Tryz.underlying9 AA1 nn1 cc1 (bytesFM T f) (by kernel_rfl) (byt_chg (byt_chg (byt_chg (byt_chg (byt_chg (byt_chg (byt_chg (byt_chg (byt_chg (byt_chg ow1.byt ch10 (fun g off e hl => trivial)) ch11 (fun g off e hl => trivial)) ch12 (fun g off e hl => trivial)) ch13 (fun g off e hl => trivial)) ch14 (fun g off e hl => trivial)) ch15 (fun g off e hl => trivial)) ch16 (fun g off e hl => trivial)) ch17 (fun g off e hl => trivial)) ch18 (fun g off e hl => trivial)) hw' (fun g off e hl => trivial))) sS8<|dW 5 77 (.slice A n c) sS8<|dV 6 78 _ rfl rfl (fun w' hw' => lA (qT hw' (qT ch18 (qT ch17 (qT ch16 (qT ch15 (qT ch14 (qT ch13 (qT ch12 (qT ch11 (qT ch10 (qT ch9 (qO ch8 (qT ch7 (qT ch6 (qT ch5 (qT ch4 (qT ch2 hb1))))))))))))))))) (frmL_size hI.sz)) sS8<|dO 7 ?_
     have kk29 := kA (kA kk27 ch17) ch18
     refine oK 79 (RBytes25_any s A n c T f z W19 (HV.out.below (Chg.below0 kk29)) (byt_chg HBY.out kk29 (fun g off e hl => trivial)) ⟨by omega, by omega⟩ HA.out (by omega) hTs hTsl (LiesF.chg hL kk29 hLin_) hI hmy1) ?_
     rintro _ W20 ⟨AA2, nn2, cc2, rfl, ow2, hle1, ch19⟩
     have zz19 := ch19.size
     have hq4 := ow2.nc
     have hq5 := ow2.cm
     have hq6 := ow2.byt.1
     have sS9 := kA sS8 ch19
     refine aN sS9<|dO 8 ?_
     refine Wk.oVal (some 80) (.string (Mur.str (bytesFM T f))) rfl rfl (by kernel_rfl) (run_str 22 9 (.tmp 79) 5 rfl Tryz.underlying22 Tryz.underlying5 Tryz.underlying9 AA2 nn2 cc2 (bytesFM T f) (by kernel_rfl) ow2.byt) ?_
     refine aN sS9<|dV 9 81 vF rfl rfl (fun w' hw' => dqF (fun h => h rfl) (Mur.strne 9 9 (.tmp 76) (.tmp 80) rfl (bytesFM T f) (bytesFM T f) (by kernel_rfl) (by kernel_rfl))) sS9<|dW 10 82 vF sS9<|dW 11 83 vF sS9<|dW 12 84 (.slice AA1 nn1 cc1) sS9<|dW 13 85 (vI nn1) sS9<|dV 14 86 vF rfl rfl (fun w' hw' => boolF (b := decide ((nn1 : Int) > (2000 : Int))) (decide_eq_false (by omega)) (by kernel_rfl)) sS9<|dW 15 87 vF sS9<|dN<|cF<|wp_skip<|nxt<|sR<|rP 0 89 (.slice A n c)<|rP 1 90 (.slice AA1 nn1 cc1) ?_
     have kk30 := kA kk29 ch19
     have ow12 := oA (oA (oA (oA (oA (oA (oA (oA (oA (oA ow1 ch10) ch11) ch12) ch13) ch14) ch15) ch16) ch17) ch18) ch19
     refine rK 2 91 (ReadF_any s A n c T (bytesFM T f) AA1 nn1 cc1 W20 (HV.out.below (Chg.below0 kk30)) (byt_chg HBY.out kk30 (fun g off e hl => trivial)) ⟨by omega, by omega⟩ HA.out (by omega) hTs hTsl ow12.byt ⟨by omega, by omega⟩ ow12.nil) ?_
     rintro _ W21 ⟨FF1, ZZ2, er2, rfl, hLs2, hZin2, hc2, ch20⟩
     have zz20 := ch20.size
     rcases hc2 with ⟨rfl, htd1, hIn1⟩ | ⟨rfl, htd1, rfl⟩ | ⟨rfl, htd1, rfl⟩ | ⟨rfl, htd1, rfl⟩
     ·have hFf_ : f = FF1 := by have q_ := htd1.symm.trans hrb_; injection q_ with q_; exact q_.symm
      subst hFf_
      refine rP 3 88 (.tuple #[.agg ((frmP f ZZ2).flatten.toArray), vI 0])<|rP 4 92 (.agg ((frmP f ZZ2).flatten.toArray))<|rP 5 93 (vI 0)<|nW 6 10 ((frmh 0 0 0).flatten.toArray) 38 fun W22 hb5 ch21 sz6 => rU 7 rfl (sA (frmP f ZZ2).flatten.toArray (frmL_size hI.sz) hb5 (frmL_size (frmL_sz rfl rfl rfl rfl rfl rfl))) fun W23 hb6 ch22 zz22 => rP 8 11 (vI 0)<|eN<|wp_seq<|sR<|?_
      have hps_ := ok_pos hrb_
      obtain ⟨gB, hgB_, hgB1_, hgB2_⟩ := own8_some ow1 (by omega)
      subst hgB_
      refine rP 0 94 (.slice (some ⟨gB, 0, none⟩) nn1 cc1)<|rP 1 95 (vI nn1)<|rP 2 96 (vI 0)<|eN<|wp_block<|?_
      refine Wk.loop (fun m_ a wr => ∃ (i : Nat) (l1 : List UInt8), m_ = nn1 - i ∧ a = FormsF_F1 a.tmps (pw w 0) (.slice (some ⟨gB, 0, none⟩) nn1 cc1) (pw W21 0) (vI 0) (vI nn1) (vI i) ∧ i ≤ nn1 ∧ Own8 wr W8.heap.size 5 (some ⟨gB, 0, none⟩) nn1 cc1 l1 ∧ wr.heap[w.heap.size]? = some (.cells (frmP f z).flatten.toArray 38 (0, 0)) ∧ wr.heap[W21.heap.size]? = some (.cells (frmP f ZZ2).flatten.toArray 38 (0, 0)) ∧ LiesF wr ZZ2 f ∧ W21.heap.size ≤ wr.heap.size ∧ Chg [] w wr) (nn1 - 0) ?_ ?_
      ·have kk31 : Chg [] (W21) W22 := zA ch21
       refine ⟨0, bytesFM T f, rfl, by kernel_rfl, (by omega), (oB (oA (oA ow12 ch20) ch21) ch22 ow1.lt), (qO ch22 (qT ch21 (qT ch20 (qT ch19 (qT ch18 (qT ch17 (qT ch16 (qT ch15 (qT ch14 (qT ch13 (qT ch12 (qT ch11 (qT ch10 (qT ch9 (qO ch8 (qT ch7 (qT ch6 (qT ch5 (qT ch4 (qT ch2 hb1)))))))))))))))))))), hb6, (LiesF.chg hLs2 (kB kk31 ch22) ⟨fun _ _ _ _ => trivial, fun _ _ _ _ => trivial, fun _ _ _ _ => trivial, fun _ _ _ _ => trivial, fun _ _ _ _ => trivial⟩), (by omega), (kB (kA (kA kk30 ch20) ch21) ch22)⟩
      rintro mm1 aa1 W24 ⟨i, l1, hmm1, hF1, hi, hO, hbx0, hbx1, hLz, hbz, HB⟩
      generalize aa1.tmps = bb1 at hF1
      subst hF1
      have hzB := HB.size
      have hOn := hO.nc
      have hOl := hO.byt.1
      by_cases hlt : i < nn1
      ·refine sR<|bT 0 97 ((i : Int) < (nn1 : Int))<|eN<|wp_seq<|cT<|wp_skip<|nxt<|wp_seq<|wp_block<|sR<|rP 0 98 (vI i)<|rP 1 12 (vI i)<|eN<|reg<|rP 0 99 (.slice (some ⟨gB, 0, none⟩) nn1 cc1)<|rP 1 100 (vI i)<|rq 2 101 (pt gB (0 + i * 1)) rfl (iS 1 gB 0 nn1 cc1 i)<|rq 3 102 _ rfl (ld 5 101 gB (0 + i * 1) (vB ((l1.getD i 0).toNat : Nat)) (byt_cell hO.byt i hlt))<|rq 4 103 (vB (((l1.getD i 0) + 1).toNat : Nat)) rfl (Mur.add8 5 5 (.tmp 102) (.const (vB 1)) rfl (l1.getD i 0) (by kernel_rfl) (by kernel_rfl))<|rq 5 104 (pt gB (0 + i * 1)) rfl (iS 1 gB 0 nn1 cc1 i)<|rU 6 rfl (own_store 5 (.tmp 104) (.tmp 103) rfl (by kernel_rfl) gB i (by kernel_rfl) ((l1.getD i 0) + 1) (by kernel_rfl) hO hlt) fun W25 ow16 ch23 zz23 => rE<|inN<|nxt<|reg<|rI 0 105 ((i : Int) + 1) (((i + 1 : Nat) : Int))<|rP 1 96 (vI (i + 1 : Nat))<|eN<|?_
       refine ⟨_, ?_, i + 1, l1.set i ((l1.getD i 0) + 1), rfl, by kernel_rfl, (by omega), ow16, (qO ch23 hbx0), (qO ch23 hbx1), (LiesF.chg hLz (zC ch23 : Chg [gB] (W24) W25) ⟨fun g_ o_ e_ _ => ⟨by have h_ : W20.heap.size ≤ g_ := hZin2.1 g_ o_ e_; omega, trivial⟩, fun g_ o_ e_ _ => ⟨by have h_ : W20.heap.size ≤ g_ := hZin2.2.1 g_ o_ e_; omega, trivial⟩, fun g_ o_ e_ _ => ⟨by have h_ : W20.heap.size ≤ g_ := hZin2.2.2.1 g_ o_ e_; omega, trivial⟩, fun g_ o_ e_ _ => ⟨by have h_ : W20.heap.size ≤ g_ := hZin2.2.2.2.1 g_ o_ e_; omega, trivial⟩, fun g_ o_ e_ _ => ⟨by have h_ : W20.heap.size ≤ g_ := hZin2.2.2.2.2 g_ o_ e_; omega, trivial⟩⟩), (by omega), (kB HB ch23)⟩
       omega
      refine sR<|bF 0 97 ((i : Int) < (nn1 : Int))<|eN<|wp_seq<|cF<|xX<|nxt<|sR<|rP 0 106 (vI 0)<|eT 1 107 (0 : Int) (0 : Int)<|rP 2 108 vT<|rq 3 109 _ rfl (lA hbx1 (frmL_size hI.sz))<|rq 4 110 _ rfl (lA hbx0 (frmL_size hI.sz))<|rK 5 111 (Same25_any f ZZ2 f z W24 hLz hI (LiesF.chg hL HB hLin_) hI) ?_
      rintro _ W26 ⟨bv10, rfl, hif8, ch24⟩
      have zz24 := ch24.size
      obtain rfl : bv10 = true := hif8.2 rfl
      refine rP 6 112 vT<|rP 7 113 vT ?_
      have kk38 := kA HB ch24
      refine rK 8 114 (Known25_any W26 (HV.out.below (Chg.below0 kk38))) ?_
      rintro _ W27 ⟨rfl, ch25⟩
      have zz25 := ch25.size
      exact rP 9 115 vT<|rP 10 6 vT<|eN<|wp_ret<|rt vT ⟨rfl, Chg.below0 (kA kk38 ch25)⟩
     ·exact absurd (htd1.symm.trans hrb_) (by intro q_; cases q_)
     ·exact absurd (htd1.symm.trans hrb_) (by intro q_; cases q_)
     exact absurd (htd1.symm.trans hrb_) (by intro q_; cases q_)
    have sS10 := kA sS3 ch13
    refine aN sS10<|dO 11 ?_
    have kk40 := kA kk20 ch13
    refine oK 44 (Same25_any f z g y W14 (LiesF.chg hL kk40 hLin_) hI (LiesF.chg hM kk40 hMin_) hJ) ?_
    rintro _ W28 ⟨bv11, rfl, hif9, ch26⟩
    have zz26 := ch26.size
    obtain rfl : bv11 = true := hif9.2 (hif3.1 rfl)
    have sS11 := kA sS10 ch26
    refine aN sS11<|dW 12 45 vF sS11<|dW 13 46 vF sS11<|dW 14 47 vF sS11<|dV 15 48 _ rfl rfl (fun w' hw' => lA (qT hw' (qT ch10 (qT ch9 hb4))) (frmL_size hI.sz)) sS11<|dV 16 49 _ rfl rfl (fun w' hw' => lA (qT hw' (qT ch10 (qT ch9 (qO ch8 (qT ch7 (qT ch6 (qT ch5 (qT ch4 (qT ch2 hb1))))))))) (frmL_size hI.sz)) sS11<|dO 17 ?_
    have kk42 := kA (kA kk19 ch13) ch26
    have kk43 := kA kk40 ch26
    refine oK 50 (Same25_any f ZZ1 f z W28 (LiesF.chg hLs1 kk42 ⟨fun _ _ _ _ => trivial, fun _ _ _ _ => trivial, fun _ _ _ _ => trivial, fun _ _ _ _ => trivial, fun _ _ _ _ => trivial⟩) hI (LiesF.chg hL kk43 hLin_) hI) ?_
    rintro _ W29 ⟨bv12, rfl, hif10, ch27⟩
    have zz27 := ch27.size
    obtain rfl : bv12 = true := hif10.2 rfl
    have sS12 := kA sS11 ch27
    refine aN sS12<|dW 18 51 vF sS12<|dW 19 52 vF sS12<|dW 20 53 vF sS12<|dV 21 54 _ rfl rfl (fun w' hw' => lA (qT hw' (qT ch10 (qT ch9 hb4))) (frmL_size hI.sz)) sS12<|dV 22 55 _ rfl rfl (fun w' hw' => lA (qT hw' (qT ch10 (qT ch9 (qO ch8 (qT ch7 (qT ch6 (qT ch5 (qT ch4 (qT ch2 hb1))))))))) (frmL_size hI.sz)) sS12<|dO 23 ?_
    have kk45 := kA kk43 ch27
    refine oK 56 (Same_any f ZZ1 f z W29 (LiesF.chg hLs1 (kA kk42 ch27) ⟨fun _ _ _ _ => trivial, fun _ _ _ _ => trivial, fun _ _ _ _ => trivial, fun _ _ _ _ => trivial, fun _ _ _ _ => trivial⟩) hI (LiesF.chg hL kk45 hLin_) hI) ?_
    rintro _ W30 ⟨bv13, rfl, hif11, ch28⟩
    have zz28 := ch28.size
    obtain rfl : bv13 = true := hif11.2 rfl
    have sS13 := kA sS12 ch28
    refine aN sS13<|dW 24 57 vF sS13<|dW 25 58 vF sS13<|dN<|cF<|wp_skip<|nxt<|wp_seq<|sR<|rq 0 59 _ rfl (lA (qT ch28 (qT ch27 (qT ch26 (qT ch13 (qT ch12 (qT ch11 (qT ch10 (qT ch9 (qO ch8 (qT ch7 (qT ch6 (qT ch5 (qT ch4 (qT ch2 hb1)))))))))))))) (frmL_size hI.sz)) ?_
    have kk46 := kA kk45 ch28
    refine rK 1 60 (RMay25_any f z W30 (LiesF.chg hL kk46 hLin_) hI) ?_
    rintro _ W31 ⟨bv14, rfl, hif12, ch29⟩
    have zz29 := ch29.size
    obtain rfl : bv14 = true := hif12.2 hmy1
    refine rP 2 61 vF<|eN<|cF<|wp_skip<|nxt<|wp_seq<|wp_seq<|?_
    refine dReg ([]) (by kernel_rfl) ?_
    intro W32 ch30 sz7
    have zz30 := ch30.size
    have sS14 : Chg ([]) W32 W32 := (Chg.refl _).more (by simp)
    refine dW 0 72 (vI 0) sS14<|dV 1 73 vF rfl rfl (fun w' hw' => boolF (b := ((0 : Int) != (0 : Int))) (bne_eq_false_iff_eq.2 (by decide)) (by kernel_rfl)) sS14<|dW 2 74 vF sS14<|dW 3 75 (.slice AA1 nn1 cc1) sS14<|dV 4 76 (.string (Mur.str (bytesFM T f))) rfl rfl (fun w' hw' => run_str 22 9 (.tmp 75) 5 rfl Tryz.underlying22 Tryz.underlying5 Tryz.underlying9 AA1 nn1 cc1 (bytesFM T f) (by kernel_rfl) (byt_chg (byt_chg (byt_chg (byt_chg (byt_chg (byt_chg (byt_chg (byt_chg (byt_chg (byt_chg ow1.byt ch10 (fun g off e hl => trivial)) ch11 (fun g off e hl => trivial)) ch12 (fun g off e hl => trivial)) ch13 (fun g off e hl => trivial)) ch26 (fun g off e hl => trivial)) ch27 (fun g off e hl => trivial)) ch28 (fun g off e hl => trivial)) ch29 (fun g off e hl => trivial)) ch30 (fun g off e hl => trivial)) hw' (fun g off e hl => trivial))) sS14<|dW 5 77 (.slice A n c) sS14<|dV 6 78 _ rfl rfl (fun w' hw' => lA (qT hw' (qT ch30 (qT ch29 (qT ch28 (qT ch27 (qT ch26 (qT ch13 (qT ch12 (qT ch11 (qT ch10 (qT ch9 (qO ch8 (qT ch7 (qT ch6 (qT ch5 (qT ch4 (qT ch2 hb1))))))))))))))))) (frmL_size hI.sz)) sS14<|dO 7 ?_
    have kk48 := kA (kA kk46 ch29) ch30
    refine oK 79 (RBytes25_any s A n c T f z W32 (HV.out.below (Chg.below0 kk48)) (byt_chg HBY.out kk48 (fun g off e hl => trivial)) ⟨by omega, by omega⟩ HA.out (by omega) hTs hTsl (LiesF.chg hL kk48 hLin_) hI hmy1) ?_
    rintro _ W33 ⟨AA3, nn3, cc3, rfl, ow17, hle2, ch31⟩
    have zz31 := ch31.size
    have hq7 := ow17.nc
    have hq8 := ow17.cm
    have hq9 := ow17.byt.1
    have sS15 := kA sS14 ch31
    refine aN sS15<|dO 8 ?_
    refine Wk.oVal (some 80) (.string (Mur.str (bytesFM T f))) rfl rfl (by kernel_rfl) (run_str 22 9 (.tmp 79) 5 rfl Tryz.underlying22 Tryz.underlying5 Tryz.underlying9 AA3 nn3 cc3 (bytesFM T f) (by kernel_rfl) ow17.byt) ?_
    refine aN sS15<|dV 9 81 vF rfl rfl (fun w' hw' => dqF (fun h => h rfl) (Mur.strne 9 9 (.tmp 76) (.tmp 80) rfl (bytesFM T f) (bytesFM T f) (by kernel_rfl) (by kernel_rfl))) sS15<|dW 10 82 vF sS15<|dW 11 83 vF sS15<|dW 12 84 (.slice AA1 nn1 cc1) sS15<|dW 13 85 (vI nn1) sS15<|dV 14 86 vF rfl rfl (fun w' hw' => boolF (b := decide ((nn1 : Int) > (2000 : Int))) (decide_eq_false (by omega)) (by kernel_rfl)) sS15<|dW 15 87 vF sS15<|dN<|cF<|wp_skip<|nxt<|sR<|rP 0 89 (.slice A n c)<|rP 1 90 (.slice AA1 nn1 cc1) ?_
    have kk49 := kA kk48 ch31
    have ow27 := oA (oA (oA (oA (oA (oA (oA (oA (oA (oA ow1 ch10) ch11) ch12) ch13) ch26) ch27) ch28) ch29) ch30) ch31
    refine rK 2 91 (ReadF_any s A n c T (bytesFM T f) AA1 nn1 cc1 W33 (HV.out.below (Chg.below0 kk49)) (byt_chg HBY.out kk49 (fun g off e hl => trivial)) ⟨by omega, by omega⟩ HA.out (by omega) hTs hTsl ow27.byt ⟨by omega, by omega⟩ ow27.nil) ?_
    rintro _ W34 ⟨FF2, ZZ3, er3, rfl, hLs3, hZin3, hc3, ch32⟩
    have zz32 := ch32.size
    rcases hc3 with ⟨rfl, htd2, hIn2⟩ | ⟨rfl, htd2, rfl⟩ | ⟨rfl, htd2, rfl⟩ | ⟨rfl, htd2, rfl⟩
    ·have hFf_ : f = FF2 := by have q_ := htd2.symm.trans hrb_; injection q_ with q_; exact q_.symm
     subst hFf_
     refine rP 3 88 (.tuple #[.agg ((frmP f ZZ3).flatten.toArray), vI 0])<|rP 4 92 (.agg ((frmP f ZZ3).flatten.toArray))<|rP 5 93 (vI 0)<|nW 6 10 ((frmh 0 0 0).flatten.toArray) 38 fun W35 hb7 ch33 sz8 => rU 7 rfl (sA (frmP f ZZ3).flatten.toArray (frmL_size hI.sz) hb7 (frmL_size (frmL_sz rfl rfl rfl rfl rfl rfl))) fun W36 hb8 ch34 zz34 => rP 8 11 (vI 0)<|eN<|wp_seq<|sR<|?_
     have hps_ := ok_pos hrb_
     obtain ⟨gB, hgB_, hgB1_, hgB2_⟩ := own8_some ow1 (by omega)
     subst hgB_
     refine rP 0 94 (.slice (some ⟨gB, 0, none⟩) nn1 cc1)<|rP 1 95 (vI nn1)<|rP 2 96 (vI 0)<|eN<|wp_block<|?_
     refine Wk.loop (fun m_ a wr => ∃ (i : Nat) (l1 : List UInt8), m_ = nn1 - i ∧ a = FormsF_F2 a.tmps (pw w 0) (.slice (some ⟨gB, 0, none⟩) nn1 cc1) (pw W34 0) (vI 0) (vI nn1) (vI i) ∧ i ≤ nn1 ∧ Own8 wr W8.heap.size 5 (some ⟨gB, 0, none⟩) nn1 cc1 l1 ∧ wr.heap[w.heap.size]? = some (.cells (frmP f z).flatten.toArray 38 (0, 0)) ∧ wr.heap[W34.heap.size]? = some (.cells (frmP f ZZ3).flatten.toArray 38 (0, 0)) ∧ LiesF wr ZZ3 f ∧ W34.heap.size ≤ wr.heap.size ∧ Chg [] w wr) (nn1 - 0) ?_ ?_
     ·have kk50 : Chg [] (W34) W35 := zA ch33
      refine ⟨0, bytesFM T f, rfl, by kernel_rfl, (by omega), (oB (oA (oA ow27 ch32) ch33) ch34 ow1.lt), (qO ch34 (qT ch33 (qT ch32 (qT ch31 (qT ch30 (qT ch29 (qT ch28 (qT ch27 (qT ch26 (qT ch13 (qT ch12 (qT ch11 (qT ch10 (qT ch9 (qO ch8 (qT ch7 (qT ch6 (qT ch5 (qT ch4 (qT ch2 hb1)))))))))))))))))))), hb8, (LiesF.chg hLs3 (kB kk50 ch34) ⟨fun _ _ _ _ => trivial, fun _ _ _ _ => trivial, fun _ _ _ _ => trivial, fun _ _ _ _ => trivial, fun _ _ _ _ => trivial⟩), (by omega), (kB (kA (kA kk49 ch32) ch33) ch34)⟩
     rintro mm2 aa2 W37 ⟨i, l1, hmm2, hF2, hi, hO, hbx0, hbx1, hLz, hbz, HB⟩
     generalize aa2.tmps = bb2 at hF2
     subst hF2
     have hzB := HB.size
     have hOn := hO.nc
     have hOl := hO.byt.1
     by_cases hlt : i < nn1
     ·refine sR<|bT 0 97 ((i : Int) < (nn1 : Int))<|eN<|wp_seq<|cT<|wp_skip<|nxt<|wp_seq<|wp_block<|sR<|rP 0 98 (vI i)<|rP 1 12 (vI i)<|eN<|reg<|rP 0 99 (.slice (some ⟨gB, 0, none⟩) nn1 cc1)<|rP 1 100 (vI i)<|rq 2 101 (pt gB (0 + i * 1)) rfl (iS 1 gB 0 nn1 cc1 i)<|rq 3 102 _ rfl (ld 5 101 gB (0 + i * 1) (vB ((l1.getD i 0).toNat : Nat)) (byt_cell hO.byt i hlt))<|rq 4 103 (vB (((l1.getD i 0) + 1).toNat : Nat)) rfl (Mur.add8 5 5 (.tmp 102) (.const (vB 1)) rfl (l1.getD i 0) (by kernel_rfl) (by kernel_rfl))<|rq 5 104 (pt gB (0 + i * 1)) rfl (iS 1 gB 0 nn1 cc1 i)<|rU 6 rfl (own_store 5 (.tmp 104) (.tmp 103) rfl (by kernel_rfl) gB i (by kernel_rfl) ((l1.getD i 0) + 1) (by kernel_rfl) hO hlt) fun W38 ow31 ch35 zz35 => rE<|inN<|nxt<|reg<|rI 0 105 ((i : Int) + 1) (((i + 1 : Nat) : Int))<|rP 1 96 (vI (i + 1 : Nat))<|eN<|?_
      refine ⟨_, ?_, i + 1, l1.set i ((l1.getD i 0) + 1), rfl, by kernel_rfl, (by omega), ow31, (qO ch35 hbx0), (qO ch35 hbx1), (LiesF.chg hLz (zC ch35 : Chg [gB] (W37) W38) ⟨fun g_ o_ e_ _ => ⟨by have h_ : W33.heap.size ≤ g_ := hZin3.1 g_ o_ e_; omega, trivial⟩, fun g_ o_ e_ _ => ⟨by have h_ : W33.heap.size ≤ g_ := hZin3.2.1 g_ o_ e_; omega, trivial⟩, fun g_ o_ e_ _ => ⟨by have h_ : W33.heap.size ≤ g_ := hZin3.2.2.1 g_ o_ e_; omega, trivial⟩, fun g_ o_ e_ _ => ⟨by have h_ : W33.heap.size ≤ g_ := hZin3.2.2.2.1 g_ o_ e_; omega, trivial⟩, fun g_ o_ e_ _ => ⟨by have h_ : W33.heap.size ≤ g_ := hZin3.2.2.2.2 g_ o_ e_; omega, trivial⟩⟩), (by omega), (kB HB ch35)⟩
      omega
     refine sR<|bF 0 97 ((i : Int) < (nn1 : Int))<|eN<|wp_seq<|cF<|xX<|nxt<|sR<|rP 0 106 (vI 0)<|eT 1 107 (0 : Int) (0 : Int)<|rP 2 108 vT<|rq 3 109 _ rfl (lA hbx1 (frmL_size hI.sz))<|rq 4 110 _ rfl (lA hbx0 (frmL_size hI.sz))<|rK 5 111 (Same25_any f ZZ3 f z W37 hLz hI (LiesF.chg hL HB hLin_) hI) ?_
     rintro _ W39 ⟨bv15, rfl, hif13, ch36⟩
     have zz36 := ch36.size
     obtain rfl : bv15 = true := hif13.2 rfl
     refine rP 6 112 vT<|rP 7 113 vT ?_
     have kk57 := kA HB ch36
     refine rK 8 114 (Known25_any W39 (HV.out.below (Chg.below0 kk57))) ?_
     rintro _ W40 ⟨rfl, ch37⟩
     have zz37 := ch37.size
     exact rP 9 115 vT<|rP 10 6 vT<|eN<|wp_ret<|rt vT ⟨rfl, Chg.below0 (kA kk57 ch37)⟩
    ·exact absurd (htd2.symm.trans hrb_) (by intro q_; cases q_)
    ·exact absurd (htd2.symm.trans hrb_) (by intro q_; cases q_)
    exact absurd (htd2.symm.trans hrb_) (by intro q_; cases q_)
   refine rP 3 27 (.tuple #[.slice none 0 0, vI 2])<|rP 4 31 (.slice none 0 0)<|rP 5 32 (vI 2)<|rP 6 8 (.slice none 0 0)<|rP 7 9 (vI 2)<|eN<|wp_seq<|wp_seq<|?_
   refine dReg ([]) (by kernel_rfl) ?_
   intro W41 ch38 sz9
   have zz38 := ch38.size
   have sS16 : Chg ([]) W41 W41 := (Chg.refl _).more (by simp)
   refine dV 0 33 _ rfl rfl (fun w' hw' => lA (qT hw' (qT ch38 (qT ch9 hb4))) (frmL_size hI.sz)) sS16<|dV 2 35 _ rfl rfl (fun w' hw' => lA (qT hw' (qT ch38 (qT ch9 (qO ch8 (qT ch7 (qT ch6 (qT ch5 (qT ch4 (qT ch2 hb1))))))))) (frmL_size hI.sz)) sS16<|dO 1 ?_
   have kk60 := kA (kA kk12 ch9) ch38
   refine oK 34 (MayF_any f ZZ1 W41 (LiesF.chg hLs1 kk60 ⟨fun _ _ _ _ => trivial, fun _ _ _ _ => trivial, fun _ _ _ _ => trivial, fun _ _ _ _ => trivial, fun _ _ _ _ => trivial⟩) hI) ?_
   rintro _ W42 ⟨bv16, rfl, hif14, ch39⟩
   have zz39 := ch39.size
   obtain rfl : bv16 = false := Bool.eq_false_iff.2 (fun q_ => hmy1 (hif14.1 q_))
   have sS17 := kA sS16 ch39
   refine aN sS17<|dO 3 ?_
   have kk63 := kA (kA (kA kk10 ch9) ch38) ch39
   refine oK 36 (RMay25_any f z W42 (LiesF.chg hL kk63 hLin_) hI) ?_
   rintro _ W43 ⟨bv17, rfl, hif15, ch40⟩
   have zz40 := ch40.size
   obtain rfl : bv17 = false := Bool.eq_false_iff.2 (fun q_ => hmy1 (hif15.1 q_))
   have sS18 := kA sS17 ch40
   refine aN sS18<|dW 4 37 vF sS18<|dW 5 38 vF sS18<|dV 6 39 _ rfl rfl (fun w' hw' => lA (qT hw' (qT ch38 (qT ch9 hb4))) (frmL_size hI.sz)) sS18<|dV 7 40 _ rfl rfl (fun w' hw' => lA (qT hw' (qT ch38 (qT ch9 (qO ch8 (qT ch7 (qT ch6 (qT ch5 (qT ch4 hb2)))))))) (frmL_size hJ.sz)) sS18<|dV 9 42 _ rfl rfl (fun w' hw' => lA (qT hw' (qT ch38 (qT ch9 (qO ch8 (qT ch7 (qT ch6 (qT ch5 (qT ch4 (qT ch2 hb1))))))))) (frmL_size hI.sz)) sS18<|dV 10 43 _ rfl rfl (fun w' hw' => lA (qT hw' (qT ch38 (qT ch9 (qO ch8 (qT ch7 (qT ch6 (qT ch5 (qT ch4 hb2)))))))) (frmL_size hJ.sz)) sS18<|dO 8 ?_
   have kk65 := kA (kA kk60 ch39) ch40
   have kk66 := kA kk63 ch40
   refine oK 41 (Same_any f ZZ1 g y W43 (LiesF.chg hLs1 kk65 ⟨fun _ _ _ _ => trivial, fun _ _ _ _ => trivial, fun _ _ _ _ => trivial, fun _ _ _ _ => trivial, fun _ _ _ _ => trivial⟩) hI (LiesF.chg hM kk66 hMin_) hJ) ?_
   rintro _ W44 ⟨bv18, rfl, hif16, ch41⟩
   have zz41 := ch41.size
   cases bv18
   ·have sS19 := kA sS18 ch41
    refine aN sS19<|dO 11 ?_
    have kk67 := kA kk66 ch41
    refine oK 44 (Same25_any f z g y W44 (LiesF.chg hL kk67 hLin_) hI (LiesF.chg hM kk67 hMin_) hJ) ?_
    rintro _ W45 ⟨bv19, rfl, hif17, ch42⟩
    have zz42 := ch42.size
    obtain rfl : bv19 = false := Bool.eq_false_iff.2 (fun q_ => (fun q_ => Bool.noConfusion (hif16.2 q_)) (hif17.1 q_))
    have sS20 := kA sS19 ch42
    refine aN sS20<|dW 12 45 vF sS20<|dW 13 46 vF sS20<|dW 14 47 vF sS20<|dV 15 48 _ rfl rfl (fun w' hw' => lA (qT hw' (qT ch38 (qT ch9 hb4))) (frmL_size hI.sz)) sS20<|dV 16 49 _ rfl rfl (fun w' hw' => lA (qT hw' (qT ch38 (qT ch9 (qO ch8 (qT ch7 (qT ch6 (qT ch5 (qT ch4 (qT ch2 hb1))))))))) (frmL_size hI.sz)) sS20<|dO 17 ?_
    have kk69 := kA (kA kk65 ch41) ch42
    have kk70 := kA kk67 ch42
    refine oK 50 (Same25_any f ZZ1 f z W45 (LiesF.chg hLs1 kk69 ⟨fun _ _ _ _ => trivial, fun _ _ _ _ => trivial, fun _ _ _ _ => trivial, fun _ _ _ _ => trivial, fun _ _ _ _ => trivial⟩) hI (LiesF.chg hL kk70 hLin_) hI) ?_
    rintro _ W46 ⟨bv20, rfl, hif18, ch43⟩
    have zz43 := ch43.size
    obtain rfl : bv20 = true := hif18.2 rfl
    have sS21 := kA sS20 ch43
    refine aN sS21<|dW 18 51 vF sS21<|dW 19 52 vF sS21<|dW 20 53 vF sS21<|dV 21 54 _ rfl rfl (fun w' hw' => lA (qT hw' (qT ch38 (qT ch9 hb4))) (frmL_size hI.sz)) sS21<|dV 22 55 _ rfl rfl (fun w' hw' => lA (qT hw' (qT ch38 (qT ch9 (qO ch8 (qT ch7 (qT ch6 (qT ch5 (qT ch4 (qT ch2 hb1))))))))) (frmL_size hI.sz)) sS21<|dO 23 ?_
    have kk72 := kA kk70 ch43
    refine oK 56 (Same_any f ZZ1 f z W46 (LiesF.chg hLs1 (kA kk69 ch43) ⟨fun _ _ _ _ => trivial, fun _ _ _ _ => trivial, fun _ _ _ _ => trivial, fun _ _ _ _ => trivial, fun _ _ _ _ => trivial⟩) hI (LiesF.chg hL kk72 hLin_) hI) ?_
    rintro _ W47 ⟨bv21, rfl, hif19, ch44⟩
    have zz44 := ch44.size
    obtain rfl : bv21 = true := hif19.2 rfl
    have sS22 := kA sS21 ch44
    refine aN sS22<|dW 24 57 vF sS22<|dW 25 58 vF sS22<|dN<|cF<|wp_skip<|nxt<|wp_seq<|sR<|rq 0 59 _ rfl (lA (qT ch44 (qT ch43 (qT ch42 (qT ch41 (qT ch40 (qT ch39 (qT ch38 (qT ch9 (qO ch8 (qT ch7 (qT ch6 (qT ch5 (qT ch4 (qT ch2 hb1)))))))))))))) (frmL_size hI.sz)) ?_
    have kk73 := kA kk72 ch44
    refine rK 1 60 (RMay25_any f z W47 (LiesF.chg hL kk73 hLin_) hI) ?_
    rintro _ W48 ⟨bv22, rfl, hif20, ch45⟩
    have zz45 := ch45.size
    obtain rfl : bv22 = false := Bool.eq_false_iff.2 (fun q_ => hmy1 (hif20.1 q_))
    refine rP 2 61 vT<|eN<|cT<|sR<|rP 0 62 (.slice none 0 0)<|rP 1 63 (vI 0)<|eT 2 64 (0 : Int) (0 : Int)<|rP 3 65 vT<|rP 4 66 (vI 2)<|eT 5 67 (2 : Int) (2 : Int)<|rP 6 68 vT<|rP 7 69 vT ?_
    have kk74 := kA kk73 ch45
    refine rK 8 70 (Known25_any W48 (HV.out.below (Chg.below0 kk74))) ?_
    rintro _ W49 ⟨rfl, ch46⟩
    have zz46 := ch46.size
    exact rP 9 71 vT<|rP 10 6 vT<|eN<|tR<|rt vT ⟨rfl, Chg.below0 (kA kk74 ch46)⟩
   have sS23 := kA sS18 ch41
   refine aN sS23<|dO 11 ?_
   have kk76 := kA kk66 ch41
   refine oK 44 (Same25_any f z g y W44 (LiesF.chg hL kk76 hLin_) hI (LiesF.chg hM kk76 hMin_) hJ) ?_
   rintro _ W50 ⟨bv23, rfl, hif21, ch47⟩
   have zz47 := ch47.size
   obtain rfl : bv23 = true := hif21.2 (hif16.1 rfl)
   have sS24 := kA sS23 ch47
   refine aN sS24<|dW 12 45 vF sS24<|dW 13 46 vF sS24<|dW 14 47 vF sS24<|dV 15 48 _ rfl rfl (fun w' hw' => lA (qT hw' (qT ch38 (qT ch9 hb4))) (frmL_size hI.sz)) sS24<|dV 16 49 _ rfl rfl (fun w' hw' => lA (qT hw' (qT ch38 (qT ch9 (qO ch8 (qT ch7 (qT ch6 (qT ch5 (qT ch4 (qT ch2 hb1))))))))) (frmL_size hI.sz)) sS24<|dO 17 ?_
   have kk78 := kA (kA kk65 ch41) ch47
   have kk79 := kA kk76 ch47
   refine oK 50 (Same25_any f ZZ1 f z W50 (LiesF.chg hLs1 kk78 ⟨fun _ _ _ _ => trivial, fun _ _ _ _ => trivial, fun _ _ _ _ => trivial, fun _ _ _ _ => trivial, fun _ _ _ _ => trivial⟩) hI (LiesF.chg hL kk79 hLin_) hI) ?_
   rintro _ W51 ⟨bv24, rfl, hif22, ch48⟩
   have zz48 := ch48.size
   obtain rfl : bv24 = true := hif22.2 rfl
   have sS25 := kA sS24 ch48
   refine aN sS25<|dW 18 51 vF sS25<|dW 19 52 vF sS25<|dW 20 53 vF sS25<|dV 21 54 _ rfl rfl (fun w' hw' => lA (qT hw' (qT ch38 (qT ch9 hb4))) (frmL_size hI.sz)) sS25<|dV 22 55 _ rfl rfl (fun w' hw' => lA (qT hw' (qT ch38 (qT ch9 (qO ch8 (qT ch7 (qT ch6 (qT ch5 (qT ch4 (qT ch2 hb1))))))))) (frmL_size hI.sz)) sS25<|dO 23 ?_
   have kk81 := kA kk79 ch48
   refine oK 56 (Same_any f ZZ1 f z W51 (LiesF.chg hLs1 (kA kk78 ch48) ⟨fun _ _ _ _ => trivial, fun _ _ _ _ => trivial, fun _ _ _ _ => trivial, fun _ _ _ _ => trivial, fun _ _ _ _ => trivial⟩) hI (LiesF.chg hL kk81 hLin_) hI) ?_
   rintro _ W52 ⟨bv25, rfl, hif23, ch49⟩
   have zz49 := ch49.size
   obtain rfl : bv25 = true := hif23.2 rfl
   have sS26 := kA sS25 ch49
   refine aN sS26<|dW 24 57 vF sS26<|dW 25 58 vF sS26<|dN<|cF<|wp_skip<|nxt<|wp_seq<|sR<|rq 0 59 _ rfl (lA (qT ch49 (qT ch48 (qT ch47 (qT ch41 (qT ch40 (qT ch39 (qT ch38 (qT ch9 (qO ch8 (qT ch7 (qT ch6 (qT ch5 (qT ch4 (qT ch2 hb1)))))))))))))) (frmL_size hI.sz)) ?_
   have kk82 := kA kk81 ch49
   refine rK 1 60 (RMay25_any f z W52 (LiesF.chg hL kk82 hLin_) hI) ?_
   rintro _ W53 ⟨bv26, rfl, hif24, ch50⟩
   have zz50 := ch50.size
   obtain rfl : bv26 = false := Bool.eq_false_iff.2 (fun q_ => hmy1 (hif24.1 q_))
   refine rP 2 61 vT<|eN<|cT<|sR<|rP 0 62 (.slice none 0 0)<|rP 1 63 (vI 0)<|eT 2 64 (0 : Int) (0 : Int)<|rP 3 65 vT<|rP 4 66 (vI 2)<|eT 5 67 (2 : Int) (2 : Int)<|rP 6 68 vT<|rP 7 69 vT ?_
   have kk83 := kA kk82 ch50
   refine rK 8 70 (Known25_any W53 (HV.out.below (Chg.below0 kk83))) ?_
   rintro _ W54 ⟨rfl, ch51⟩
   have zz51 := ch51.size
   exact rP 9 71 vT<|rP 10 6 vT<|eN<|tR<|rt vT ⟨rfl, Chg.below0 (kA kk83 ch51)⟩
  refine rP 10 23 vT<|eN<|cT<|sR<|?_
  have kk88 := kA (kA (kA (zA ch1 : Chg [] w W1) ch2) ch4) ch5
  refine rK 0 24 (Known25_any W5 (HV.out.below (Chg.below0 kk88))) ?_
  rintro _ W55 ⟨rfl, ch52⟩
  have zz52 := ch52.size
  exact rP 1 6 vT<|eN<|tR<|rt vT ⟨rfl, Chg.below0 (kA kk88 ch52)⟩
 refine rP 6 19 vT<|rP 7 20 vT<|rZ 8 21<|rZ 9 22<|rP 10 23 vT<|eN<|cT<|sR<|?_
 have kk92 := kA (kA (zA ch1 : Chg [] w W1) ch2) ch4
 refine rK 0 24 (Known25_any W4 (HV.out.below (Chg.below0 kk92))) ?_
 rintro _ W56 ⟨rfl, ch53⟩
 have zz53 := ch53.size
 exact rP 1 6 vT<|eN<|tR<|rt vT ⟨rfl, Chg.below0 (kA kk92 ch53)⟩
end Go.Proofs.YtgbadghjnpbiaaaGreatDoor
namespace Mur
open Go Go.RowKit Go.WideShapes Go.ChangeShapes
theorem all2_split {α β : Type} {R : α → β → Prop} : ∀ {l1 l2 : List α} {cs : List β}, All2 R (l1 ++ l2) cs → ∃ c1 c2, cs = c1 ++ c2 ∧ All2 R l1 c1 ∧ All2 R l2 c2
 | [], _, cs, h => ⟨[], cs, rfl, .nil, h⟩
 | x :: l1, l2, cs, h => by
  rcases h with _ | ⟨h0, h⟩
  obtain ⟨c1, c2, rfl, h1, h2⟩ := all2_split h
  exact ⟨_ :: c1, c2, rfl, .cons h0 h1, h2⟩
section
variable {H : Type} {enc : TypeId × Value → H} {P : Program} {W : World}
end
end Mur
namespace Go.Proofs.YtgbadghjnpbiaaaGreatDoor
theorem leafs_a : Mur.leafs Tryz.prog 3 35 = some (List.replicate 32 5 ++ (List.replicate 32 5 ++ ([3] ++ List.replicate 32 5))) := by kernel_rfl
end Go.Proofs.YtgbadghjnpbiaaaGreatDoor
