/- What the row rests on, part 15. -/
import Derived.Test.YtgbadghjnpbiaaaGreatDoorRR14
import Derived.Test.YtgbadghjnpbiaaaGreatDoorRR9
import Derived.Test.YtgbadghjnpbiaaaGreatDoorRR10
import Derived.Test.YtgbadghjnpbiaaaGreatDoorRR5
import Derived.Test.YtgbadghjnpbiaaaGreatDoorRR7
import Derived.Test.YtgbadghjnpbiaaaGreatDoorRR12
namespace Go.Proofs.YtgbadghjnpbiaaaGreatDoor
open Go.RowKit Wk
open Mur (b8s Byt Own8 Seg Segs flat cutA attC Att SlA OwnA rowA msgC frmP bodyFM segs_cell frmL_sz conv_int u64_nat u64n conv_u64n u64n_lt segs_rng formN map_at slr_lt newOr_iff flat_sn own8_low u64n_of body_le msg_kind msg_pre byt_chg arr_slice_at byt_rng msg_items attC_length segs_row)
set_option maxRecDepth 100000
set_option maxHeartbeats 4000000
def RBody_F1 (b : Array Value) (u3 u4 u5 : Value) : Act := sg 213 [(3, u3), (4, u4), (5, u5)] b
def RBody_F2 (b : Array Value) (u3 u6 u7 : Value) : Act := sg 213 [(3, u3), (6, u6), (7, u7)] b
def RBody_F3 (b : Array Value) (u1 u3 u8 : Value) : Act := sg 213 [(1, u1), (3, u3), (8, u8)] b
theorem RBody_any (f : Mur.Frm) (z : Mur.Zs) (w : World) (hL : Mur.LiesF w z f) (hI : Mur.FrmIn f) (hm : Mur.mayFM f) : Calls Tryz.prog 34 #[.agg (frmP f z).flatten.toArray] w fun e w' => ∃ A1 n1 c1, e = .returned (.slice A1 n1 c1) ∧ Own8 w' w.heap.size 5 A1 n1 c1 (bodyFM f) ∧ n1 ≤ 1900 ∧ Chg [] w w' := by
 have hLin_ : z.In fun g => g < w.heap.size → Wk.Off g [] := ⟨fun _ _ _ _ => trivial, fun _ _ _ _ => trivial, fun _ _ _ _ => trivial, fun _ _ _ _ => trivial, fun _ _ _ _ => trivial⟩
 have hLunc_ := hL.nu.nc
 have hLucm_ := hL.nu.cm
 have hLpnc_ := hL.np.nc
 have hLpcm_ := hL.np.cm
 have hLinc_ := hL.ni.nc
 have hLicm_ := hL.ni.cm
 have hLync_ := hL.ny.nc
 have hLycm_ := hL.ny.cm
 have hLfnc_ := hL.nf.nc
 have hLfcm_ := hL.nf.cm
 have hpk8_ := f.pKind.toNat_lt
 have hgk8_ := f.gos.kind.toNat_lt
 have hfk8_ := f.kind.toNat_lt
 have hul_ := hL.upd.len
 rw [List.length_map] at hul_
 have hil_ := hL.its.len
 have hfl_ := hL.prf.len
 rw [List.length_map] at hfl_
 have hpl_ := hL.pre.1
 have hyl_ := hL.byt.1
 have hkm_ := Mur.kind_may hm
 have hH4_ : Mur.nodeM f.frm ∧ Mur.nodeM f.dst ∧ f.frm ≠ f.dst ∧ f = Mur.bareM f := ⟨hm.1, hm.2.1, hm.2.2.1, hm.2.2.2.1⟩
 refine calls_of_wp Tryz.func34 rfl ?_
 refine sR<|nW 0 1 ((frmP f z).flatten.toArray) 38 fun W1 hb1 ch1 sz1 => rP 1 2 (.slice none 0 0)<|eN<|sR<|rP 0 9 (pw w 0)<|rF 1 10 0 (vB f.kind.toNat) hI.sz hb1 0<|rq 2 11 (vU f.kind.toNat) rfl (conv_int 5 23 (.tmp 10) rfl (by kernel_rfl) .u64 Tryz.underlying23 .u8 (f.kind.toNat : Int) (by kernel_rfl) (u64_nat (n := f.kind.toNat) (by omega)))<|rP 3 12 (pw w 1)<|rF 4 13 1 (vI f.frm) hI.sz hb1 1<|rq 5 14 (vU (u64n f.frm : Nat)) rfl (conv_u64n 3 23 (.tmp 13) rfl (by kernel_rfl) Tryz.underlying23 .i64 f.frm (by kernel_rfl))<|rP 6 15 (pw w 2)<|rF 7 16 2 (vI f.dst) hI.sz hb1 2<|rq 8 17 (vU (u64n f.dst : Nat)) rfl (conv_u64n 3 23 (.tmp 16) rfl (by kernel_rfl) Tryz.underlying23 .i64 f.dst (by kernel_rfl))<|nS 9 18 3 #[vU f.kind.toNat, vU (u64n f.frm : Nat), vU (u64n f.dst : Nat)] 23 fun W2 hb2 ch2 sz2 => rK 10 19 (RNat3_any W1.heap.size f.kind.toNat (u64n f.frm) (u64n f.dst) W2 hb2 (by omega) (u64n_lt _) (u64n_lt _)) ?_
 rintro _ W3 ⟨AA1, nn1, cc1, rfl, ow1, hle1, ch3⟩
 have zz3 := ch3.size
 have hq1 := ow1.nc
 have hq2 := ow1.cm
 have hq3 := ow1.byt.1
 refine rP 11 3 (.slice AA1 nn1 cc1)<|eN<|wp_seq<|sR<|rP 0 20 (pw w 0)<|rF 1 21 0 (vB f.kind.toNat) hI.sz (qT ch3 (qT ch2 hb1)) 0<|eN<|wp_block<|sR<|?_
 by_cases hx1 : (f.kind.toNat : Int) = (1 : Int)
 ·refine eT 0 71 (f.kind.toNat : Int) (1 : Int)<|rP 1 70 vT<|eN<|cT<|sR<|?_
  have hk_ : f.kind = 1 := kI 1
  have hmk_ := (Mur.mayFM_1 hH4_ hk_).1 hm
  have hu8_ := hmk_.2.2.2.1
  refine rP 0 72 (pw w 3)<|rq 1 73 _ rfl (lR 3 [vI f.pTo, vB f.pKind.toNat, vU f.pSeq, vI f.pAbout, .slice z.u.A z.u.n z.u.c] (sgR hI.sz (qT ch3 (qT ch2 hb1)) 3 5 rfl))<|nW 2 4 #[vI 0, vB 0, vU 0, vI 0, .slice none 0 0] 26 fun W4 hb3 ch4 sz3 => rU 3 rfl (Wk.storeR 26 (.tmp 4) (.tmp 73) rfl W3.heap.size 0 (by kernel_rfl) ([vI f.pTo, vB f.pKind.toNat, vU f.pSeq, vI f.pAbout, .slice z.u.A z.u.n z.u.c]) (by kernel_rfl) (by kernel_rfl) (by intro v hv; simp at hv; rcases hv with h | h | h | h | h <;> (subst h; rfl)) 26 ([vI 0, vB 0, vU 0, vI 0, .slice none 0 0]) hb3 (by simp)) fun W5 hb4 ch5 _ => ?_
  replace hb4 : W5.heap[W3.heap.size]? = some (.cells #[vI f.pTo, vB f.pKind.toNat, vU f.pSeq, vI f.pAbout, .slice z.u.A z.u.n z.u.c] 26 (0, 0)) := hb4
  have zz5 := ch5.size
  refine eN<|sR<|rP 0 74 (.slice AA1 nn1 cc1)<|rP 1 75 (pw W3 1)<|rL 2 76 1 (vB f.pKind.toNat) hb4<|rq 3 77 (vU f.pKind.toNat) rfl (conv_int 5 23 (.tmp 76) rfl (by kernel_rfl) .u64 Tryz.underlying23 .u8 (f.pKind.toNat : Int) (by kernel_rfl) (u64_nat (n := f.pKind.toNat) (by omega)))<|rP 4 78 (pw W3 2)<|rL 5 79 2 (vU f.pSeq) hb4<|rP 6 80 (pw W3 3)<|rL 7 81 3 (vI f.pAbout) hb4<|rq 8 82 (vU (u64n f.pAbout : Nat)) rfl (conv_u64n 3 23 (.tmp 81) rfl (by kernel_rfl) Tryz.underlying23 .i64 f.pAbout (by kernel_rfl))<|rP 9 83 (pw W3 4)<|rL 10 84 4 (.slice z.u.A z.u.n z.u.c) hb4<|rP 11 85 (vI z.u.n)<|rq 12 86 (vU z.u.n) rfl (conv_int 3 23 (.tmp 85) rfl (by kernel_rfl) .u64 Tryz.underlying23 .i64 (z.u.n : Int) (by kernel_rfl) (u64_nat (n := z.u.n) (by omega)))<|nS 13 87 4 #[vU f.pKind.toNat, vU f.pSeq, vU (u64n f.pAbout : Nat), vU z.u.n] 23 fun W6 hb5 ch6 sz4 => rK 14 88 (RNat4_any W5.heap.size f.pKind.toNat f.pSeq (u64n f.pAbout) z.u.n W6 hb5 (by omega) hI.ok.seq (u64n_lt _) (by omega)) ?_
  rintro _ W7 ⟨AA2, nn2, cc2, rfl, ow2, hle2, ch7⟩
  have zz7 := ch7.size
  have hq4 := ow2.nc
  have hq5 := ow2.cm
  have hq6 := ow2.byt.1
  refine rX 15 89 rfl rfl (ap8 nn2 cc2 (oA (oA (oB (oA ow1 ch4) ch5 ow1.lt) ch6) ch7).own ow2.byt ow2.nil (nn1 + nn2) ((formN f.kind.toNat ++ formN (u64n f.frm) ++ formN (u64n f.dst)) ++ (formN f.pKind.toNat ++ formN f.pSeq ++ formN (u64n f.pAbout) ++ formN z.u.n))) ?_
  rintro _ W8 ⟨AA3, nn3, rfl, ow7, ch8, ha1⟩
  have zz8 := ch8.size
  have hq7 := ow7.nc
  have hq8 := ow7.cm
  have lts1 : ∀ k_, (.slice AA3 (nn1 + nn2) nn3 : Value).ownBlock = some k_ → (W2.heap.size ≤ k_ ∧ k_ < W8.heap.size) ∧ k_ ≠ W3.heap.size := fun k_ hk_ => ⟨ow7.lt k_ hk_, by rcases ha1 k_ hk_ with h_ | h_ <;> first | (have q_ := ow1.lt k_ h_; omega) | omega⟩
  refine rP 16 3 (.slice AA3 (nn1 + nn2) nn3)<|eN<|sR<|rP 0 5 (vI 0)<|eN<|wp_block<|?_
  have hbase_ : W2.heap.size ≤ W8.heap.size := by omega
  refine Wk.loop (fun m_ a wr => ∃ (i : Nat) (A1 : Option Addr) (N1 : Nat) (c1 : Nat), m_ = z.u.n - i ∧ a = RBody_F1 a.tmps (.slice A1 N1 c1) (pw W3 0) (vI i) ∧ i ≤ z.u.n ∧ Own8 wr W2.heap.size 5 A1 N1 c1 ((formN f.kind.toNat ++ formN (u64n f.frm) ++ formN (u64n f.dst)) ++ (formN f.pKind.toNat ++ formN f.pSeq ++ formN (u64n f.pAbout) ++ formN z.u.n) ++ ((f.pUpd.take i).map Mur.enc3).flatten) ∧ wr.heap[W3.heap.size]? = some (.cells #[vI f.pTo, vB f.pKind.toNat, vU f.pSeq, vI f.pAbout, .slice z.u.A z.u.n z.u.c] 26 (0, 0)) ∧ N1 ≤ nn1 + nn2 + 27 * i ∧ W2.heap.size ≤ wr.heap.size ∧ (∀ q_, (Value.slice A1 N1 c1).ownBlock = some q_ → q_ ≠ W3.heap.size) ∧ Chg [] w wr) (z.u.n - 0) ?_ ?_
  ·have kk1 : Chg [] w W1 := zA ch1
   refine ⟨0, AA3, nn1 + nn2, nn3, rfl, by kernel_rfl, (by omega), (by rw [List.take_zero]; simp only [List.map_nil, List.flatten_nil, List.append_nil]; exact ow7), (Chg.hp ch8 (qT ch7 (qT ch6 hb4)) (off_blk (fun gz hgz => by have := ow1.lt gz hgz; omega))), (by omega), (by omega), (fun q_ h_ => (lts1 q_ h_).2), (Chg.step (kA (kA (kB (kA (kA (kA kk1 ch2) ch3) ch4) ch5) ch6) ch7) ch8 (newOr_blk (fun g hg => by have := ow1.lt g hg; omega)))⟩
  rintro mm1 aa1 W10 ⟨i, A1, N1, c1, hmm1, hF1, hi, hO, hgb, hN, hbz, hsp, HB⟩
  generalize aa1.tmps = bb1 at hF1
  subst hF1
  have lts0 : ∀ k_, (Value.slice A1 N1 c1).ownBlock = some k_ → (W2.heap.size ≤ k_ ∧ k_ < W10.heap.size) ∧ k_ ≠ W3.heap.size := fun k_ h_ => ⟨hO.lt k_ h_, hsp k_ h_⟩
  have hzB := HB.size
  have hOn := hO.nc
  have hOc := hO.cm
  have hbxl_ := (Array.getElem?_eq_some_iff.1 hgb).1
  by_cases hlt : i < z.u.n
  ·obtain ⟨xa, hxa⟩ : ∃ x_, f.pUpd[i]? = some x_ := ⟨_, List.getElem?_eq_getElem (by omega)⟩
   obtain ⟨g1, o1, hA1_, hr1⟩ := hL.upd.row (map_at Mur.updC hxa) (by decide)
   have hg1l_ : g1 < w.heap.size := slr_lt hL.upd (by decide) hA1_ (by omega)
   have hxu_ : xa.2.2 < 18446744073709551616 := hI.ok.upd xa (List.mem_of_getElem? hxa)
   have hx8_ := xa.2.1.toNat_lt
   have hel_ := Mur.enc3_len (u := xa) hxu_
   refine wp_seq<|sR<|rP 0 90 (vI i)<|rP 1 91 (pw W3 4)<|rL 2 92 4 (.slice z.u.A z.u.n z.u.c) hgb<|rP 3 93 (vI z.u.n)<|bT 4 94 ((i : Int) < (z.u.n : Int))<|eN<|cT<|wp_skip<|nxt<|wp_seq<|wp_block<|?_
   refine dReg ((Wk.blk (.slice A1 N1 c1))) (by kernel_rfl) ?_
   intro W11 ch9 sz5
   have zz9 := ch9.size
   have sS1 : Chg ((Wk.blk (.slice A1 N1 c1))) W11 W11 := (Chg.refl _).more (by simp)
   refine dW 0 97 (.slice A1 N1 c1) sS1<|dW 1 98 (pw W3 4) sS1<|dV 2 99 (.slice z.u.A z.u.n z.u.c) rfl rfl (fun w' hw' => ld 24 98 W3.heap.size 4 (.slice z.u.A z.u.n z.u.c) ((cell_of_row _ _ 4 _ _ _ (Chg.hp hw' (qT ch9 hgb) (off_blk (fun gz hgz => by have := lts0 gz hgz; omega)))).trans rfl)) sS1<|dW 3 100 (vI i) sS1<|dV 4 101 (pt g1 (o1 + i * 3)) rfl rfl (fun w' hw' => index_sl 24 61 (.tmp 99) (.tmp 100) rfl Tryz.underlying24 3 (by kernel_rfl) g1 o1 z.u.n z.u.c i .i64 (by rw [← hA1_]; kernel_rfl) (by kernel_rfl) (by omega)) sS1<|dW 5 102 (pt g1 (o1 + i * 3)) sS1 ?_
   have kk9 := kA HB ch9
   refine dV 6 103 (vI xa.1) rfl rfl (fun w' hw' => ld 3 102 g1 (o1 + i * 3) (vI xa.1) (Chg.cell hw' (Chg.cell kk9 (hr1 0 (vI xa.1) rfl) trivial) (off_blk (fun gz hgz => by have := lts0 gz hgz; omega)))) sS1<|dV 7 104 (vU (u64n xa.1 : Nat)) rfl rfl (fun w' hw' => conv_u64n 3 23 (.tmp 103) rfl (by kernel_rfl) Tryz.underlying23 .i64 xa.1 (by kernel_rfl)) sS1<|dW 8 105 (pw W3 4) sS1<|dV 9 106 (.slice z.u.A z.u.n z.u.c) rfl rfl (fun w' hw' => ld 24 105 W3.heap.size 4 (.slice z.u.A z.u.n z.u.c) ((cell_of_row _ _ 4 _ _ _ (Chg.hp hw' (qT ch9 hgb) (off_blk (fun gz hgz => by have := lts0 gz hgz; omega)))).trans rfl)) sS1<|dW 10 107 (vI i) sS1<|dV 11 108 (pt g1 (o1 + i * 3)) rfl rfl (fun w' hw' => index_sl 24 61 (.tmp 106) (.tmp 107) rfl Tryz.underlying24 3 (by kernel_rfl) g1 o1 z.u.n z.u.c i .i64 (by rw [← hA1_]; kernel_rfl) (by kernel_rfl) (by omega)) sS1<|dW 12 109 (pt g1 (o1 + i * 3 + 1)) sS1<|dV 13 110 (vB xa.2.1.toNat) rfl rfl (fun w' hw' => ld 5 109 g1 (o1 + i * 3 + 1) (vB xa.2.1.toNat) (Chg.cell hw' (Chg.cell kk9 (hr1 1 (vB xa.2.1.toNat) rfl) trivial) (off_blk (fun gz hgz => by have := lts0 gz hgz; omega)))) sS1<|dV 14 111 (vU xa.2.1.toNat) rfl rfl (fun w' hw' => conv_int 5 23 (.tmp 110) rfl (by kernel_rfl) .u64 Tryz.underlying23 .u8 (xa.2.1.toNat : Int) (by kernel_rfl) (u64_nat (n := xa.2.1.toNat) (by omega))) sS1<|dW 15 112 (pw W3 4) sS1<|dV 16 113 (.slice z.u.A z.u.n z.u.c) rfl rfl (fun w' hw' => ld 24 112 W3.heap.size 4 (.slice z.u.A z.u.n z.u.c) ((cell_of_row _ _ 4 _ _ _ (Chg.hp hw' (qT ch9 hgb) (off_blk (fun gz hgz => by have := lts0 gz hgz; omega)))).trans rfl)) sS1 ?_
   refine dW 17 114 (vI i) sS1<|dV 18 115 (pt g1 (o1 + i * 3)) rfl rfl (fun w' hw' => index_sl 24 61 (.tmp 113) (.tmp 114) rfl Tryz.underlying24 3 (by kernel_rfl) g1 o1 z.u.n z.u.c i .i64 (by rw [← hA1_]; kernel_rfl) (by kernel_rfl) (by omega)) sS1<|dW 19 116 (pt g1 (o1 + i * 3 + 2)) sS1<|dV 20 117 (vU xa.2.2) rfl rfl (fun w' hw' => ld 23 116 g1 (o1 + i * 3 + 2) (vU xa.2.2) (Chg.cell hw' (Chg.cell kk9 (hr1 2 (vU xa.2.2) rfl) trivial) (off_blk (fun gz hgz => by have := lts0 gz hgz; omega)))) sS1<|dO 21<|oS 118 3 #[vU (u64n xa.1 : Nat), vU xa.2.1.toNat, vU xa.2.2] 23 fun W12 hb6 ch10 sz6 => ?_
   have sS2 := kA sS1 ch10
   refine aN sS2<|dO 22<|oK 119 (RNat3_any W11.heap.size (u64n xa.1) xa.2.1.toNat xa.2.2 W12 hb6 (u64n_lt _) (by omega) hxu_) ?_
   rintro _ W13 ⟨AA4, nn4, cc3, rfl, ow8, hle3, ch11⟩
   have zz11 := ch11.size
   have hq9 := ow8.nc
   have hq10 := ow8.cm
   have hq11 := ow8.byt.1
   have sS3 := kA sS2 ch11
   refine aN sS3<|dO 23<|oEx (some 120) _ rfl rfl (by kernel_rfl) (ap8 nn4 cc3 (oA (oA (oA hO ch9) ch10) ch11).own ow8.byt ow8.nil (N1 + nn4) (((formN f.kind.toNat ++ formN (u64n f.frm) ++ formN (u64n f.dst)) ++ (formN f.pKind.toNat ++ formN f.pSeq ++ formN (u64n f.pAbout) ++ formN z.u.n) ++ ((f.pUpd.take i).map Mur.enc3).flatten) ++ (formN (u64n xa.1) ++ formN xa.2.1.toNat ++ formN xa.2.2))) ?_
   rintro _ W14 ⟨AA5, nn5, rfl, ow12, ch12, ha2⟩
   have zz12 := ch12.size
   have hq12 := ow12.nc
   have hq13 := ow12.cm
   have lts2 : ∀ k_, (.slice AA5 (N1 + nn4) nn5 : Value).ownBlock = some k_ → (W2.heap.size ≤ k_ ∧ k_ < W14.heap.size) ∧ k_ ≠ W3.heap.size := fun k_ hk_ => ⟨ow12.lt k_ hk_, by rcases ha2 k_ hk_ with h_ | h_ <;> first | (have q_ := lts0 k_ h_; omega) | omega⟩
   have sS4 := Chg.step sS3 ch12 (newOr_iff.2 (fun t ht => .inl ht))
   refine aN sS4<|dW 24 3 (.slice AA5 (N1 + nn4) nn5) sS4<|dE<|inN<|nxt<|reg<|rP 0 95 (vI i)<|rI 1 96 ((i : Int) + 1) (((i + 1 : Nat) : Int))<|rP 2 5 (vI (i + 1 : Nat))<|eN<|?_
   refine ⟨_, ?_, i + 1, AA5, N1 + nn4, nn5, rfl, by kernel_rfl, (by omega), (by rw [flat_sn Mur.enc3 hxa, ← List.append_assoc]; rw [show Mur.enc3 xa = formN (u64n xa.1) ++ formN xa.2.1.toNat ++ formN xa.2.2 from rfl]; exact own8_low ow12 (by omega)), (Chg.hp ch12 (qT ch11 (qT ch10 (qT ch9 hgb))) (off_blk (fun gz hgz => by have := lts0 gz hgz; omega))), (by omega), (by omega), (fun q_ h_ => (lts2 q_ h_).2), (Chg.step (kA (kA kk9 ch10) ch11) ch12 (newOr_blk (fun g hg => by have := lts0 g hg; omega)))⟩
   omega
  refine wp_seq<|sR<|rP 0 90 (vI i)<|rP 1 91 (pw W3 4)<|rL 2 92 4 (.slice z.u.A z.u.n z.u.c) hgb<|rP 3 93 (vI z.u.n)<|bF 4 94 ((i : Int) < (z.u.n : Int))<|eN<|cF<|xX<|inN<|nxt<|sR<|rP 0 212 (.slice A1 N1 c1)<|rP 1 2 (.slice A1 N1 c1)<|eN<|wp_ret<|?_
  have hH_ := hO
  have hE_ : (formN f.kind.toNat ++ formN (u64n f.frm) ++ formN (u64n f.dst)) ++ (formN f.pKind.toNat ++ formN f.pSeq ++ formN (u64n f.pAbout) ++ formN z.u.n) ++ ((f.pUpd.take i).map Mur.enc3).flatten = bodyFM f := by rw [← Mur.bodyB_1 hm hk_, u64n_of (n := f.kind.toNat) (by omega), List.take_of_length_le (show f.pUpd.length ≤ i by omega), ← hul_] <;> simp only [List.append_assoc]
  rw [hE_] at hH_
  have hbd_ := body_le hm hI.ok
  have hbl_ := hH_.byt.1
  exact rt (.slice A1 N1 c1) ⟨_, _, _, rfl, own8_low hH_ (by omega), by omega, HB⟩
 refine eF 0 71 (f.kind.toNat : Int) (1 : Int)<|rP 1 70 vF<|eN<|cF<|sR<|?_
 by_cases hx2 : (f.kind.toNat : Int) = (2 : Int)
 ·refine eT 0 122 (f.kind.toNat : Int) (2 : Int)<|rP 1 121 vT<|eN<|cT<|sR<|?_
  have hk_ : f.kind = 2 := kI 2
  have hmk_ := (Mur.mayFM_2 hH4_ hk_).1 hm
  have hp8_ := Mur.pre_len hmk_.1
  have hi8_ := hmk_.2.2.2.1
  refine rP 0 123 (pw w 8)<|rq 1 124 _ rfl (lR 8 (Mur.msgC f.gos.kind z.p.A z.p.n z.p.c f.gos.sum f.gos.cnt z.i.A z.i.n z.i.c f.gos.ans) (sgR hI.sz (qT ch3 (qT ch2 hb1)) 8 6 rfl) (by rw [Mur.msgC_length hI.ok.sum]; kernel_rfl))<|nW 2 6 ZM 31 fun W15 hb7 ch13 sz7 => rU 3 rfl (sB (Mur.msgC f.gos.kind z.p.A z.p.n z.p.c f.gos.sum f.gos.cnt z.i.A z.i.n z.i.c f.gos.ans).toArray (Mur.msgC_size hI.ok.sum) Mur.msgC_all hb7 (by kernel_rfl)) fun W16 hb8 ch14 zz14 => eN<|sR<|rP 0 125 (.slice AA1 nn1 cc1)<|rP 1 126 (pw W3 0)<|rq 2 127 _ rfl (ld 5 126 W3.heap.size 0 (vB f.gos.kind.toNat) (show World.cell? _ ⟨_, 0 + 0, _⟩ = _ from msg_kind (range_row hb8)))<|rq 3 128 (vU f.gos.kind.toNat) rfl (conv_int 5 23 (.tmp 127) rfl (by kernel_rfl) .u64 Tryz.underlying23 .u8 (f.gos.kind.toNat : Int) (by kernel_rfl) (u64_nat (n := f.gos.kind.toNat) (by omega)))<|rP 4 129 (pw W3 1)<|rq 5 130 _ rfl (ld 22 129 W3.heap.size 1 (.slice z.p.A z.p.n z.p.c) (show World.cell? _ ⟨_, 0 + 1, _⟩ = _ from msg_pre (range_row hb8)))<|rP 6 131 (vI z.p.n)<|rq 7 132 (vU z.p.n) rfl (conv_int 3 23 (.tmp 131) rfl (by kernel_rfl) .u64 Tryz.underlying23 .i64 (z.p.n : Int) (by kernel_rfl) (u64_nat (n := z.p.n) (by omega)))<|nS 8 133 2 #[vU f.gos.kind.toNat, vU z.p.n] 23 fun W17 hb9 ch15 sz8 => rK 9 134 (RNat2_any W16.heap.size f.gos.kind.toNat z.p.n W17 hb9 (by omega) (by omega)) ?_
  rintro _ W18 ⟨AA6, nn6, cc4, rfl, ow13, hle4, ch16⟩
  have zz16 := ch16.size
  have hq14 := ow13.nc
  have hq15 := ow13.cm
  have hq16 := ow13.byt.1
  refine rX 10 135 rfl rfl (ap8 nn6 cc4 (oA (oA (oB (oA ow1 ch13) ch14 ow1.lt) ch15) ch16).own ow13.byt ow13.nil (nn1 + nn6) ((formN f.kind.toNat ++ formN (u64n f.frm) ++ formN (u64n f.dst)) ++ (formN f.gos.kind.toNat ++ formN z.p.n))) ?_
  rintro _ W19 ⟨AA7, nn7, rfl, ow18, ch17, ha3⟩
  have zz17 := ch17.size
  have hq17 := ow18.nc
  have hq18 := ow18.cm
  have lts3 : ∀ k_, (.slice AA7 (nn1 + nn6) nn7 : Value).ownBlock = some k_ → (W2.heap.size ≤ k_ ∧ k_ < W19.heap.size) ∧ k_ ≠ W3.heap.size := fun k_ hk_ => ⟨ow18.lt k_ hk_, by rcases ha3 k_ hk_ with h_ | h_ <;> first | (have q_ := ow1.lt k_ h_; omega) | omega⟩
  refine rP 11 3 (.slice AA7 (nn1 + nn6) nn7)<|eN<|sR<|rP 0 136 (.slice AA7 (nn1 + nn6) nn7)<|rP 1 137 (pw W3 1)<|rq 2 138 _ rfl (ld 22 137 W3.heap.size 1 (.slice z.p.A z.p.n z.p.c) (show World.cell? _ ⟨_, 0 + 1, _⟩ = _ from msg_pre (range_row (Chg.hp ch17 (qT ch16 (qT ch15 hb8)) (off_blk (fun gz hgz => by have := ow1.lt gz hgz; omega)))))) ?_
  have kk20 := Chg.step (kA (kA (kB (kA (kA (kA (zA ch1 : Chg [] w W1) ch2) ch3) ch13) ch14) ch15) ch16) ch17 (newOr_blk (fun g hg => by have := ow1.lt g hg; omega))
  refine rX 3 139 rfl rfl (ap8 z.p.n z.p.c ow18.own (byt_chg hL.pre kk20 (fun g off e hl => trivial)) hL.np.nil (nn1 + nn6 + z.p.n) (((formN f.kind.toNat ++ formN (u64n f.frm) ++ formN (u64n f.dst)) ++ (formN f.gos.kind.toNat ++ formN z.p.n)) ++ f.gos.pre)) ?_
  rintro _ W20 ⟨AA8, nn8, rfl, ow19, ch18, ha4⟩
  have zz18 := ch18.size
  have hq19 := ow19.nc
  have hq20 := ow19.cm
  have lts4 : ∀ k_, (.slice AA8 (nn1 + nn6 + z.p.n) nn8 : Value).ownBlock = some k_ → (W2.heap.size ≤ k_ ∧ k_ < W20.heap.size) ∧ k_ ≠ W3.heap.size := fun k_ hk_ => ⟨ow19.lt k_ hk_, by rcases ha4 k_ hk_ with h_ | h_ <;> first | (have q_ := lts3 k_ h_; omega) | omega⟩
  refine rP 4 3 (.slice AA8 (nn1 + nn6 + z.p.n) nn8)<|eN<|sR<|rP 0 140 (pw W3 0)<|rq 1 141 _ rfl (ld 5 140 W3.heap.size 0 (vB f.gos.kind.toNat) (show World.cell? _ ⟨_, 0 + 0, _⟩ = _ from msg_kind (range_row (Chg.hp ch18 (Chg.hp ch17 (qT ch16 (qT ch15 hb8)) (off_blk (fun gz hgz => by have := ow1.lt gz hgz; omega))) (off_blk (fun gz hgz => by have := lts3 gz hgz; omega)))))) ?_
  by_cases hx3 : (f.gos.kind.toNat : Int) = (1 : Int)
  ·refine eT 2 142 (f.gos.kind.toNat : Int) (1 : Int)<|eN<|cT<|sR<|rP 0 143 (.slice AA8 (nn1 + nn6 + z.p.n) nn8)<|rP 1 144 (pw W3 2)<|rq 2 145 (.slice (some ⟨W3.heap.size, 2, none⟩) 32 32) rfl (arr_slice_at 28 5 (.tmp 144) 32 rfl Tryz.underlying28 (by kernel_rfl) W3.heap.size 2 (by kernel_rfl))<|rX 3 146 rfl rfl (ap8 32 32 ow19.own (byt_rng (show World.rangeAt _ _ (0 + 2) _ from Mur.msg_sum (range_row (Chg.hp ch18 (Chg.hp ch17 (qT ch16 (qT ch15 hb8)) (off_blk (fun gz hgz => by have := ow1.lt gz hgz; omega))) (off_blk (fun gz hgz => by have := lts3 gz hgz; omega))))) hI.ok.sum) (fun h => by cases h) (nn1 + nn6 + z.p.n + 32) ((((formN f.kind.toNat ++ formN (u64n f.frm) ++ formN (u64n f.dst)) ++ (formN f.gos.kind.toNat ++ formN z.p.n)) ++ f.gos.pre) ++ f.gos.sum)) ?_
   rintro _ W21 ⟨AA9, nn9, rfl, ow20, ch19, ha5⟩
   have zz19 := ch19.size
   have hq21 := ow20.nc
   have hq22 := ow20.cm
   have lts5 : ∀ k_, (.slice AA9 (nn1 + nn6 + z.p.n + 32) nn9 : Value).ownBlock = some k_ → (W2.heap.size ≤ k_ ∧ k_ < W21.heap.size) ∧ k_ ≠ W3.heap.size := fun k_ hk_ => ⟨ow20.lt k_ hk_, by rcases ha5 k_ hk_ with h_ | h_ <;> first | (have q_ := lts4 k_ h_; omega) | omega⟩
   refine rP 4 3 (.slice AA9 (nn1 + nn6 + z.p.n + 32) nn9)<|eN<|reg<|rP 0 147 (.slice AA9 (nn1 + nn6 + z.p.n + 32) nn9)<|rP 1 148 (pw W3 34)<|rq 2 149 _ rfl (ld 3 148 W3.heap.size 34 (vI f.gos.cnt) (show World.cell? _ ⟨_, 0 + 34, _⟩ = _ from Mur.msg_cnt hI.ok.sum (range_row (Chg.hp ch19 (Chg.hp ch18 (Chg.hp ch17 (qT ch16 (qT ch15 hb8)) (off_blk (fun gz hgz => by have := ow1.lt gz hgz; omega))) (off_blk (fun gz hgz => by have := lts3 gz hgz; omega))) (off_blk (fun gz hgz => by have := lts4 gz hgz; omega))))))<|rq 3 150 (vU (u64n f.gos.cnt : Nat)) rfl (conv_u64n 3 23 (.tmp 149) rfl (by kernel_rfl) Tryz.underlying23 .i64 f.gos.cnt (by kernel_rfl))<|nS 4 151 1 #[vU (u64n f.gos.cnt : Nat)] 23 fun W22 hb10 ch20 sz9 => rK 5 152 (RNat1_any W21.heap.size (u64n f.gos.cnt) W22 hb10 (u64n_lt _)) ?_
   rintro _ W23 ⟨AA10, nn10, cc5, rfl, ow21, hle5, ch21⟩
   have zz21 := ch21.size
   have hq23 := ow21.nc
   have hq24 := ow21.cm
   have hq25 := ow21.byt.1
   refine rX 6 153 rfl rfl (ap8 nn10 cc5 (oA (oA ow20 ch20) ch21).own ow21.byt ow21.nil (nn1 + nn6 + z.p.n + 32 + nn10) (((((formN f.kind.toNat ++ formN (u64n f.frm) ++ formN (u64n f.dst)) ++ (formN f.gos.kind.toNat ++ formN z.p.n)) ++ f.gos.pre) ++ f.gos.sum) ++ (formN (u64n f.gos.cnt)))) ?_
   rintro _ W24 ⟨AA11, nn11, rfl, ow24, ch22, ha6⟩
   have zz22 := ch22.size
   have hq26 := ow24.nc
   have hq27 := ow24.cm
   have lts6 : ∀ k_, (.slice AA11 (nn1 + nn6 + z.p.n + 32 + nn10) nn11 : Value).ownBlock = some k_ → (W2.heap.size ≤ k_ ∧ k_ < W24.heap.size) ∧ k_ ≠ W3.heap.size := fun k_ hk_ => ⟨ow24.lt k_ hk_, by rcases ha6 k_ hk_ with h_ | h_ <;> first | (have q_ := lts5 k_ h_; omega) | omega⟩
   refine rP 7 3 (.slice AA11 (nn1 + nn6 + z.p.n + 32 + nn10) nn11)<|rE<|inN<|nxt<|sR<|rP 0 212 (.slice AA11 (nn1 + nn6 + z.p.n + 32 + nn10) nn11)<|rP 1 2 (.slice AA11 (nn1 + nn6 + z.p.n + 32 + nn10) nn11)<|eN<|wp_ret<|?_
   have hH_ := ow24
   have hgk_ : f.gos.kind = 1 := kI 1
   have hE_ : ((((formN f.kind.toNat ++ formN (u64n f.frm) ++ formN (u64n f.dst)) ++ (formN f.gos.kind.toNat ++ formN z.p.n)) ++ f.gos.pre) ++ f.gos.sum) ++ (formN (u64n f.gos.cnt)) = bodyFM f := by rw [← Mur.bodyB_2s hm hk_ hgk_, u64n_of (n := f.kind.toNat) (by omega), u64n_of (n := f.gos.kind.toNat) (by omega), ← hpl_] <;> simp only [List.append_assoc]
   rw [hE_] at hH_
   have hbd_ := body_le hm hI.ok
   have hbl_ := hH_.byt.1
   exact rt (.slice AA11 (nn1 + nn6 + z.p.n + 32 + nn10) nn11) ⟨_, _, _, rfl, own8_low hH_ (by omega), by omega, (Chg.step (kA (kA (Chg.step (Chg.step kk20 ch18 (newOr_blk (fun g hg => by have := lts3 g hg; omega))) ch19 (newOr_blk (fun g hg => by have := lts4 g hg; omega))) ch20) ch21) ch22 (newOr_blk (fun g hg => by have := lts5 g hg; omega)))⟩
  refine eF 2 142 (f.gos.kind.toNat : Int) (1 : Int)<|eN<|cF<|sR<|rP 0 154 (.slice AA8 (nn1 + nn6 + z.p.n) nn8)<|rP 1 155 (pw W3 35)<|rq 2 156 _ rfl (ld 29 155 W3.heap.size 35 (.slice z.i.A z.i.n z.i.c) (show World.cell? _ ⟨_, 0 + 35, _⟩ = _ from msg_items hI.ok.sum (range_row (Chg.hp ch18 (Chg.hp ch17 (qT ch16 (qT ch15 hb8)) (off_blk (fun gz hgz => by have := ow1.lt gz hgz; omega))) (off_blk (fun gz hgz => by have := lts3 gz hgz; omega))))))<|rP 3 157 (vI z.i.n)<|rq 4 158 (vU z.i.n) rfl (conv_int 3 23 (.tmp 157) rfl (by kernel_rfl) .u64 Tryz.underlying23 .i64 (z.i.n : Int) (by kernel_rfl) (u64_nat (n := z.i.n) (by omega)))<|nS 5 159 1 #[vU z.i.n] 23 fun W25 hb11 ch23 sz10 => rK 6 160 (RNat1_any W20.heap.size z.i.n W25 hb11 (by omega)) ?_
  rintro _ W26 ⟨AA12, nn12, cc6, rfl, ow25, hle6, ch24⟩
  have zz24 := ch24.size
  have hq28 := ow25.nc
  have hq29 := ow25.cm
  have hq30 := ow25.byt.1
  refine rX 7 161 rfl rfl (ap8 nn12 cc6 (oA (oA ow19 ch23) ch24).own ow25.byt ow25.nil (nn1 + nn6 + z.p.n + nn12) ((((formN f.kind.toNat ++ formN (u64n f.frm) ++ formN (u64n f.dst)) ++ (formN f.gos.kind.toNat ++ formN z.p.n)) ++ f.gos.pre) ++ (formN z.i.n))) ?_
  rintro _ W27 ⟨AA13, nn13, rfl, ow28, ch25, ha7⟩
  have zz25 := ch25.size
  have hq31 := ow28.nc
  have hq32 := ow28.cm
  have lts7 : ∀ k_, (.slice AA13 (nn1 + nn6 + z.p.n + nn12) nn13 : Value).ownBlock = some k_ → (W2.heap.size ≤ k_ ∧ k_ < W27.heap.size) ∧ k_ ≠ W3.heap.size := fun k_ hk_ => ⟨ow28.lt k_ hk_, by rcases ha7 k_ hk_ with h_ | h_ <;> first | (have q_ := lts4 k_ h_; omega) | omega⟩
  refine rP 8 3 (.slice AA13 (nn1 + nn6 + z.p.n + nn12) nn13)<|eN<|wp_seq<|sR<|rP 0 7 (vI 0)<|eN<|wp_block<|?_
  have hbase_ : W2.heap.size ≤ W27.heap.size := by omega
  refine Wk.loop (fun m_ a wr => ∃ (i : Nat) (A1 : Option Addr) (N1 : Nat) (c1 : Nat), m_ = z.i.n - i ∧ a = RBody_F2 a.tmps (.slice A1 N1 c1) (pw W3 0) (vI i) ∧ i ≤ z.i.n ∧ Own8 wr W2.heap.size 5 A1 N1 c1 ((((formN f.kind.toNat ++ formN (u64n f.frm) ++ formN (u64n f.dst)) ++ (formN f.gos.kind.toNat ++ formN z.p.n)) ++ f.gos.pre) ++ (formN z.i.n) ++ ((f.gos.items.take i).map Att.raw).flatten) ∧ wr.heap[W3.heap.size]? = some (.cells (Mur.msgC f.gos.kind z.p.A z.p.n z.p.c f.gos.sum f.gos.cnt z.i.A z.i.n z.i.c f.gos.ans).toArray 31 (0, 0)) ∧ N1 ≤ nn1 + nn6 + z.p.n + nn12 + 104 * i ∧ W2.heap.size ≤ wr.heap.size ∧ (∀ q_, (Value.slice A1 N1 c1).ownBlock = some q_ → q_ ≠ W3.heap.size) ∧ Chg [] w wr) (z.i.n - 0) ?_ ?_
  ·have kk26 := Chg.step kk20 ch18 (newOr_blk (fun g hg => by have := lts3 g hg; omega))
   refine ⟨0, AA13, nn1 + nn6 + z.p.n + nn12, nn13, rfl, by kernel_rfl, (by omega), (by rw [List.take_zero]; simp only [List.map_nil, List.flatten_nil, List.append_nil]; exact ow28), (Chg.hp ch25 (qT ch24 (qT ch23 (Chg.hp ch18 (Chg.hp ch17 (qT ch16 (qT ch15 hb8)) (off_blk (fun gz hgz => by have := ow1.lt gz hgz; omega))) (off_blk (fun gz hgz => by have := lts3 gz hgz; omega))))) (off_blk (fun gz hgz => by have := lts4 gz hgz; omega))), (by omega), (by omega), (fun q_ h_ => (lts7 q_ h_).2), (Chg.step (kA (kA kk26 ch23) ch24) ch25 (newOr_blk (fun g hg => by have := lts4 g hg; omega)))⟩
  rintro mm2 aa2 W28 ⟨i, A1, N1, c1, hmm2, hF2, hi, hO, hgb, hN, hbz, hsp, HB⟩
  generalize aa2.tmps = bb2 at hF2
  subst hF2
  have lts0 : ∀ k_, (Value.slice A1 N1 c1).ownBlock = some k_ → (W2.heap.size ≤ k_ ∧ k_ < W28.heap.size) ∧ k_ ≠ W3.heap.size := fun k_ h_ => ⟨hO.lt k_ h_, hsp k_ h_⟩
  have hzB := HB.size
  have hOn := hO.nc
  have hOc := hO.cm
  have hbxl_ := (Array.getElem?_eq_some_iff.1 hgb).1
  by_cases hlt : i < z.i.n
  ·obtain ⟨xa, hxa⟩ : ∃ x_, f.gos.items[i]? = some x_ := ⟨_, List.getElem?_eq_getElem (by omega)⟩
   obtain ⟨g1, o1, hA1_, hr1⟩ := hL.its.slR.row (map_at Mur.attL hxa) (by decide)
   have hg1l_ : g1 < w.heap.size := slr_lt hL.its.slR (by decide) hA1_ (by omega)
   refine wp_seq<|sR<|rP 0 162 (vI i)<|rP 1 163 (pw W3 35)<|rq 2 164 _ rfl (ld 29 163 W3.heap.size 35 (.slice z.i.A z.i.n z.i.c) (show World.cell? _ ⟨_, 0 + 35, _⟩ = _ from msg_items hI.ok.sum (range_row hgb)))<|rP 3 165 (vI z.i.n)<|bT 4 166 ((i : Int) < (z.i.n : Int))<|eN<|cT<|wp_skip<|nxt<|wp_seq<|wp_block<|reg<|rP 0 169 (.slice A1 N1 c1)<|rP 1 170 (pw W3 35)<|rq 2 171 _ rfl (ld 29 170 W3.heap.size 35 (.slice z.i.A z.i.n z.i.c) (show World.cell? _ ⟨_, 0 + 35, _⟩ = _ from msg_items hI.ok.sum (range_row hgb)))<|rP 3 172 (vI i)<|rq 4 173 (pt g1 (o1 + i * 97)) rfl (index_sl 29 35 (.tmp 171) (.tmp 172) rfl Tryz.underlying29 97 (by kernel_rfl) g1 o1 z.i.n z.i.c i .i64 (by rw [← hA1_]; kernel_rfl) (by kernel_rfl) (by omega))<|rq 5 174 _ rfl (lR (o1 + i * 97) (Mur.attC xa.k xa.r xa.n xa.t) (Chg.range HB hr1 trivial) (by rw [attC_length xa.hk xa.hr xa.ht]; kernel_rfl))<|rK 6 175 (Rbytes_any xa.k xa.r xa.t xa.n xa.hk xa.hr xa.ht W28) ?_
   rintro _ W29 ⟨qr1, cr1, RB1, hRB1, rfl, hbr1, hq33, hq34, ch26⟩
   have zz26 := ch26.size
   have hBt1 : ∀ g off, (some ⟨qr1, 0, none⟩ : Option Addr) = some ⟨g, off, none⟩ → W28.heap.size ≤ g ∧ g < W29.heap.size := fun g off e => by cases e; exact hq33
   refine rX 7 176 rfl rfl (ap8 104 cr1 (oA hO ch26).own hbr1 (fun h => by cases h) (N1 + 104) (((((formN f.kind.toNat ++ formN (u64n f.frm) ++ formN (u64n f.dst)) ++ (formN f.gos.kind.toNat ++ formN z.p.n)) ++ f.gos.pre) ++ (formN z.i.n) ++ ((f.gos.items.take i).map Att.raw).flatten) ++ RB1)) ?_
   rintro _ W30 ⟨AA14, nn14, rfl, ow30, ch27, ha8⟩
   have zz27 := ch27.size
   have hq35 := ow30.nc
   have hq36 := ow30.cm
   have lts8 : ∀ k_, (.slice AA14 (N1 + 104) nn14 : Value).ownBlock = some k_ → (W2.heap.size ≤ k_ ∧ k_ < W30.heap.size) ∧ k_ ≠ W3.heap.size := fun k_ hk_ => ⟨ow30.lt k_ hk_, by rcases ha8 k_ hk_ with h_ | h_ <;> first | (have q_ := lts0 k_ h_; omega) | omega⟩
   refine rP 8 3 (.slice AA14 (N1 + 104) nn14)<|rE<|inN<|nxt<|reg<|rP 0 167 (vI i)<|rI 1 168 ((i : Int) + 1) (((i + 1 : Nat) : Int))<|rP 2 7 (vI (i + 1 : Nat))<|eN<|?_
   refine ⟨_, ?_, i + 1, AA14, N1 + 104, nn14, rfl, by kernel_rfl, (by omega), (by rw [flat_sn Att.raw hxa, ← List.append_assoc]; rw [show Att.raw xa = RB1 from hRB1.out.symm]; exact own8_low ow30 (by omega)), (Chg.hp ch27 (qT ch26 hgb) (off_blk (fun gz hgz => by have := lts0 gz hgz; omega))), (by omega), (by omega), (fun q_ h_ => (lts8 q_ h_).2), (Chg.step (kA HB ch26) ch27 (newOr_blk (fun g hg => by have := lts0 g hg; omega)))⟩
   omega
  refine wp_seq<|sR<|rP 0 162 (vI i)<|rP 1 163 (pw W3 35)<|rq 2 164 _ rfl (ld 29 163 W3.heap.size 35 (.slice z.i.A z.i.n z.i.c) (show World.cell? _ ⟨_, 0 + 35, _⟩ = _ from msg_items hI.ok.sum (range_row hgb)))<|rP 3 165 (vI z.i.n)<|bF 4 166 ((i : Int) < (z.i.n : Int))<|eN<|cF<|xX<|nxt<|reg<|rP 0 177 (.slice A1 N1 c1)<|rP 1 178 (pw W3 36)<|rq 2 179 _ rfl (ld 4 178 W3.heap.size 36 (.bool f.gos.ans) (show World.cell? _ ⟨_, 0 + 36, _⟩ = _ from Mur.msg_ans hI.ok.sum (range_row hgb)))<|rK 3 180 (RFlag_any f.gos.ans W28) ?_
  rintro _ W31 ⟨rfl, ch28⟩
  have zz28 := ch28.size
  refine nS 4 181 1 #[vU (Mur.flagN f.gos.ans : Nat)] 23 fun W32 hb12 ch29 sz11 => rK 5 182 (RNat1_any W31.heap.size (Mur.flagN f.gos.ans) W32 hb12 (by cases f.gos.ans <;> decide)) ?_
  rintro _ W33 ⟨AA15, nn15, cc7, rfl, ow31, hle7, ch30⟩
  have zz30 := ch30.size
  have hq37 := ow31.nc
  have hq38 := ow31.cm
  have hq39 := ow31.byt.1
  refine rX 6 183 rfl rfl (ap8 nn15 cc7 (oA (oA (oA hO ch28) ch29) ch30).own ow31.byt ow31.nil (N1 + nn15) (((((formN f.kind.toNat ++ formN (u64n f.frm) ++ formN (u64n f.dst)) ++ (formN f.gos.kind.toNat ++ formN z.p.n)) ++ f.gos.pre) ++ (formN z.i.n) ++ ((f.gos.items.take i).map Att.raw).flatten) ++ (formN (Mur.flagN f.gos.ans)))) ?_
  rintro _ W34 ⟨AA16, nn16, rfl, ow35, ch31, ha9⟩
  have zz31 := ch31.size
  have hq40 := ow35.nc
  have hq41 := ow35.cm
  have lts9 : ∀ k_, (.slice AA16 (N1 + nn15) nn16 : Value).ownBlock = some k_ → (W2.heap.size ≤ k_ ∧ k_ < W34.heap.size) ∧ k_ ≠ W3.heap.size := fun k_ hk_ => ⟨ow35.lt k_ hk_, by rcases ha9 k_ hk_ with h_ | h_ <;> first | (have q_ := lts0 k_ h_; omega) | omega⟩
  refine rP 7 3 (.slice AA16 (N1 + nn15) nn16)<|rE<|inN<|nxt<|sR<|rP 0 212 (.slice AA16 (N1 + nn15) nn16)<|rP 1 2 (.slice AA16 (N1 + nn15) nn16)<|eN<|wp_ret<|?_
  have hH_ := ow35
  have hgk_ : ¬ f.gos.kind = 1 := fun e_ => by have h_ : f.gos.kind.toNat = 1 := congrArg UInt8.toNat e_; omega
  have hE_ : ((((formN f.kind.toNat ++ formN (u64n f.frm) ++ formN (u64n f.dst)) ++ (formN f.gos.kind.toNat ++ formN z.p.n)) ++ f.gos.pre) ++ (formN z.i.n) ++ ((f.gos.items.take i).map Att.raw).flatten) ++ (formN (Mur.flagN f.gos.ans)) = bodyFM f := by rw [← Mur.bodyB_2i hm hk_ hgk_, u64n_of (n := f.kind.toNat) (by omega), u64n_of (n := f.gos.kind.toNat) (by omega), ← hpl_, List.take_of_length_le (show f.gos.items.length ≤ i by omega), ← hil_] <;> simp only [List.append_assoc]
  rw [hE_] at hH_
  have hbd_ := body_le hm hI.ok
  have hbl_ := hH_.byt.1
  exact rt (.slice AA16 (N1 + nn15) nn16) ⟨_, _, _, rfl, own8_low hH_ (by omega), by omega, (Chg.step (kA (kA (kA HB ch28) ch29) ch30) ch31 (newOr_blk (fun g hg => by have := lts0 g hg; omega)))⟩
 refine eF 0 122 (f.kind.toNat : Int) (2 : Int)<|rP 1 121 vF<|eN<|cF<|sR<|?_
 by_cases hx4 : (f.kind.toNat : Int) = (3 : Int)
 ·refine eT 0 185 (f.kind.toNat : Int) (3 : Int)<|rP 1 184 vT<|eN<|cT<|sR<|?_
  have hk_ : f.kind = 3 := kI 3
  have hmk_ := (Mur.mayFM_3 hH4_ hk_).1 hm
  refine rP 0 186 (.slice AA1 nn1 cc1)<|rP 1 187 (pw w 45)<|rP 2 188 (pw w 45)<|rq 3 189 (.slice (some ⟨w.heap.size, 45, none⟩) 32 32) rfl (arr_slice_at 28 5 (.tmp 188) 32 rfl Tryz.underlying28 (by kernel_rfl) w.heap.size 45 (by kernel_rfl))<|rX 4 190 rfl rfl (ap8 32 32 ow1.own (byt_rng (sgW hI.sz (qT ch3 (qT ch2 hb1)) 14) hI.ok.key) (fun h => by cases h) (nn1 + 32) ((formN f.kind.toNat ++ formN (u64n f.frm) ++ formN (u64n f.dst)) ++ f.cKey)) ?_
  rintro _ W35 ⟨AA17, nn17, rfl, ow36, ch32, ha10⟩
  have zz32 := ch32.size
  have hq42 := ow36.nc
  have hq43 := ow36.cm
  refine rP 5 3 (.slice AA17 (nn1 + 32) nn17)<|eN<|?_
  refine dReg ((Wk.blk (.slice AA17 (nn1 + 32) nn17))) (by kernel_rfl) ?_
  intro W36 ch33 sz12
  have zz33 := ch33.size
  have sS5 : Chg ((Wk.blk (.slice AA17 (nn1 + 32) nn17))) W36 W36 := (Chg.refl _).more (by simp)
  refine dW 0 191 (.slice AA17 (nn1 + 32) nn17) sS5<|dW 1 192 (pw w 45) sS5<|dW 2 193 (pw w 78) sS5<|dV 3 194 (vU f.cInc) rfl rfl (fun w' hw' => fl 23 193 w.heap.size 78 (vU f.cInc) hI.sz (Chg.hp hw' (qT ch33 (Chg.hp ch32 (qT ch3 (qT ch2 hb1)) (off_blk (fun gz hgz => by have := ow1.lt gz hgz; omega)))) (off_blk (fun gz hgz => by have := ow36.lt gz hgz; omega))) 16) sS5<|dW 4 195 (pw w 45) sS5<|dW 5 196 (pw w 79) sS5<|dV 6 197 (vU f.cCnt) rfl rfl (fun w' hw' => fl 23 196 w.heap.size 79 (vU f.cCnt) hI.sz (Chg.hp hw' (qT ch33 (Chg.hp ch32 (qT ch3 (qT ch2 hb1)) (off_blk (fun gz hgz => by have := ow1.lt gz hgz; omega)))) (off_blk (fun gz hgz => by have := ow36.lt gz hgz; omega))) 17) sS5<|dW 7 198 (pw w 45) sS5<|dW 8 199 (pw w 80) sS5<|dV 9 200 (.bool f.cGone) rfl rfl (fun w' hw' => fl 4 199 w.heap.size 80 (.bool f.cGone) hI.sz (Chg.hp hw' (qT ch33 (Chg.hp ch32 (qT ch3 (qT ch2 hb1)) (off_blk (fun gz hgz => by have := ow1.lt gz hgz; omega)))) (off_blk (fun gz hgz => by have := ow36.lt gz hgz; omega))) 18) sS5<|dO 10<|oK 201 (RFlag_any f.cGone W36) ?_
  rintro _ W37 ⟨rfl, ch34⟩
  have zz34 := ch34.size
  have sS6 := kA sS5 ch34
  refine aN sS6<|dO 11<|oS 202 3 #[vU f.cInc, vU f.cCnt, vU (Mur.flagN f.cGone : Nat)] 23 fun W38 hb13 ch35 sz13 => ?_
  have sS7 := kA sS6 ch35
  refine aN sS7<|dO 12<|oK 203 (RNat3_any W37.heap.size f.cInc f.cCnt (Mur.flagN f.cGone) W38 hb13 hI.ok.inc hI.ok.cnt (by cases f.cGone <;> decide)) ?_
  rintro _ W39 ⟨AA18, nn18, cc8, rfl, ow37, hle8, ch36⟩
  have zz36 := ch36.size
  have hq44 := ow37.nc
  have hq45 := ow37.cm
  have hq46 := ow37.byt.1
  have sS8 := kA sS7 ch36
  refine aN sS8<|dO 13<|oEx (some 204) _ rfl rfl (by kernel_rfl) (ap8 nn18 cc8 (oA (oA (oA (oA ow36 ch33) ch34) ch35) ch36).own ow37.byt ow37.nil (nn1 + 32 + nn18) (((formN f.kind.toNat ++ formN (u64n f.frm) ++ formN (u64n f.dst)) ++ f.cKey) ++ (formN f.cInc ++ formN f.cCnt ++ formN (Mur.flagN f.cGone)))) ?_
  rintro _ W40 ⟨AA19, nn19, rfl, ow42, ch37, ha11⟩
  have zz37 := ch37.size
  have hq47 := ow42.nc
  have hq48 := ow42.cm
  have sS9 := Chg.step sS8 ch37 (newOr_iff.2 (fun t ht => .inl ht))
  refine aN sS9<|dW 14 3 (.slice AA19 (nn1 + 32 + nn18) nn19) sS9<|dE<|inN<|nxt<|sR<|rP 0 212 (.slice AA19 (nn1 + 32 + nn18) nn19)<|rP 1 2 (.slice AA19 (nn1 + 32 + nn18) nn19)<|eN<|wp_ret<|?_
  have hH_ := ow42
  have hE_ : ((formN f.kind.toNat ++ formN (u64n f.frm) ++ formN (u64n f.dst)) ++ f.cKey) ++ (formN f.cInc ++ formN f.cCnt ++ formN (Mur.flagN f.cGone)) = bodyFM f := by rw [← Mur.bodyB_3 hm hk_, u64n_of (n := f.kind.toNat) (by omega)] <;> simp only [List.append_assoc]
  rw [hE_] at hH_
  have hbd_ := body_le hm hI.ok
  have hbl_ := hH_.byt.1
  exact rt (.slice AA19 (nn1 + 32 + nn18) nn19) ⟨_, _, _, rfl, own8_low hH_ (by omega), by omega, (Chg.step (kA (kA (kA (kA (Chg.step (kA (kA (zA ch1 : Chg [] w W1) ch2) ch3) ch32 (newOr_blk (fun g hg => by have := ow1.lt g hg; omega))) ch33) ch34) ch35) ch36) ch37 (newOr_blk (fun g hg => by have := ow36.lt g hg; omega)))⟩
 refine eF 0 185 (f.kind.toNat : Int) (3 : Int)<|rP 1 184 vF<|eN<|cF<|sR<|?_
 by_cases hx5 : (f.kind.toNat : Int) = (4 : Int)
 ·refine eT 0 206 (f.kind.toNat : Int) (4 : Int)<|rP 1 205 vT<|eN<|cT<|reg<|?_
  have hk_ : f.kind = 4 := kI 4
  have hmk_ := (Mur.mayFM_4 hH4_ hk_).1 hm
  refine rP 0 207 (.slice AA1 nn1 cc1)<|rP 1 208 (pw w 81)<|rq 2 209 _ rfl (lR 81 (Mur.attC f.att.k f.att.r f.att.n f.att.t) (sgR hI.sz (qT ch3 (qT ch2 hb1)) 19 4 Mur.frmL_att) (by rw [attC_length f.att.hk f.att.hr f.att.ht]; kernel_rfl))<|rK 3 210 (Rbytes_any f.att.k f.att.r f.att.t f.att.n f.att.hk f.att.hr f.att.ht W3) ?_
  rintro _ W41 ⟨qr2, cr2, RB2, hRB2, rfl, hbr2, hq49, hq50, ch38⟩
  have zz38 := ch38.size
  have hBt2 : ∀ g off, (some ⟨qr2, 0, none⟩ : Option Addr) = some ⟨g, off, none⟩ → W3.heap.size ≤ g ∧ g < W41.heap.size := fun g off e => by cases e; exact hq49
  refine rX 4 211 rfl rfl (ap8 104 cr2 (oA ow1 ch38).own hbr2 (fun h => by cases h) (nn1 + 104) ((formN f.kind.toNat ++ formN (u64n f.frm) ++ formN (u64n f.dst)) ++ RB2)) ?_
  rintro _ W42 ⟨AA20, nn20, rfl, ow44, ch39, ha12⟩
  have zz39 := ch39.size
  have hq51 := ow44.nc
  have hq52 := ow44.cm
  refine rP 5 3 (.slice AA20 (nn1 + 104) nn20)<|rE<|inN<|nxt<|sR<|rP 0 212 (.slice AA20 (nn1 + 104) nn20)<|rP 1 2 (.slice AA20 (nn1 + 104) nn20)<|eN<|wp_ret<|?_
  have hH_ := ow44
  have hE_ : (formN f.kind.toNat ++ formN (u64n f.frm) ++ formN (u64n f.dst)) ++ RB2 = bodyFM f := by rw [← Mur.bodyB_4 hm hk_, u64n_of (n := f.kind.toNat) (by omega), show f.att.raw = RB2 from hRB2.out.symm] <;> simp only [List.append_assoc]
  rw [hE_] at hH_
  have hbd_ := body_le hm hI.ok
  have hbl_ := hH_.byt.1
  exact rt (.slice AA20 (nn1 + 104) nn20) ⟨_, _, _, rfl, own8_low hH_ (by omega), by omega, (Chg.step (kA (kA (kA (zA ch1 : Chg [] w W1) ch2) ch3) ch38) ch39 (newOr_blk (fun g hg => by have := ow1.lt g hg; omega)))⟩
 refine eF 0 206 (f.kind.toNat : Int) (4 : Int)<|rP 1 205 vF<|eN<|cF<|sR<|rP 0 22 (.slice AA1 nn1 cc1)<|rP 1 23 (pw w 178)<|rq 2 24 (.slice (some ⟨w.heap.size, 178, none⟩) 32 32) rfl (arr_slice_at 28 5 (.tmp 23) 32 rfl Tryz.underlying28 (by kernel_rfl) w.heap.size 178 (by kernel_rfl))<|rX 3 25 rfl rfl (ap8 32 32 ow1.own (byt_rng (sgW hI.sz (qT ch3 (qT ch2 hb1)) 23) hI.ok.root) (fun h => by cases h) (nn1 + 32) ((formN f.kind.toNat ++ formN (u64n f.frm) ++ formN (u64n f.dst)) ++ f.root)) ?_
 rintro _ W43 ⟨AA21, nn21, rfl, ow45, ch40, ha13⟩
 have zz40 := ch40.size
 have hq53 := ow45.nc
 have hq54 := ow45.cm
 refine rP 4 3 (.slice AA21 (nn1 + 32) nn21)<|eN<|sR<|rP 0 26 (.slice AA21 (nn1 + 32) nn21)<|rP 1 27 (pw w 210)<|rF 2 28 210 (vI f.chunk) hI.sz (Chg.hp ch40 (qT ch3 (qT ch2 hb1)) (off_blk (fun gz hgz => by have := ow1.lt gz hgz; omega))) 24<|rq 3 29 (vU (u64n f.chunk : Nat)) rfl (conv_u64n 3 23 (.tmp 28) rfl (by kernel_rfl) Tryz.underlying23 .i64 f.chunk (by kernel_rfl))<|nS 4 30 1 #[vU (u64n f.chunk : Nat)] 23 fun W44 hb14 ch41 sz14 => rK 5 31 (RNat1_any W43.heap.size (u64n f.chunk) W44 hb14 (u64n_lt _)) ?_
 rintro _ W45 ⟨AA22, nn22, cc9, rfl, ow46, hle9, ch42⟩
 have zz42 := ch42.size
 have hq55 := ow46.nc
 have hq56 := ow46.cm
 have hq57 := ow46.byt.1
 refine rX 6 32 rfl rfl (ap8 nn22 cc9 (oA (oA ow45 ch41) ch42).own ow46.byt ow46.nil (nn1 + 32 + nn22) (((formN f.kind.toNat ++ formN (u64n f.frm) ++ formN (u64n f.dst)) ++ f.root) ++ (formN (u64n f.chunk)))) ?_
 rintro _ W46 ⟨AA23, nn23, rfl, ow49, ch43, ha14⟩
 have zz43 := ch43.size
 have hq58 := ow49.nc
 have hq59 := ow49.cm
 refine rP 7 3 (.slice AA23 (nn1 + 32 + nn22) nn23)<|eN<|sR<|rP 0 33 (pw w 0)<|rF 1 34 0 (vB f.kind.toNat) hI.sz (Chg.hp ch43 (qT ch42 (qT ch41 (Chg.hp ch40 (qT ch3 (qT ch2 hb1)) (off_blk (fun gz hgz => by have := ow1.lt gz hgz; omega))))) (off_blk (fun gz hgz => by have := ow45.lt gz hgz; omega))) 0 ?_
 by_cases hx6 : (f.kind.toNat : Int) = (6 : Int)
 ·refine eT 2 35 (f.kind.toNat : Int) (6 : Int)<|eN<|cT<|sR<|?_
  have hk_ : f.kind = 6 := kI 6
  have hmk_ := (Mur.mayFM_6 hH4_ hk_).1 hm
  have hy6_ := hmk_.2.1
  have hf6_ := hmk_.2.2
  refine rP 0 36 (.slice AA23 (nn1 + 32 + nn22) nn23)<|rP 1 37 (pw w 211)<|rF 2 38 211 (.slice z.y.A z.y.n z.y.c) hI.sz (Chg.hp ch43 (qT ch42 (qT ch41 (Chg.hp ch40 (qT ch3 (qT ch2 hb1)) (off_blk (fun gz hgz => by have := ow1.lt gz hgz; omega))))) (off_blk (fun gz hgz => by have := ow45.lt gz hgz; omega))) 25<|rP 3 39 (vI z.y.n)<|rq 4 40 (vU z.y.n) rfl (conv_int 3 23 (.tmp 39) rfl (by kernel_rfl) .u64 Tryz.underlying23 .i64 (z.y.n : Int) (by kernel_rfl) (u64_nat (n := z.y.n) (by omega)))<|nS 5 41 1 #[vU z.y.n] 23 fun W47 hb15 ch44 sz15 => rK 6 42 (RNat1_any W46.heap.size z.y.n W47 hb15 (by omega)) ?_
  rintro _ W48 ⟨AA24, nn24, cc10, rfl, ow50, hle10, ch45⟩
  have zz45 := ch45.size
  have hq60 := ow50.nc
  have hq61 := ow50.cm
  have hq62 := ow50.byt.1
  refine rX 7 43 rfl rfl (ap8 nn24 cc10 (oA (oA ow49 ch44) ch45).own ow50.byt ow50.nil (nn1 + 32 + nn22 + nn24) ((((formN f.kind.toNat ++ formN (u64n f.frm) ++ formN (u64n f.dst)) ++ f.root) ++ (formN (u64n f.chunk))) ++ (formN z.y.n))) ?_
  rintro _ W49 ⟨AA25, nn25, rfl, ow53, ch46, ha15⟩
  have zz46 := ch46.size
  have hq63 := ow53.nc
  have hq64 := ow53.cm
  refine rP 8 3 (.slice AA25 (nn1 + 32 + nn22 + nn24) nn25)<|eN<|sR<|rP 0 44 (.slice AA25 (nn1 + 32 + nn22 + nn24) nn25)<|rP 1 45 (pw w 211)<|rF 2 46 211 (.slice z.y.A z.y.n z.y.c) hI.sz (Chg.hp ch46 (qT ch45 (qT ch44 (Chg.hp ch43 (qT ch42 (qT ch41 (Chg.hp ch40 (qT ch3 (qT ch2 hb1)) (off_blk (fun gz hgz => by have := ow1.lt gz hgz; omega))))) (off_blk (fun gz hgz => by have := ow45.lt gz hgz; omega))))) (off_blk (fun gz hgz => by have := ow49.lt gz hgz; omega))) 25 ?_
  have kk59 := Chg.step (kA (kA (Chg.step (kA (kA (Chg.step (kA (kA (zA ch1 : Chg [] w W1) ch2) ch3) ch40 (newOr_blk (fun g hg => by have := ow1.lt g hg; omega))) ch41) ch42) ch43 (newOr_blk (fun g hg => by have := ow45.lt g hg; omega))) ch44) ch45) ch46 (newOr_blk (fun g hg => by have := ow49.lt g hg; omega))
  refine rX 3 47 rfl rfl (ap8 z.y.n z.y.c ow53.own (byt_chg hL.byt kk59 (fun g off e hl => trivial)) hL.ny.nil (nn1 + 32 + nn22 + nn24 + z.y.n) (((((formN f.kind.toNat ++ formN (u64n f.frm) ++ formN (u64n f.dst)) ++ f.root) ++ (formN (u64n f.chunk))) ++ (formN z.y.n)) ++ f.byt)) ?_
  rintro _ W50 ⟨AA26, nn26, rfl, ow54, ch47, ha16⟩
  have zz47 := ch47.size
  have hq65 := ow54.nc
  have hq66 := ow54.cm
  refine rP 4 3 (.slice AA26 (nn1 + 32 + nn22 + nn24 + z.y.n) nn26)<|eN<|sR<|rP 0 48 (.slice AA26 (nn1 + 32 + nn22 + nn24 + z.y.n) nn26)<|rP 1 49 (pw w 212)<|rF 2 50 212 (.slice z.f.A z.f.n z.f.c) hI.sz (Chg.hp ch47 (Chg.hp ch46 (qT ch45 (qT ch44 (Chg.hp ch43 (qT ch42 (qT ch41 (Chg.hp ch40 (qT ch3 (qT ch2 hb1)) (off_blk (fun gz hgz => by have := ow1.lt gz hgz; omega))))) (off_blk (fun gz hgz => by have := ow45.lt gz hgz; omega))))) (off_blk (fun gz hgz => by have := ow49.lt gz hgz; omega))) (off_blk (fun gz hgz => by have := ow53.lt gz hgz; omega))) 26<|rP 3 51 (vI z.f.n)<|rq 4 52 (vU z.f.n) rfl (conv_int 3 23 (.tmp 51) rfl (by kernel_rfl) .u64 Tryz.underlying23 .i64 (z.f.n : Int) (by kernel_rfl) (u64_nat (n := z.f.n) (by omega)))<|nS 5 53 1 #[vU z.f.n] 23 fun W51 hb16 ch48 sz16 => rK 6 54 (RNat1_any W50.heap.size z.f.n W51 hb16 (by omega)) ?_
  rintro _ W52 ⟨AA27, nn27, cc11, rfl, ow55, hle11, ch49⟩
  have zz49 := ch49.size
  have hq67 := ow55.nc
  have hq68 := ow55.cm
  have hq69 := ow55.byt.1
  refine rX 7 55 rfl rfl (ap8 nn27 cc11 (oA (oA ow54 ch48) ch49).own ow55.byt ow55.nil (nn1 + 32 + nn22 + nn24 + z.y.n + nn27) ((((((formN f.kind.toNat ++ formN (u64n f.frm) ++ formN (u64n f.dst)) ++ f.root) ++ (formN (u64n f.chunk))) ++ (formN z.y.n)) ++ f.byt) ++ (formN z.f.n))) ?_
  rintro _ W53 ⟨AA28, nn28, rfl, ow58, ch50, ha17⟩
  have zz50 := ch50.size
  have hq70 := ow58.nc
  have hq71 := ow58.cm
  refine rP 8 3 (.slice AA28 (nn1 + 32 + nn22 + nn24 + z.y.n + nn27) nn28)<|eN<|sR<|rP 0 8 (vI 0)<|eN<|wp_block<|?_
  have hbase_ : W2.heap.size ≤ W53.heap.size := by omega
  refine Wk.loop (fun m_ a wr => ∃ (i : Nat) (A1 : Option Addr) (N1 : Nat) (c1 : Nat), m_ = z.f.n - i ∧ a = RBody_F3 a.tmps (pw w 0) (.slice A1 N1 c1) (vI i) ∧ i ≤ z.f.n ∧ Own8 wr W2.heap.size 5 A1 N1 c1 ((((((formN f.kind.toNat ++ formN (u64n f.frm) ++ formN (u64n f.dst)) ++ f.root) ++ (formN (u64n f.chunk))) ++ (formN z.y.n)) ++ f.byt) ++ (formN z.f.n) ++ ((f.prf.take i).map (fun x : List UInt8 => x)).flatten) ∧ wr.heap[w.heap.size]? = some (.cells (frmP f z).flatten.toArray 38 (0, 0)) ∧ N1 ≤ nn1 + 32 + nn22 + nn24 + z.y.n + nn27 + 32 * i ∧ W2.heap.size ≤ wr.heap.size ∧ Chg [] w wr) (z.f.n - 0) ?_ ?_
  ·have kk60 := Chg.step kk59 ch47 (newOr_blk (fun g hg => by have := ow53.lt g hg; omega))
   refine ⟨0, AA28, nn1 + 32 + nn22 + nn24 + z.y.n + nn27, nn28, rfl, by kernel_rfl, (by omega), (by rw [List.take_zero]; simp only [List.map_nil, List.flatten_nil, List.append_nil]; exact ow58), (Chg.hp ch50 (qT ch49 (qT ch48 (Chg.hp ch47 (Chg.hp ch46 (qT ch45 (qT ch44 (Chg.hp ch43 (qT ch42 (qT ch41 (Chg.hp ch40 (qT ch3 (qT ch2 hb1)) (off_blk (fun gz hgz => by have := ow1.lt gz hgz; omega))))) (off_blk (fun gz hgz => by have := ow45.lt gz hgz; omega))))) (off_blk (fun gz hgz => by have := ow49.lt gz hgz; omega))) (off_blk (fun gz hgz => by have := ow53.lt gz hgz; omega))))) (off_blk (fun gz hgz => by have := ow54.lt gz hgz; omega))), (by omega), (by omega), (Chg.step (kA (kA kk60 ch48) ch49) ch50 (newOr_blk (fun g hg => by have := ow54.lt g hg; omega)))⟩
  rintro mm3 aa3 W54 ⟨i, A1, N1, c1, hmm3, hF3, hi, hO, hgb, hN, hbz, HB⟩
  generalize aa3.tmps = bb3 at hF3
  subst hF3
  have hzB := HB.size
  have hOn := hO.nc
  have hOc := hO.cm
  have hbxl_ := (Array.getElem?_eq_some_iff.1 hgb).1
  by_cases hlt : i < z.f.n
  ·obtain ⟨xa, hxa⟩ : ∃ x_, f.prf[i]? = some x_ := ⟨_, List.getElem?_eq_getElem (by omega)⟩
   obtain ⟨g1, o1, hA1_, hr1⟩ := hL.prf.row (map_at b8s hxa) (by decide)
   have hg1l_ : g1 < w.heap.size := slr_lt hL.prf (by decide) hA1_ (by omega)
   refine wp_seq<|sR<|rP 0 56 (vI i)<|rP 1 57 (pw w 212)<|rF 2 58 212 (.slice z.f.A z.f.n z.f.c) hI.sz hgb 26<|rP 3 59 (vI z.f.n)<|bT 4 60 ((i : Int) < (z.f.n : Int))<|eN<|cT<|wp_skip<|nxt<|wp_seq<|wp_block<|reg<|rP 0 63 (.slice A1 N1 c1)<|rP 1 64 (pw w 212)<|rF 2 65 212 (.slice z.f.A z.f.n z.f.c) hI.sz hgb 26<|rP 3 66 (vI i)<|rq 4 67 (pt g1 (o1 + i * 32)) rfl (index_sl 36 28 (.tmp 65) (.tmp 66) rfl Tryz.underlying36 32 (by kernel_rfl) g1 o1 z.f.n z.f.c i .i64 (by rw [← hA1_]; kernel_rfl) (by kernel_rfl) (by omega))<|rq 5 68 (.slice (some ⟨g1, o1 + i * 32, none⟩) 32 32) rfl (arr_slice_at 28 5 (.tmp 67) 32 rfl Tryz.underlying28 (by kernel_rfl) g1 (o1 + i * 32) (by kernel_rfl))<|rX 6 69 rfl rfl (ap8 32 32 hO.own (byt_rng (Chg.range HB hr1 trivial) (hI.ok.prf xa (List.mem_of_getElem? hxa))) (fun h => by cases h) (N1 + 32) (((((((formN f.kind.toNat ++ formN (u64n f.frm) ++ formN (u64n f.dst)) ++ f.root) ++ (formN (u64n f.chunk))) ++ (formN z.y.n)) ++ f.byt) ++ (formN z.f.n) ++ ((f.prf.take i).map (fun x : List UInt8 => x)).flatten) ++ xa)) ?_
   rintro _ W55 ⟨AA29, nn29, rfl, ow59, ch51, ha18⟩
   have zz51 := ch51.size
   have hq72 := ow59.nc
   have hq73 := ow59.cm
   refine rP 7 3 (.slice AA29 (N1 + 32) nn29)<|rE<|inN<|nxt<|reg<|rP 0 61 (vI i)<|rI 1 62 ((i : Int) + 1) (((i + 1 : Nat) : Int))<|rP 2 8 (vI (i + 1 : Nat))<|eN<|?_
   refine ⟨_, ?_, i + 1, AA29, N1 + 32, nn29, rfl, by kernel_rfl, (by omega), (by rw [flat_sn (fun x : List UInt8 => x) hxa, ← List.append_assoc]; exact own8_low ow59 (by omega)), (Chg.hp ch51 hgb (off_blk (fun gz hgz => by have := hO.lt gz hgz; omega))), (by omega), (by omega), (Chg.step HB ch51 (newOr_blk (fun g hg => by have := hO.lt g hg; omega)))⟩
   omega
  refine wp_seq<|sR<|rP 0 56 (vI i)<|rP 1 57 (pw w 212)<|rF 2 58 212 (.slice z.f.A z.f.n z.f.c) hI.sz hgb 26<|rP 3 59 (vI z.f.n)<|bF 4 60 ((i : Int) < (z.f.n : Int))<|eN<|cF<|xX<|inN<|nxt<|sR<|rP 0 212 (.slice A1 N1 c1)<|rP 1 2 (.slice A1 N1 c1)<|eN<|wp_ret<|?_
  have hH_ := hO
  have hE_ : (((((formN f.kind.toNat ++ formN (u64n f.frm) ++ formN (u64n f.dst)) ++ f.root) ++ (formN (u64n f.chunk))) ++ (formN z.y.n)) ++ f.byt) ++ (formN z.f.n) ++ ((f.prf.take i).map (fun x : List UInt8 => x)).flatten = bodyFM f := by rw [← Mur.bodyB_6 hm hk_, u64n_of (n := f.kind.toNat) (by omega), List.take_of_length_le (show f.prf.length ≤ i by omega), ← hyl_, ← hfl_] <;> simp only [List.append_assoc]
  rw [hE_] at hH_
  have hbd_ := body_le hm hI.ok
  have hbl_ := hH_.byt.1
  exact rt (.slice A1 N1 c1) ⟨_, _, _, rfl, own8_low hH_ (by omega), by omega, HB⟩
 refine eF 2 35 (f.kind.toNat : Int) (6 : Int)<|eN<|cF<|wp_skip<|inN<|nxt<|sR<|rP 0 212 (.slice AA23 (nn1 + 32 + nn22) nn23)<|rP 1 2 (.slice AA23 (nn1 + 32 + nn22) nn23)<|eN<|wp_ret<|?_
 have hH_ := ow49
 have hk_ : f.kind = 5 := kI 5
 have hE_ : ((formN f.kind.toNat ++ formN (u64n f.frm) ++ formN (u64n f.dst)) ++ f.root) ++ (formN (u64n f.chunk)) = bodyFM f := by rw [← Mur.bodyB_5 hm hk_, u64n_of (n := f.kind.toNat) (by omega)] <;> simp only [List.append_assoc]
 rw [hE_] at hH_
 have hbd_ := body_le hm hI.ok
 have hbl_ := hH_.byt.1
 exact rt (.slice AA23 (nn1 + 32 + nn22) nn23) ⟨_, _, _, rfl, own8_low hH_ (by omega), by omega, (Chg.step (kA (kA (Chg.step (kA (kA (zA ch1 : Chg [] w W1) ch2) ch3) ch40 (newOr_blk (fun g hg => by have := ow1.lt g hg; omega))) ch41) ch42) ch43 (newOr_blk (fun g hg => by have := ow45.lt g hg; omega)))⟩
end Go.Proofs.YtgbadghjnpbiaaaGreatDoor
namespace Go.Proofs.YtgbadghjnpbiaaaGreatDoor
open Go.RowKit Wk
open Mur (b8s Byt Own8 Seg Segs flat cutA attC Att SlA OwnA rowA msgC LiesF frmP bytesFM frmL_sz bodyFM own8_low)
set_option maxRecDepth 100000
set_option maxHeartbeats 4000000
theorem RBytes25_any (s : List UInt8) (A : Option Addr) (n c : Nat) (T : List UInt8 → List UInt8) (f : Mur.Frm) (z : Mur.Zs) (w : World) (hv : ShaVars w) (hb : Byt w A n s) (hnc : n ≤ c ∧ c ≤ 9223372036854775807) (ha : A = none → c = 0) (hn : n ≤ 1000000) (hT : ∀ x, T x = Mur.hmac s (18 :: x)) (_hTl : ∀ x, (T x).length = 32) (hL : LiesF w z f) (hI : Mur.FrmIn f) (hm : Mur.mayFM f) : Calls Tryz.prog 13 #[.slice A n c, .agg (frmP f z).flatten.toArray] w fun e w' => ∃ A1 n1 c1, e = .returned (.slice A1 n1 c1) ∧ Own8 w' w.heap.size 5 A1 n1 c1 (bytesFM T f) ∧ n1 ≤ 2000 ∧ Chg [] w w' := by
 have hml_ : Go.maxLen = 9223372036854775807 := rfl
 have HV := Go.Lib.hid hv
 clear hv
 have HBY := Go.Lib.hid hb
 clear hb
 have HA := Go.Lib.hid ha
 clear ha
 have hLin_ : z.In fun g => g < w.heap.size → Wk.Off g [] := ⟨fun _ _ _ _ => trivial, fun _ _ _ _ => trivial, fun _ _ _ _ => trivial, fun _ _ _ _ => trivial, fun _ _ _ _ => trivial⟩
 have hLunc_ := hL.nu.nc
 have hLucm_ := hL.nu.cm
 have hLpnc_ := hL.np.nc
 have hLpcm_ := hL.np.cm
 have hLinc_ := hL.ni.nc
 have hLicm_ := hL.ni.cm
 have hLync_ := hL.ny.nc
 have hLycm_ := hL.ny.cm
 have hLfnc_ := hL.nf.nc
 have hLfcm_ := hL.nf.cm
 refine calls_of_wp Tryz.func13 rfl ?_
 refine sR<|nW 0 3 ((frmP f z).flatten.toArray) 38 fun W1 hb1 ch1 sz1 => rP 1 4 (.slice none 0 0)<|eN<|sR<|rq 0 7 _ rfl (lA hb1 (Mur.frmL_size hI.sz)) ?_
 have kk1 : Chg [] w W1 := zA ch1
 refine rK 1 8 (RBody_any f z W1 (LiesF.chg hL kk1 hLin_) hI hm) ?_
 rintro _ W2 ⟨AA1, nn1, cc1, rfl, ow1, hle1, ch2⟩
 have zz2 := ch2.size
 have hq1 := ow1.nc
 have hq2 := ow1.cm
 have hq3 := ow1.byt.1
 refine rP 2 5 (.slice AA1 nn1 cc1)<|eN<|wp_seq<|sR<|rP 0 9 (pw w 0)<|rF 1 10 0 (vB f.kind.toNat) hI.sz (qT ch2 hb1) 0 ?_
 by_cases hx1 : (f.kind.toNat : Int) > (4 : Int)
 ·refine bT 2 11 ((f.kind.toNat : Int) > (4 : Int))<|eN<|cT<|sR<|rP 0 12 (.slice AA1 nn1 cc1)<|rP 1 4 (.slice AA1 nn1 cc1)<|eN<|tR<|?_
  have hH_ := ow1
  have hby_ : bytesFM T f = bodyFM f := by unfold bytesFM; rw [if_neg (by omega)]; exact List.append_nil _
  exact rt (.slice AA1 nn1 cc1) ⟨_, _, _, rfl, by rw [hby_]; exact own8_low hH_ (by omega), by omega, (kA kk1 ch2)⟩
 refine bF 2 11 ((f.kind.toNat : Int) > (4 : Int))<|eN<|cF<|wp_skip<|nxt<|sR<|rP 0 13 (.slice A n c)<|rP 1 14 (.slice AA1 nn1 cc1)<|rK 2 15 (RTagged_any (bodyFM f) AA1 nn1 cc1 W2 ow1.byt ⟨by omega, by omega⟩ ow1.nil (by omega)) ?_
 rintro _ W3 ⟨AA2, nn2, cc2, rfl, ow2, ch3⟩
 have zz3 := ch3.size
 have hq4 := ow2.nc
 have hq5 := ow2.cm
 have hq6 := ow2.byt.1
 have hlc1 : (18 :: bodyFM f).length = (bodyFM f).length + 1 := List.length_cons
 have kk4 := kA (kA kk1 ch2) ch3
 refine rK 3 16 (Rtag_any s A n c (18 :: bodyFM f) AA2 nn2 cc2 W3 (Mur.byt_chg HBY.out kk4 (fun g off e hl => trivial)) (by omega) HA.out (by omega) ow2.byt ow2.nil (by omega)) ?_
 rintro _ W4 ⟨dd1, hd1, hdl1, rfl, ch4⟩
 have zz4 := ch4.size
 refine nW 4 6 Z32 28 fun W5 hb2 ch5 sz2 => rU 5 rfl (sC dd1 hdl1 hb2) fun W6 hb3 ch6 zz6 => eN<|sR<|rP 0 17 (.slice AA1 nn1 cc1)<|rq 1 18 (.slice (some ⟨W4.heap.size, 0, none⟩) 32 32) rfl (Mur.arr_slice 28 5 (.tmp 6) 32 rfl Tryz.underlying28 (by kernel_rfl) W4.heap.size (by kernel_rfl))<|rX 2 19 rfl rfl (ap8 32 32 (oB (oA (oA (oA ow1 ch3) ch4) ch5) ch6 ow1.lt).own (Mur.byt_blk dd1 hdl1 hb3) (fun h => by cases h) (nn1 + 32) ((bodyFM f) ++ dd1)) ?_
 rintro _ W7 ⟨AA3, nn3, rfl, ow7, ch7, ha1⟩
 have zz7 := ch7.size
 have hq7 := ow7.nc
 have hq8 := ow7.cm
 refine rP 3 4 (.slice AA3 (nn1 + 32) nn3)<|eN<|wp_ret<|?_
 have hH_ := ow7
 have e1_ : dd1 = T (bodyFM f) := by rw [hd1.out, hT]
 have hby_ : bytesFM T f = bodyFM f ++ dd1 := by unfold bytesFM; rw [if_pos (by omega), e1_]
 exact rt (.slice AA3 (nn1 + 32) nn3) ⟨_, _, _, rfl, by rw [hby_]; exact own8_low hH_ (by omega), by omega, (Chg.step (kB (kA (kA kk4 ch4) ch5) ch6) ch7 (newOr_blk (fun g hg => by have := ow1.lt g hg; omega)))⟩
end Go.Proofs.YtgbadghjnpbiaaaGreatDoor
namespace Mur
open Go Go.RowKit Wk
section
variable {P : Program} {w w' : World} {a : Act} {o : Oper}
end
theorem read_long {T : List UInt8 → List UInt8} {b : List UInt8} (h : readAll T b = .long) : 2000 < b.length := by
 by_cases hl : 2000 < b.length
 ·exact hl
 ·unfold readAll at h
  rw [if_neg hl] at h
  split at h
  ·cases h
  ·rename_i x r _
   unfold told at h
   by_cases h1 : mayFM (ofFra x) ∧ r.length = (if x.con.kind ≤ 4 then 32 else 0)
   ·rw [if_pos h1] at h
    by_cases h2 : x.con.kind ≤ 4 ∧ r ≠ T (b.take (b.length - 32))
    ·rw [if_pos h2] at h; cases h
    ·rw [if_neg h2] at h; cases h
   ·rw [if_neg h1] at h; cases h
theorem read_short {T : List UInt8 → List UInt8} {b : List UInt8} {t : Told} (h : readAll T b = t) (ht : t ≠ .long) : ¬ 2000 < b.length := fun hl => ht (h.symm.trans (readAll_long hl))
end Mur
namespace Go.Proofs.YtgbadghjnpbiaaaGreatDoor
open Go.RowKit Wk
open Mur (b8s Byt Own8 Seg Segs flat cutA attC Att SlA OwnA rowA msgC byt_chg frmP frmL_size frmL_sz frmL_all run_str LiesF bytes_read bytesFM headM frmIn_head run_built zs0 lies_none read_short)
set_option maxRecDepth 100000
set_option maxHeartbeats 4000000
theorem Reads_any (s : List UInt8) (A : Option Addr) (n c : Nat) (b : List UInt8) (B : Option Addr) (m d : Nat) (w : World) (hv : ShaVars w) (hb : Byt w A n s) (hnc : n ≤ c) (hcm : c ≤ Go.maxLen) (ha : A = none → c = 0) (hbB : Byt w B m b) (_hmd : m ≤ d) (_hdm : d ≤ Go.maxLen) (hbn : B = none → d = 0) : Calls Tryz.prog 4 #[.slice A n c, .slice B m d] w fun e w' => e = .returned vT ∧ Below w.heap.size w w' := by
 have HV := Go.Lib.hid hv
 clear hv
 have HBY := Go.Lib.hid hb
 clear hb
 have HA := Go.Lib.hid ha
 clear ha
 obtain ⟨T, hTs⟩ : ∃ T : List UInt8 → List UInt8, ∀ x, T x = Mur.hmac s (18 :: x) := ⟨_, fun _ => rfl⟩
 have hTsl : ∀ x, (T x).length = 32 := fun x => by rw [hTs]; exact Mur.hmac_length _ _
 have hml_ : Go.maxLen = 9223372036854775807 := rfl
 have hbl_ := hbB.1
 refine calls_of_wp Tryz.func4 rfl ?_
 refine sR<|rP 0 4 vF<|eN<|wp_seq<|sR<|rP 0 8 (.slice A n c)<|rP 1 9 (vI n) ?_
 by_cases hx1 : (n : Int) > (100 : Int)
 ·refine bT 2 10 ((n : Int) > (100 : Int))<|rP 3 11 vT<|rZ 4 12<|rZ 5 13<|rZ 6 14<|rP 7 15 vT<|eN<|cT<|sR<|rK 0 16 (Known25_any w HV.out) ?_
  rintro _ W1 ⟨rfl, ch1⟩
  have zz1 := ch1.size
  exact rP 1 4 vT<|eN<|tR<|rt vT ⟨rfl, Chg.below0 (zA ch1 : Chg [] w W1)⟩
 refine bF 2 10 ((n : Int) > (100 : Int))<|rP 3 11 vF<|rP 4 12 (.slice B m d)<|rP 5 13 (vI m) ?_
 by_cases hx2 : (m : Int) > (2100 : Int)
 ·refine bT 6 14 ((m : Int) > (2100 : Int))<|rP 7 15 vT<|eN<|cT<|sR<|rK 0 16 (Known25_any w HV.out) ?_
  rintro _ W2 ⟨rfl, ch2⟩
  have zz2 := ch2.size
  exact rP 1 4 vT<|eN<|tR<|rt vT ⟨rfl, Chg.below0 (zA ch2 : Chg [] w W2)⟩
 refine bF 6 14 ((m : Int) > (2100 : Int))<|rP 7 15 vF<|eN<|cF<|wp_skip<|nxt<|sR<|nS 0 17 0 #[] 5 fun W3 hb1 ch3 sz1 => rP 1 18 (.slice B m d) ?_
 have ow1 := Mur.own8_empty hb1 (Nat.le_refl _)
 have kk3 : Chg [] w W3 := zA ch3
 refine rX 2 19 rfl rfl (ap8 m d ow1.own (byt_chg hbB kk3 (fun g off e hl => trivial)) hbn m b) ?_
 rintro _ W4 ⟨AA1, nn1, rfl, ow2, ch4, ha1⟩
 have zz4 := ch4.size
 have hq1 := ow2.nc
 have hq2 := ow2.cm
 refine rP 3 5 (.slice AA1 m nn1)<|eN<|sR<|rP 0 21 (.slice A n c)<|rP 1 22 (.slice AA1 m nn1) ?_
 have kk4 := Chg.step kk3 ch4 (newOr_blk (fun g hg => by have := ow1.lt g hg; omega))
 refine rK 2 23 (ReadF_any s A n c T b AA1 m nn1 W4 (HV.out.below (Chg.below0 kk4)) (byt_chg HBY.out kk4 (fun g off e hl => trivial)) ⟨by omega, by omega⟩ HA.out (by omega) hTs hTsl ow2.byt ⟨by omega, by omega⟩ ow2.nil) ?_
 rintro _ W5 ⟨FF1, ZZ1, er1, rfl, hLs1, hZin1, hc1, ch5⟩
 have zz5 := ch5.size
 rcases hc1 with ⟨rfl, htd1, hIn1⟩ | ⟨rfl, htd1, rfl⟩ | ⟨rfl, htd1, rfl⟩ | ⟨rfl, htd1, rfl⟩
 ·refine rP 3 20 (.tuple #[.agg ((frmP FF1 ZZ1).flatten.toArray), vI 0])<|rP 4 24 (.agg ((frmP FF1 ZZ1).flatten.toArray))<|rP 5 25 (vI 0)<|nW 6 6 ((frmh 0 0 0).flatten.toArray) 38 fun W6 hb2 ch6 sz2 => rU 7 rfl (sA (frmP FF1 ZZ1).flatten.toArray (frmL_size hIn1.sz) hb2 (frmL_size (frmL_sz rfl rfl rfl rfl rfl rfl))) fun W7 hb3 ch7 zz7 => rP 8 7 (vI 0)<|eN<|wp_seq<|sR<|rP 0 26 (.slice AA1 m nn1)<|rq 1 27 (.string (Mur.str b)) rfl (run_str 22 9 (.tmp 26) 5 rfl Tryz.underlying22 Tryz.underlying5 Tryz.underlying9 AA1 m nn1 b (by kernel_rfl) (oB (oA (oA ow2 ch5) ch6) ch7 ow2.lt).byt)<|rP 2 28 (.slice B m d) ?_
  have kk7 := kB (kA (kA kk4 ch5) ch6) ch7
  refine rq 3 29 (.string (Mur.str b)) rfl (run_str 22 9 (.tmp 28) 5 rfl Tryz.underlying22 Tryz.underlying5 Tryz.underlying9 B m d b (by kernel_rfl) (byt_chg hbB kk7 (fun g off e hl => trivial)))<|rq 4 30 _ rfl (dqF (fun h => h rfl) (Mur.strne 9 9 (.tmp 27) (.tmp 29) rfl b b (by kernel_rfl) (by kernel_rfl)))<|eN<|cF<|wp_skip<|nxt<|wp_seq<|sR<|rP 0 31 (vI 0)<|nF 1 32 (0 : Int) (0 : Int)<|eN<|cF<|wp_skip<|nxt<|wp_seq<|?_
  refine dReg ([]) (by kernel_rfl) ?_
  intro W8 ch8 sz3
  have zz8 := ch8.size
  have sS1 : Chg ([]) W8 W8 := (Chg.refl _).more (by simp)
  refine dV 0 59 _ rfl rfl (fun w' hw' => lA (qT hw' (qT ch8 hb3)) (frmL_size hIn1.sz)) sS1<|dO 1 ?_
  have kk10 := kA (kB (zA ch6 : Chg [] (W5) W6) ch7) ch8
  refine oK 60 (RMay25_any FF1 ZZ1 W8 (LiesF.chg hLs1 kk10 ⟨fun _ _ _ _ => trivial, fun _ _ _ _ => trivial, fun _ _ _ _ => trivial, fun _ _ _ _ => trivial, fun _ _ _ _ => trivial⟩) hIn1) ?_
  rintro _ W10 ⟨bv1, rfl, hif1, ch9⟩
  have zz9 := ch9.size
  obtain rfl : bv1 = true := hif1.2 (bytes_read htd1).1
  have sS2 := kA sS1 ch9
  refine aN sS2<|dW 2 61 vT sS2<|dW 3 62 (.slice A n c) sS2<|dV 4 63 _ rfl rfl (fun w' hw' => lA (qT hw' (qT ch8 hb3)) (frmL_size hIn1.sz)) sS2<|dW 7 66 (.slice B m d) sS2 ?_
  have kk11 := kA kk7 ch8
  refine dV 8 67 (.string (Mur.str b)) rfl rfl (fun w' hw' => run_str 22 9 (.tmp 66) 5 rfl Tryz.underlying22 Tryz.underlying5 Tryz.underlying9 B m d b (by kernel_rfl) (byt_chg (byt_chg hbB kk11 (fun g off e hl => trivial)) hw' (fun g off e hl => trivial))) sS2<|dO 5 ?_
  have kk12 := kA kk11 ch9
  refine oK 64 (RBytes25_any s A n c T FF1 ZZ1 W10 (HV.out.below (Chg.below0 kk12)) (byt_chg HBY.out kk12 (fun g off e hl => trivial)) ⟨by omega, by omega⟩ HA.out (by omega) hTs hTsl (LiesF.chg hLs1 (kA kk10 ch9) ⟨fun _ _ _ _ => trivial, fun _ _ _ _ => trivial, fun _ _ _ _ => trivial, fun _ _ _ _ => trivial, fun _ _ _ _ => trivial⟩) hIn1 (bytes_read htd1).1) ?_
  rintro _ W11 ⟨AA2, nn2, cc1, rfl, ow6, hle1, ch10⟩
  have zz10 := ch10.size
  have hq3 := ow6.nc
  have hq4 := ow6.cm
  have hq5 := ow6.byt.1
  have sS3 := kA sS2 ch10
  refine aN sS3<|dO 6 ?_
  refine Wk.oVal (some 65) (.string (Mur.str (bytesFM T FF1))) rfl rfl (by kernel_rfl) (run_str 22 9 (.tmp 64) 5 rfl Tryz.underlying22 Tryz.underlying5 Tryz.underlying9 AA2 nn2 cc1 (bytesFM T FF1) (by kernel_rfl) ow6.byt) ?_
  refine aN sS3<|dV 9 68 vT rfl rfl (fun w' hw' => dqT ((bytes_read htd1).2.1) (Mur.streq 9 9 (.tmp 65) (.tmp 67) rfl (bytesFM T FF1) b (by kernel_rfl) (by kernel_rfl))) sS3<|dW 10 69 vT sS3<|dW 11 70 vT sS3<|dO 12 ?_
  have kk14 := kA kk12 ch10
  refine oK 71 (Known25_any W11 (HV.out.below (Chg.below0 kk14))) ?_
  rintro _ W12 ⟨rfl, ch11⟩
  have zz11 := ch11.size
  have sS4 := kA sS3 ch11
  exact aN sS4<|dW 13 72 vT sS4<|dW 14 4 vT sS4<|dN<|wp_ret<|rt vT ⟨rfl, Chg.below0 (kA kk14 ch11)⟩
 ·refine rP 3 20 (.tuple #[.agg ((frmP (headM 0 0 0) ZZ1).flatten.toArray), vI 3])<|rP 4 24 (.agg ((frmP (headM 0 0 0) ZZ1).flatten.toArray))<|rP 5 25 (vI 3)<|nW 6 6 ((frmh 0 0 0).flatten.toArray) 38 fun W13 hb4 ch12 sz4 => rU 7 rfl (sA (frmP (headM 0 0 0) ZZ1).flatten.toArray (frmL_size (frmL_sz (frmIn_head 0 (by decide) (by decide)).ok.sum (frmIn_head 0 (by decide) (by decide)).ok.key (headM 0 0 0).att.hk (headM 0 0 0).att.hr (headM 0 0 0).att.ht (frmIn_head 0 (by decide) (by decide)).ok.root)) hb4 (frmL_size (frmL_sz rfl rfl rfl rfl rfl rfl))) fun W14 hb5 ch13 zz13 => rP 8 7 (vI 3)<|eN<|wp_seq<|sR<|rP 0 26 (.slice AA1 m nn1)<|rq 1 27 (.string (Mur.str b)) rfl (run_str 22 9 (.tmp 26) 5 rfl Tryz.underlying22 Tryz.underlying5 Tryz.underlying9 AA1 m nn1 b (by kernel_rfl) (oB (oA (oA ow2 ch5) ch12) ch13 ow2.lt).byt)<|rP 2 28 (.slice B m d) ?_
  have kk18 := kB (kA (kA kk4 ch5) ch12) ch13
  refine rq 3 29 (.string (Mur.str b)) rfl (run_str 22 9 (.tmp 28) 5 rfl Tryz.underlying22 Tryz.underlying5 Tryz.underlying9 B m d b (by kernel_rfl) (byt_chg hbB kk18 (fun g off e hl => trivial)))<|rq 4 30 _ rfl (dqF (fun h => h rfl) (Mur.strne 9 9 (.tmp 27) (.tmp 29) rfl b b (by kernel_rfl) (by kernel_rfl)))<|eN<|cF<|wp_skip<|nxt<|wp_seq<|sR<|rP 0 31 (vI 3)<|nT 1 32 (3 : Int) (0 : Int)<|eN<|cT<|sR<|rq 0 33 _ rfl (lA hb5 (frmL_size (frmL_sz (frmIn_head 0 (by decide) (by decide)).ok.sum (frmIn_head 0 (by decide) (by decide)).ok.key (headM 0 0 0).att.hk (headM 0 0 0).att.hr (headM 0 0 0).att.ht (frmIn_head 0 (by decide) (by decide)).ok.root)))<|rq 1 34 (.agg ((frmh 0 0 0).flatten.toArray)) rfl (run_built 38 _ rfl [] (by kernel_rfl) _ built_head0)<|rK 2 35 (Same25_any (headM 0 0 0) ZZ1 (headM 0 0 0) zs0 W14 (LiesF.chg hLs1 (kB (zA ch12 : Chg [] (W5) W13) ch13) ⟨fun _ _ _ _ => trivial, fun _ _ _ _ => trivial, fun _ _ _ _ => trivial, fun _ _ _ _ => trivial, fun _ _ _ _ => trivial⟩) (frmIn_head 0 (by decide) (by decide)) (lies_none rfl rfl rfl rfl rfl) (frmIn_head 0 (by decide) (by decide))) ?_
  rintro _ W15 ⟨bv2, rfl, hif2, ch14⟩
  have zz14 := ch14.size
  obtain rfl : bv2 = true := hif2.2 rfl
  refine rP 3 36 vT<|rP 4 37 (vI 3)<|eT 5 38 (3 : Int) (3 : Int)<|rP 6 39 (.slice B m d)<|rP 7 40 (vI m)<|rq 8 41 _ rfl (qboolT (b := decide ((m : Int) > (2000 : Int))) (decide_eq_true (by have q_ := Mur.read_long htd1; omega)))<|rP 9 42 vT<|rP 10 43 vT<|rP 11 44 vT<|rP 12 45 (vI 3)<|eT 13 46 (3 : Int) (3 : Int)<|rP 14 47 vT<|rZ 15 48<|rZ 16 49<|rP 17 50 vT<|rP 18 51 vT<|rZ 19 52<|rZ 20 53<|rP 21 54 vT<|rP 22 55 vT<|rP 23 56 vT ?_
  have kk21 := kA kk18 ch14
  refine rK 24 57 (Known25_any W15 (HV.out.below (Chg.below0 kk21))) ?_
  rintro _ W16 ⟨rfl, ch15⟩
  have zz15 := ch15.size
  exact rP 25 58 vT<|rP 26 4 vT<|eN<|tR<|rt vT ⟨rfl, Chg.below0 (kA kk21 ch15)⟩
 ·refine rP 3 20 (.tuple #[.agg ((frmP (headM 0 0 0) ZZ1).flatten.toArray), vI 5])<|rP 4 24 (.agg ((frmP (headM 0 0 0) ZZ1).flatten.toArray))<|rP 5 25 (vI 5)<|nW 6 6 ((frmh 0 0 0).flatten.toArray) 38 fun W17 hb6 ch16 sz5 => rU 7 rfl (sA (frmP (headM 0 0 0) ZZ1).flatten.toArray (frmL_size (frmL_sz (frmIn_head 0 (by decide) (by decide)).ok.sum (frmIn_head 0 (by decide) (by decide)).ok.key (headM 0 0 0).att.hk (headM 0 0 0).att.hr (headM 0 0 0).att.ht (frmIn_head 0 (by decide) (by decide)).ok.root)) hb6 (frmL_size (frmL_sz rfl rfl rfl rfl rfl rfl))) fun W18 hb7 ch17 zz17 => rP 8 7 (vI 5)<|eN<|wp_seq<|sR<|rP 0 26 (.slice AA1 m nn1)<|rq 1 27 (.string (Mur.str b)) rfl (run_str 22 9 (.tmp 26) 5 rfl Tryz.underlying22 Tryz.underlying5 Tryz.underlying9 AA1 m nn1 b (by kernel_rfl) (oB (oA (oA ow2 ch5) ch16) ch17 ow2.lt).byt)<|rP 2 28 (.slice B m d) ?_
  have kk25 := kB (kA (kA kk4 ch5) ch16) ch17
  refine rq 3 29 (.string (Mur.str b)) rfl (run_str 22 9 (.tmp 28) 5 rfl Tryz.underlying22 Tryz.underlying5 Tryz.underlying9 B m d b (by kernel_rfl) (byt_chg hbB kk25 (fun g off e hl => trivial)))<|rq 4 30 _ rfl (dqF (fun h => h rfl) (Mur.strne 9 9 (.tmp 27) (.tmp 29) rfl b b (by kernel_rfl) (by kernel_rfl)))<|eN<|cF<|wp_skip<|nxt<|wp_seq<|sR<|rP 0 31 (vI 5)<|nT 1 32 (5 : Int) (0 : Int)<|eN<|cT<|sR<|rq 0 33 _ rfl (lA hb7 (frmL_size (frmL_sz (frmIn_head 0 (by decide) (by decide)).ok.sum (frmIn_head 0 (by decide) (by decide)).ok.key (headM 0 0 0).att.hk (headM 0 0 0).att.hr (headM 0 0 0).att.ht (frmIn_head 0 (by decide) (by decide)).ok.root)))<|rq 1 34 (.agg ((frmh 0 0 0).flatten.toArray)) rfl (run_built 38 _ rfl [] (by kernel_rfl) _ built_head0)<|rK 2 35 (Same25_any (headM 0 0 0) ZZ1 (headM 0 0 0) zs0 W18 (LiesF.chg hLs1 (kB (zA ch16 : Chg [] (W5) W17) ch17) ⟨fun _ _ _ _ => trivial, fun _ _ _ _ => trivial, fun _ _ _ _ => trivial, fun _ _ _ _ => trivial, fun _ _ _ _ => trivial⟩) (frmIn_head 0 (by decide) (by decide)) (lies_none rfl rfl rfl rfl rfl) (frmIn_head 0 (by decide) (by decide))) ?_
  rintro _ W19 ⟨bv3, rfl, hif3, ch18⟩
  have zz18 := ch18.size
  obtain rfl : bv3 = true := hif3.2 rfl
  refine rP 3 36 vT<|rP 4 37 (vI 5)<|eF 5 38 (5 : Int) (3 : Int)<|rP 6 39 (.slice B m d)<|rP 7 40 (vI m)<|rq 8 41 _ rfl (qboolF (b := decide ((m : Int) > (2000 : Int))) (decide_eq_false (by have q_ := read_short htd1 (by intro q0_; cases q0_); omega)))<|rP 9 42 vT<|rP 10 43 vT<|rP 11 44 vT<|rP 12 45 (vI 5)<|eF 13 46 (5 : Int) (3 : Int)<|rP 14 47 vF<|rP 15 48 (vI 5)<|eT 16 49 (5 : Int) (5 : Int)<|rP 17 50 vT<|rP 18 51 vT<|rZ 19 52<|rZ 20 53<|rP 21 54 vT<|rP 22 55 vT<|rP 23 56 vT ?_
  have kk28 := kA kk25 ch18
  refine rK 24 57 (Known25_any W19 (HV.out.below (Chg.below0 kk28))) ?_
  rintro _ W20 ⟨rfl, ch19⟩
  have zz19 := ch19.size
  exact rP 25 58 vT<|rP 26 4 vT<|eN<|tR<|rt vT ⟨rfl, Chg.below0 (kA kk28 ch19)⟩
 refine rP 3 20 (.tuple #[.agg ((frmP (headM 0 0 0) ZZ1).flatten.toArray), vI 250])<|rP 4 24 (.agg ((frmP (headM 0 0 0) ZZ1).flatten.toArray))<|rP 5 25 (vI 250)<|nW 6 6 ((frmh 0 0 0).flatten.toArray) 38 fun W21 hb8 ch20 sz6 => rU 7 rfl (sA (frmP (headM 0 0 0) ZZ1).flatten.toArray (frmL_size (frmL_sz (frmIn_head 0 (by decide) (by decide)).ok.sum (frmIn_head 0 (by decide) (by decide)).ok.key (headM 0 0 0).att.hk (headM 0 0 0).att.hr (headM 0 0 0).att.ht (frmIn_head 0 (by decide) (by decide)).ok.root)) hb8 (frmL_size (frmL_sz rfl rfl rfl rfl rfl rfl))) fun W22 hb9 ch21 zz21 => rP 8 7 (vI 250)<|eN<|wp_seq<|sR<|rP 0 26 (.slice AA1 m nn1)<|rq 1 27 (.string (Mur.str b)) rfl (run_str 22 9 (.tmp 26) 5 rfl Tryz.underlying22 Tryz.underlying5 Tryz.underlying9 AA1 m nn1 b (by kernel_rfl) (oB (oA (oA ow2 ch5) ch20) ch21 ow2.lt).byt)<|rP 2 28 (.slice B m d) ?_
 have kk32 := kB (kA (kA kk4 ch5) ch20) ch21
 refine rq 3 29 (.string (Mur.str b)) rfl (run_str 22 9 (.tmp 28) 5 rfl Tryz.underlying22 Tryz.underlying5 Tryz.underlying9 B m d b (by kernel_rfl) (byt_chg hbB kk32 (fun g off e hl => trivial)))<|rq 4 30 _ rfl (dqF (fun h => h rfl) (Mur.strne 9 9 (.tmp 27) (.tmp 29) rfl b b (by kernel_rfl) (by kernel_rfl)))<|eN<|cF<|wp_skip<|nxt<|wp_seq<|sR<|rP 0 31 (vI 250)<|nT 1 32 (250 : Int) (0 : Int)<|eN<|cT<|sR<|rq 0 33 _ rfl (lA hb9 (frmL_size (frmL_sz (frmIn_head 0 (by decide) (by decide)).ok.sum (frmIn_head 0 (by decide) (by decide)).ok.key (headM 0 0 0).att.hk (headM 0 0 0).att.hr (headM 0 0 0).att.ht (frmIn_head 0 (by decide) (by decide)).ok.root)))<|rq 1 34 (.agg ((frmh 0 0 0).flatten.toArray)) rfl (run_built 38 _ rfl [] (by kernel_rfl) _ built_head0)<|rK 2 35 (Same25_any (headM 0 0 0) ZZ1 (headM 0 0 0) zs0 W22 (LiesF.chg hLs1 (kB (zA ch20 : Chg [] (W5) W21) ch21) ⟨fun _ _ _ _ => trivial, fun _ _ _ _ => trivial, fun _ _ _ _ => trivial, fun _ _ _ _ => trivial, fun _ _ _ _ => trivial⟩) (frmIn_head 0 (by decide) (by decide)) (lies_none rfl rfl rfl rfl rfl) (frmIn_head 0 (by decide) (by decide))) ?_
 rintro _ W23 ⟨bv4, rfl, hif4, ch22⟩
 have zz22 := ch22.size
 obtain rfl : bv4 = true := hif4.2 rfl
 refine rP 3 36 vT<|rP 4 37 (vI 250)<|eF 5 38 (250 : Int) (3 : Int)<|rP 6 39 (.slice B m d)<|rP 7 40 (vI m)<|rq 8 41 _ rfl (qboolF (b := decide ((m : Int) > (2000 : Int))) (decide_eq_false (by have q_ := read_short htd1 (by intro q0_; cases q0_); omega)))<|rP 9 42 vT<|rP 10 43 vT<|rP 11 44 vT<|rP 12 45 (vI 250)<|eF 13 46 (250 : Int) (3 : Int)<|rP 14 47 vF<|rP 15 48 (vI 250)<|eF 16 49 (250 : Int) (5 : Int)<|rP 17 50 vF<|rP 18 51 vF<|rP 19 52 (vI 250)<|eT 20 53 (250 : Int) (250 : Int)<|rP 21 54 vT<|rP 22 55 vT<|rP 23 56 vT ?_
 have kk35 := kA kk32 ch22
 refine rK 24 57 (Known25_any W23 (HV.out.below (Chg.below0 kk35))) ?_
 rintro _ W24 ⟨rfl, ch23⟩
 have zz23 := ch23.size
 exact rP 25 58 vT<|rP 26 4 vT<|eN<|tR<|rt vT ⟨rfl, Chg.below0 (kA kk35 ch23)⟩
end Go.Proofs.YtgbadghjnpbiaaaGreatDoor
