/- What the row rests on, part 14. -/
import Derived.Test.YtgbadghjnpbiaaaGreatDoorRG13
import Derived.Test.YtgbadghjnpbiaaaGreatDoorRG7
import Derived.Test.YtgbadghjnpbiaaaGreatDoorRG9
namespace Go.Proofs.YtgbadghjnpbiaaaGreatDoor
open Go.RowKit Wk
open Mur (b8s Byt Own8 Seg Segs flat cutA attC Att SlA OwnA rowA msgC LiesF frmP mayFM segs_cell frmL_sz mayFM_kind msgC_length segs_rng may_nG claimC_length z32 attC_length frmL_att b8s_length segs_row run_neq_dg may_none bareM mayFM_1 may_nR may_nA may_nC may_nP mayFM_2 mayFM_3 mayFM_4 mayFM_5 mayFM_6)
set_option maxRecDepth 100000
set_option maxHeartbeats 4000000
def RM25_F1 (b : Array Value) (u4 u5 : Value) : Act := sg 216 [(4, u4), (5, u5)] b
theorem RMay25_any (f : Mur.Frm) (z : Mur.Zs) (w : World) (hL : LiesF w z f) (hI : Mur.FrmIn f) : Calls Tryz.prog 10 #[.agg (frmP f z).flatten.toArray] w fun e w' => ∃ v, e = .returned (.bool v) ∧ (v = true ↔ mayFM f) ∧ Chg [] w w' := by
 have hLin_ : z.In fun g => g < w.heap.size → Wk.Off g [] := ⟨fun _ _ _ _ => trivial, fun _ _ _ _ => trivial, fun _ _ _ _ => trivial, fun _ _ _ _ => trivial, fun _ _ _ _ => trivial⟩
 have hLunc_ := hL.nu.nc
 have hLucm_ := hL.nu.cm
 have hLpnc_ := hL.np.nc
 have hLpcm_ := hL.np.cm
 have hLinc_ := hL.ni.nc
 have hLicm_ := hL.ni.cm
 have hLync_ := hL.ny.nc
 have hLycm_ := hL.ny.cm
 have hLfnc_ := hL.nf.nc
 have hLfcm_ := hL.nf.cm
 have hbl_ := hL.byt.1
 have hfl_ := hL.prf.len
 rw [List.length_map] at hfl_
 have hul_ := hL.upd.len
 rw [List.length_map] at hul_
 have hk8_ := f.pKind.toNat_lt
 refine calls_of_wp Tryz.func10 rfl ?_
 refine sR<|nW 0 1 ((frmP f z).flatten.toArray) 38 fun W1 hb1 ch1 sz1 => rP 1 2 vF<|eN<|wp_seq<|sR<|rP 0 7 (pw w 1)<|rF 1 8 1 (vI f.frm) hI.sz hb1 1<|rK 2 9 (RNode_any f.frm W1) ?_
 by_cases hpr1 : (0 : Int) ≤ f.frm ∧ f.frm < (16 : Int)
 ·rw [decide_eq_true hpr1]
  rintro _ W2 ⟨rfl, ch2⟩
  have zz2 := ch2.size
  refine rP 3 10 vF<|rP 4 11 vF<|rP 5 12 (pw w 2)<|rF 6 13 2 (vI f.dst) hI.sz (qT ch2 hb1) 2<|rK 7 14 (RNode_any f.dst W2) ?_
  by_cases hpr2 : (0 : Int) ≤ f.dst ∧ f.dst < (16 : Int)
  ·rw [decide_eq_true hpr2]
   rintro _ W3 ⟨rfl, ch3⟩
   have zz3 := ch3.size
   refine rP 8 15 vF<|rP 9 16 vF<|rP 10 17 vF<|rP 11 18 (pw w 1)<|rF 12 19 1 (vI f.frm) hI.sz (qT ch3 (qT ch2 hb1)) 1<|rP 13 20 (pw w 2)<|rF 14 21 2 (vI f.dst) hI.sz (qT ch3 (qT ch2 hb1)) 2 ?_
   by_cases hx1 : f.frm = f.dst
   ·exact eT 15 22 f.frm f.dst<|mV 216 11 16 [(17, vF), (22, vT)] 33 vT fun _ => eN<|cT<|sR<|rP 0 2 vF<|eN<|tR<|rt vF (noB (fun h_ => (by have q1_ := mayFM_kind h_; have q2_ := h_.2.2.1; omega)) (kA (kA (zA ch1 : Chg [] w W1) ch2) ch3))
   refine eF 15 22 f.frm f.dst<|rP 16 23 vF<|rP 17 24 vF<|rP 18 25 (pw w 0)<|rF 19 26 0 (vB f.kind.toNat) hI.sz (qT ch3 (qT ch2 hb1)) 0 ?_
   by_cases hx2 : (f.kind.toNat : Int) < (1 : Int)
   ·exact bT 20 27 ((f.kind.toNat : Int) < (1 : Int))<|mV 216 6 21 [(24, vF), (27, vT)] 33 vT fun _ => eN<|cT<|sR<|rP 0 2 vF<|eN<|tR<|rt vF (noB (fun h_ => (by have q1_ := mayFM_kind h_; have q2_ := h_.2.2.1; omega)) (kA (kA (zA ch1 : Chg [] w W1) ch2) ch3))
   refine bF 20 27 ((f.kind.toNat : Int) < (1 : Int))<|rP 21 28 vF<|rP 22 29 vF<|rP 23 30 (pw w 0)<|rF 24 31 0 (vB f.kind.toNat) hI.sz (qT ch3 (qT ch2 hb1)) 0 ?_
   by_cases hx3 : (f.kind.toNat : Int) > (6 : Int)
   ·exact bT 25 32 ((f.kind.toNat : Int) > (6 : Int))<|rP 26 33 vT<|eN<|cT<|sR<|rP 0 2 vF<|eN<|tR<|rt vF (noB (fun h_ => (by have q1_ := mayFM_kind h_; have q2_ := h_.2.2.1; omega)) (kA (kA (zA ch1 : Chg [] w W1) ch2) ch3))
   refine bF 25 32 ((f.kind.toNat : Int) > (6 : Int))<|rP 26 33 vF<|eN<|cF<|wp_skip<|nxt<|sR<|rP 0 34 (pw w 0)<|rF 1 35 0 (vB f.kind.toNat) hI.sz (qT ch3 (qT ch2 hb1)) 0<|rP 2 3 (vB f.kind.toNat)<|eN<|wp_seq<|sR<|?_
   have hk6_ : f.kind.toNat = 1 ∨ f.kind.toNat = 2 ∨ f.kind.toNat = 3 ∨ f.kind.toNat = 4 ∨ f.kind.toNat = 5 ∨ f.kind.toNat = 6 := by omega
   rcases hk6_ with hk6_ | hk6_ | hk6_ | hk6_ | hk6_ | hk6_
   ·have hkk_ : f.kind = 1 := kI 1
    refine rP 0 36 (vB f.kind.toNat)<|nF 1 37 (f.kind.toNat : Int) (1 : Int)<|rP 2 38 vF<|rZ 3 39<|rZ 4 40<|rZ 5 41<|rZ 6 42<|rP 7 43 vF<|rP 8 44 vF<|rP 9 45 (vB f.kind.toNat)<|nT 10 46 (f.kind.toNat : Int) (2 : Int)<|rP 11 47 vT<|rP 12 48 (pw w 8)<|rq 13 49 _ rfl (lR 8 (Mur.msgC f.gos.kind z.p.A z.p.n z.p.c f.gos.sum f.gos.cnt z.i.A z.i.n z.i.c f.gos.ans) (sgR hI.sz (qT ch3 (qT ch2 hb1)) 8 6 rfl) (by rw [msgC_length hI.ok.sum]; kernel_rfl)) ?_
    have kk12 := kA (kA (zA ch1 : Chg [] w W1) ch2) ch3
    refine rK 14 50 (RNoG_any f.gos.kind f.gos.pre z.p.A z.p.n z.p.c f.gos.sum f.gos.cnt f.gos.items z.i.A z.i.n z.i.c f.gos.ans W3 hI.ok.sum (LiesF.chg hL kk12 hLin_).pre (LiesF.chg hL kk12 hLin_).its (by omega) (by omega)) ?_
    rintro _ W4 ⟨bv1, rfl, hif1, ch4⟩
    have zz4 := ch4.size
    cases bv1
    ·exact rP 15 51 vT<|mV 216 22 16 [(44, vF), (47, vT), (51, vT)] 73 vT fun _ => eN<|cT<|sR<|rP 0 2 vF<|eN<|tR<|rt vF (noB (fun h_ => absurd (may_nG h_ (by omega)) (fun q_ => Bool.noConfusion (hif1.2 q_))) (kA kk12 ch4))
    refine rP 15 51 vF<|rP 16 52 vF<|rP 17 53 vF<|rP 18 54 vF<|rP 19 55 (vB f.kind.toNat)<|nT 20 56 (f.kind.toNat : Int) (3 : Int)<|rP 21 57 vT<|rP 22 58 (pw w 45)<|rq 23 59 _ rfl (lR 45 (Mur.claimC f.cKey f.cNode f.cInc f.cCnt f.cGone) (sgR hI.sz (qT ch4 (qT ch3 (qT ch2 hb1))) 14 5 rfl) (by rw [claimC_length hI.ok.key]; kernel_rfl))<|rP 24 60 (.agg #[vB 0, vB 0, vB 0, vB 0, vB 0, vB 0, vB 0, vB 0, vB 0, vB 0, vB 0, vB 0, vB 0, vB 0, vB 0, vB 0, vB 0, vB 0, vB 0, vB 0, vB 0, vB 0, vB 0, vB 0, vB 0, vB 0, vB 0, vB 0, vB 0, vB 0, vB 0, vB 0, vI 0, vU 0, vU 0, vF]) ?_
    by_cases hpr3 : f.cKey = z32 ∧ f.cNode = 0 ∧ f.cInc = 0 ∧ f.cCnt = 0 ∧ f.cGone = false
    ·refine rq 25 61 _ rfl (nqF hpr3 (run_neq_claim (ck' := z32) (cn' := 0) (ci' := 0) (cc' := 0) (cg' := false) (.tmp 59) (.tmp 60) 33 rfl hI.ok.key rfl (wf64 hI.cNo.1 hI.cNo.2) (wf64 (by decide) (by decide)) hI.ok.inc (by decide) hI.ok.cnt (by decide) (by kernel_rfl) (by kernel_rfl)))<|rP 26 62 vF<|rP 27 63 vF<|rP 28 64 vF<|rP 29 65 (vB f.kind.toNat)<|nT 30 66 (f.kind.toNat : Int) (4 : Int)<|rP 31 67 vT<|rP 32 68 (pw w 81)<|rq 33 69 _ rfl (lR 81 (Mur.attC f.att.k f.att.r f.att.n f.att.t) (sgR hI.sz (qT ch4 (qT ch3 (qT ch2 hb1))) 19 4 frmL_att) (by rw [attC_length f.att.hk f.att.hr f.att.ht]; kernel_rfl))<|rP 34 70 (.agg ((Mur.attC z32 z32 0 z32).toArray)) ?_
     by_cases hpr4 : f.att = Mur.attNone
     ·refine rq 35 71 _ rfl (nqF ((Mur.Att.eq_iff f.att Mur.attNone).1 hpr4) (run_neq_att (.tmp 69) (.tmp 70) 35 rfl f.att.hk f.att.hr f.att.ht Mur.attNone.hk Mur.attNone.hr Mur.attNone.ht f.att.hn Mur.attNone.hn (by kernel_rfl) (by kernel_rfl)))<|rP 36 72 vF<|rP 37 73 vF<|eN<|cF<|wp_skip<|nxt<|wp_seq<|sR<|rP 0 74 (vB f.kind.toNat)<|bT 1 75 ((f.kind.toNat : Int) < (5 : Int))<|rP 2 76 vT<|rP 3 77 (pw w 178)<|rq 4 78 _ rfl (lR 178 (b8s f.root) (sgW hI.sz (qT ch4 (qT ch3 (qT ch2 hb1))) 23) (by rw [b8s_length, hI.ok.root]; kernel_rfl))<|rP 5 79 (.agg ((b8s [0, 0, 0, 0, 0, 0, 0, 0, 0, 0, 0, 0, 0, 0, 0, 0, 0, 0, 0, 0, 0, 0, 0, 0, 0, 0, 0, 0, 0, 0, 0, 0]).toArray)) ?_
      by_cases hpr5 : f.root = z32
      ·refine rq 6 80 _ rfl (nqF hpr5 (run_neq_dg digT f.root z32 hI.ok.root rfl _ (.tmp 78) (.tmp 79) 28 rfl (by kernel_rfl) (by kernel_rfl)))<|rP 7 81 vF<|rP 8 82 (pw w 210)<|rF 9 83 210 (vI f.chunk) hI.sz (qT ch4 (qT ch3 (qT ch2 hb1))) 24 ?_
       by_cases hx4 : f.chunk ≠ (0 : Int)
       ·exact nT 10 84 f.chunk (0 : Int)<|mV 216 18 11 [(76, vT), (81, vF), (84, vT)] 102 vT fun _ => eN<|cT<|sR<|rP 0 2 vF<|eN<|tR<|rt vF (noB (fun h_ => (by have q_ := may_none h_; omega)) (kA kk12 ch4))
       refine nF 10 84 f.chunk (0 : Int)<|rP 11 85 vF<|rP 12 86 vF<|rP 13 87 vF<|rP 14 88 (vB f.kind.toNat)<|nT 15 89 (f.kind.toNat : Int) (6 : Int)<|rP 16 90 vT<|rP 17 91 (pw w 211)<|rF 18 92 211 (.slice z.y.A z.y.n z.y.c) hI.sz (qT ch4 (qT ch3 (qT ch2 hb1))) 25<|rP 19 93 (vI z.y.n) ?_
       by_cases hx5 : (z.y.n : Int) > (0 : Int)
       ·exact bT 20 94 ((z.y.n : Int) > (0 : Int))<|mV 216 8 21 [(90, vT), (94, vT), (87, vF)] 102 vT fun _ => eN<|cT<|sR<|rP 0 2 vF<|eN<|tR<|rt vF (noB (fun h_ => (by have q_ := may_none h_; omega)) (kA kk12 ch4))
       refine bF 20 94 ((z.y.n : Int) > (0 : Int))<|rP 21 95 vF<|rP 22 96 (pw w 212)<|rF 23 97 212 (.slice z.f.A z.f.n z.f.c) hI.sz (qT ch4 (qT ch3 (qT ch2 hb1))) 26<|rP 24 98 (vI z.f.n) ?_
       by_cases hx6 : (z.f.n : Int) > (0 : Int)
       ·exact bT 25 99 ((z.f.n : Int) > (0 : Int))<|rP 26 100 vT<|rP 27 101 vT<|rP 28 102 vT<|eN<|cT<|sR<|rP 0 2 vF<|eN<|tR<|rt vF (noB (fun h_ => (by have q_ := may_none h_; omega)) (kA kk12 ch4))
       refine bF 25 99 ((z.f.n : Int) > (0 : Int))<|rP 26 100 vF<|rP 27 101 vF<|rP 28 102 vF<|eN<|cF<|wp_skip<|nxt<|wp_seq<|sR<|?_
       have hbare_ : f = bareM f := Mur.eq_bare (fun h_ => absurd hkk_ h_) (fun _ => (hif1.1 rfl)) (fun _ => hpr3) (fun _ => hpr4) (fun _ _ => ⟨hpr5, by omega⟩) (fun _ => ⟨List.eq_nil_of_length_eq_zero (by omega), List.eq_nil_of_length_eq_zero (by omega)⟩)
       refine rP 0 103 (vB f.kind.toNat)<|eN<|wp_block<|sR<|eT 0 105 (f.kind.toNat : Int) (1 : Int)<|rP 1 104 vT<|eN<|cT<|sR<|rP 0 106 (pw w 3)<|rq 1 107 _ rfl (lR 3 [vI f.pTo, vB f.pKind.toNat, vU f.pSeq, vI f.pAbout, .slice z.u.A z.u.n z.u.c] (sgR hI.sz (qT ch4 (qT ch3 (qT ch2 hb1))) 3 5 rfl))<|nW 2 4 #[vI 0, vB 0, vU 0, vI 0, .slice none 0 0] 26 fun W5 hb2 ch5 sz2 => rU 3 rfl (Wk.storeR 26 (.tmp 4) (.tmp 107) rfl W4.heap.size 0 (by kernel_rfl) ([vI f.pTo, vB f.pKind.toNat, vU f.pSeq, vI f.pAbout, .slice z.u.A z.u.n z.u.c]) (by kernel_rfl) (by kernel_rfl) (by intro v hv; simp at hv; rcases hv with h | h | h | h | h <;> (subst h; rfl)) 26 ([vI 0, vB 0, vU 0, vI 0, .slice none 0 0]) hb2 (by simp)) fun W6 hb3 ch6 _ => ?_
       replace hb3 : W6.heap[W4.heap.size]? = some (.cells #[vI f.pTo, vB f.pKind.toNat, vU f.pSeq, vI f.pAbout, .slice z.u.A z.u.n z.u.c] 26 (0, 0)) := hb3
       have zz6 := ch6.size
       refine eN<|wp_seq<|sR<|rP 0 108 (pw W4 0)<|rL 1 109 0 (vI f.pTo) hb3<|rP 2 110 (pw w 2)<|rF 3 111 2 (vI f.dst) hI.sz (qO ch6 (qT ch5 (qT ch4 (qT ch3 (qT ch2 hb1))))) 2 ?_
       by_cases hx7 : f.pTo ≠ f.dst
       ·refine nT 4 112 f.pTo f.dst<|mV 216 22 5 [(112, vT)] 134 vT fun _ => eN<|cT<|sR<|rP 0 2 vF<|eN<|tR<|inR<|thR<|?_
        have hM_ : mayFM f ↔ Mur.mayK1 f := mayFM_1 ⟨hpr1, hpr2, by omega, hbare_⟩ hkk_
        exact rt vF (noB (fun h_ => absurd (hM_.1 h_) (fun ⟨q1_, q2_, q3_, q4_, q5_⟩ => by omega)) (kB (kA (kA kk12 ch4) ch5) ch6))
       refine nF 4 112 f.pTo f.dst<|rP 5 113 vF<|rP 6 114 (pw W4 1)<|rL 7 115 1 (vB f.pKind.toNat) hb3 ?_
       by_cases hx8 : (f.pKind.toNat : Int) < (1 : Int)
       ·refine bT 8 116 ((f.pKind.toNat : Int) < (1 : Int))<|mV 216 18 9 [(113, vF), (116, vT)] 134 vT fun _ => eN<|cT<|sR<|rP 0 2 vF<|eN<|tR<|inR<|thR<|?_
        have hM_ : mayFM f ↔ Mur.mayK1 f := mayFM_1 ⟨hpr1, hpr2, by omega, hbare_⟩ hkk_
        exact rt vF (noB (fun h_ => absurd (hM_.1 h_) (fun ⟨q1_, q2_, q3_, q4_, q5_⟩ => by omega)) (kB (kA (kA kk12 ch4) ch5) ch6))
       refine bF 8 116 ((f.pKind.toNat : Int) < (1 : Int))<|rP 9 117 vF<|rP 10 118 vF<|rP 11 119 (pw W4 1)<|rL 12 120 1 (vB f.pKind.toNat) hb3 ?_
       by_cases hx9 : (f.pKind.toNat : Int) > (3 : Int)
       ·refine bT 13 121 ((f.pKind.toNat : Int) > (3 : Int))<|mV 216 13 14 [(118, vF), (121, vT)] 134 vT fun _ => eN<|cT<|sR<|rP 0 2 vF<|eN<|tR<|inR<|thR<|?_
        have hM_ : mayFM f ↔ Mur.mayK1 f := mayFM_1 ⟨hpr1, hpr2, by omega, hbare_⟩ hkk_
        exact rt vF (noB (fun h_ => absurd (hM_.1 h_) (fun ⟨q1_, q2_, q3_, q4_, q5_⟩ => by omega)) (kB (kA (kA kk12 ch4) ch5) ch6))
       refine bF 13 121 ((f.pKind.toNat : Int) > (3 : Int))<|rP 14 122 vF<|rP 15 123 vF<|rP 16 124 (pw W4 3)<|rL 17 125 3 (vI f.pAbout) hb3<|rK 18 126 (RNode_any f.pAbout W6) ?_
       by_cases hpr6 : (0 : Int) ≤ f.pAbout ∧ f.pAbout < (16 : Int)
       ·rw [decide_eq_true hpr6]
        rintro _ W7 ⟨rfl, ch7⟩
        have zz7 := ch7.size
        refine rP 19 127 vF<|rP 20 128 vF<|rP 21 129 vF<|rP 22 130 (pw W4 4)<|rL 23 131 4 (.slice z.u.A z.u.n z.u.c) (qT ch7 hb3)<|rP 24 132 (vI z.u.n) ?_
        by_cases hx10 : (z.u.n : Int) > (8 : Int)
        ·refine bT 25 133 ((z.u.n : Int) > (8 : Int))<|rP 26 134 vT<|eN<|cT<|sR<|rP 0 2 vF<|eN<|tR<|inR<|thR<|?_
         have hM_ : mayFM f ↔ Mur.mayK1 f := mayFM_1 ⟨hpr1, hpr2, by omega, hbare_⟩ hkk_
         exact rt vF (noB (fun h_ => absurd (hM_.1 h_) (fun ⟨q1_, q2_, q3_, q4_, q5_⟩ => by omega)) (kA (kB (kA (kA kk12 ch4) ch5) ch6) ch7))
        refine bF 25 133 ((z.u.n : Int) > (8 : Int))<|rP 26 134 vF<|eN<|cF<|wp_skip<|nxt<|wp_seq<|sR<|rP 0 5 (vI 0)<|eN<|wp_block<|?_
        refine Wk.loop (fun m_ a wr => ∃ (i : Nat), m_ = z.u.n - i ∧ a = RM25_F1 a.tmps (pw W4 0) (vI i) ∧ i ≤ z.u.n ∧ (∀ y, y ∈ f.pUpd.take i → Mur.goodU y) ∧ wr.heap[w.heap.size]? = some (.cells (frmP f z).flatten.toArray 38 (0, 0)) ∧ wr.heap[W4.heap.size]? = some (.cells #[vI f.pTo, vB f.pKind.toNat, vU f.pSeq, vI f.pAbout, .slice z.u.A z.u.n z.u.c] 26 (0, 0)) ∧ Chg [] w wr) (z.u.n - 0) ?_ ?_
        ·have kk30 := kA kk12 ch4
         refine ⟨0, rfl, by kernel_rfl, (by omega), (by simp), (qT ch7 (qO ch6 (qT ch5 (qT ch4 (qT ch3 (qT ch2 hb1)))))), (qT ch7 hb3), (kA (kB (kA kk30 ch5) ch6) ch7)⟩
        rintro mm1 aa1 W8 ⟨i, hmm1, hF1, hi, hgd, hbx0, hbx1, HB⟩
        generalize aa1.tmps = bb9 at hF1
        subst hF1
        have hzB := HB.size
        have hbs0_ := (Array.getElem?_eq_some_iff.1 hbx0).1
        have hbs1_ := (Array.getElem?_eq_some_iff.1 hbx1).1
        by_cases hlt : i < z.u.n
        ·obtain ⟨x, hx⟩ : ∃ x_, f.pUpd[i]? = some x_ := ⟨_, List.getElem?_eq_getElem (by omega)⟩
         obtain ⟨g1, o1, hA1_, hr1⟩ := hL.upd.row (Mur.map_at Mur.updC hx) (by decide)
         have hx8_ := x.2.1.toNat_lt
         refine wp_seq<|sR<|rP 0 135 (vI i)<|rP 1 136 (pw W4 4)<|rL 2 137 4 (.slice z.u.A z.u.n z.u.c) hbx1<|rP 3 138 (vI z.u.n)<|bT 4 139 ((i : Int) < (z.u.n : Int))<|eN<|cT<|wp_skip<|nxt<|wp_seq<|wp_block<|sR<|rP 0 142 (pw W4 4)<|rL 1 143 4 (.slice z.u.A z.u.n z.u.c) hbx1<|rP 2 144 (vI i)<|rq 3 145 (pt g1 (o1 + i * 3)) rfl (index_sl 24 61 (.tmp 143) (.tmp 144) rfl Tryz.underlying24 3 (by kernel_rfl) g1 o1 z.u.n z.u.c i .i64 (by rw [← hA1_]; kernel_rfl) (by kernel_rfl) (by omega))<|rq 4 146 _ rfl (lR (o1 + i * 3) ([vI x.1, vB x.2.1.toNat, vU x.2.2]) (Chg.range HB hr1 trivial))<|nW 5 6 #[vI 0, vB 0, vU 0] 61 fun W10 hb4 ch8 sz3 => rU 6 rfl (Wk.storeR 61 (.tmp 6) (.tmp 146) rfl W8.heap.size 0 (by kernel_rfl) ([vI x.1, vB x.2.1.toNat, vU x.2.2]) (by kernel_rfl) (by kernel_rfl) (by intro v hv; simp at hv; rcases hv with h | h | h <;> (subst h; rfl)) 61 ([vI 0, vB 0, vU 0]) hb4 (by simp)) fun W11 hb5 ch9 _ => ?_
         replace hb5 : W11.heap[W8.heap.size]? = some (.cells #[vI x.1, vB x.2.1.toNat, vU x.2.2] 61 (0, 0)) := hb5
         have zz9 := ch9.size
         refine eN<|sR<|rP 0 147 (pw W8 0)<|rL 1 148 0 (vI x.1) hb5<|rK 2 149 (RNode_any x.1 W11) ?_
         by_cases hpr7 : (0 : Int) ≤ x.1 ∧ x.1 < (16 : Int)
         ·rw [decide_eq_true hpr7]
          rintro _ W12 ⟨rfl, ch10⟩
          have zz10 := ch10.size
          refine rP 3 150 vF<|rP 4 151 vF<|rP 5 152 (pw W8 1)<|rL 6 153 1 (vB x.2.1.toNat) (qT ch10 hb5) ?_
          by_cases hx11 : (x.2.1.toNat : Int) < (1 : Int)
          ·refine bT 7 154 ((x.2.1.toNat : Int) < (1 : Int))<|mV 216 11 8 [(151, vF), (154, vT)] 165 vT fun _ => eN<|cT<|sR<|rP 0 2 vF<|eN<|tI<|thR<|inR<|thR<|inR<|thR<|?_
           have hM_ : mayFM f ↔ Mur.mayK1 f := mayFM_1 ⟨hpr1, hpr2, by omega, hbare_⟩ hkk_
           exact rt vF (noB (fun h_ => absurd (hM_.1 h_) (fun ⟨q1_, q2_, q3_, q4_, q5_⟩ => by have q6_ := (q5_ x (List.mem_of_getElem? hx)).2; have q7_ := q6_.1; have q8_ := q6_.2; omega)) (kA (kB (kA HB ch8) ch9) ch10))
          refine bF 7 154 ((x.2.1.toNat : Int) < (1 : Int))<|rP 8 155 vF<|rP 9 156 vF<|rP 10 157 (pw W8 1)<|rL 11 158 1 (vB x.2.1.toNat) (qT ch10 hb5) ?_
          by_cases hx12 : (x.2.1.toNat : Int) > (3 : Int)
          ·refine bT 12 159 ((x.2.1.toNat : Int) > (3 : Int))<|mV 216 6 13 [(156, vF), (159, vT)] 165 vT fun _ => eN<|cT<|sR<|rP 0 2 vF<|eN<|tI<|thR<|inR<|thR<|inR<|thR<|?_
           have hM_ : mayFM f ↔ Mur.mayK1 f := mayFM_1 ⟨hpr1, hpr2, by omega, hbare_⟩ hkk_
           exact rt vF (noB (fun h_ => absurd (hM_.1 h_) (fun ⟨q1_, q2_, q3_, q4_, q5_⟩ => by have q6_ := (q5_ x (List.mem_of_getElem? hx)).2; have q7_ := q6_.1; have q8_ := q6_.2; omega)) (kA (kB (kA HB ch8) ch9) ch10))
          refine bF 12 159 ((x.2.1.toNat : Int) > (3 : Int))<|rP 13 160 vF<|rP 14 161 vF<|rP 15 162 (pw W8 2)<|rL 16 163 2 (vU x.2.2) (qT ch10 hb5) ?_
          by_cases hx13 : (x.2.2 : Int) > (1099511627776 : Int)
          ·refine bT 17 164 ((x.2.2 : Int) > (1099511627776 : Int))<|rP 18 165 vT<|eN<|cT<|sR<|rP 0 2 vF<|eN<|tI<|thR<|inR<|thR<|inR<|thR<|?_
           have hM_ : mayFM f ↔ Mur.mayK1 f := mayFM_1 ⟨hpr1, hpr2, by omega, hbare_⟩ hkk_
           exact rt vF (noB (fun h_ => absurd (hM_.1 h_) (fun ⟨q1_, q2_, q3_, q4_, q5_⟩ => by have q6_ := (q5_ x (List.mem_of_getElem? hx)).2; have q7_ := q6_.1; have q8_ := q6_.2; omega)) (kA (kB (kA HB ch8) ch9) ch10))
          refine bF 17 164 ((x.2.2 : Int) > (1099511627776 : Int))<|rP 18 165 vF<|eN<|cF<|wp_skip<|inN<|nxt<|reg<|rP 0 140 (vI i)<|rI 1 141 ((i : Int) + 1) (((i + 1 : Nat) : Int))<|rP 2 5 (vI (i + 1 : Nat))<|eN<|?_
          refine ⟨_, ?_, i + 1, rfl, by kernel_rfl, (by omega), (fun y_ hy_ => by rw [Mur.take_sn hx] at hy_; rcases List.mem_append.1 hy_ with h1_ | h1_ <;> first | exact hgd y_ h1_ | (rw [List.mem_singleton.1 h1_]; exact ⟨hpr7, ⟨by omega, by omega⟩, by omega⟩)), (qT ch10 (qO ch9 (qT ch8 hbx0))), (qT ch10 (qO ch9 (qT ch8 hbx1))), (kA (kB (kA HB ch8) ch9) ch10)⟩
          omega
         rw [decide_eq_false hpr7]
         rintro _ W13 ⟨rfl, ch11⟩
         have zz11 := ch11.size
         refine rP 3 150 vT<|mV 216 15 4 [(150, vT)] 165 vT fun _ => eN<|cT<|sR<|rP 0 2 vF<|eN<|tI<|thR<|inR<|thR<|inR<|thR<|?_
         have hM_ : mayFM f ↔ Mur.mayK1 f := mayFM_1 ⟨hpr1, hpr2, by omega, hbare_⟩ hkk_
         exact rt vF (noB (fun h_ => absurd (hM_.1 h_) (fun ⟨q1_, q2_, q3_, q4_, q5_⟩ => hpr7 (q5_ x (List.mem_of_getElem? hx)).1)) (kA (kB (kA HB ch8) ch9) ch11))
        rw [List.take_of_length_le (show f.pUpd.length ≤ i by omega)] at hgd
        refine wp_seq<|sR<|rP 0 135 (vI i)<|rP 1 136 (pw W4 4)<|rL 2 137 4 (.slice z.u.A z.u.n z.u.c) hbx1<|rP 3 138 (vI z.u.n)<|bF 4 139 ((i : Int) < (z.u.n : Int))<|eN<|cF<|xX<|nxt<|sR<|rP 0 2 vT<|eN<|tI<|?_
        have hM_ : mayFM f ↔ Mur.mayK1 f := mayFM_1 ⟨hpr1, hpr2, by omega, hbare_⟩ hkk_
        exact rt vT (yesB (hM_.2 ⟨by omega, by omega, hpr6, by omega, hgd⟩) HB)
       rw [decide_eq_false hpr6]
       rintro _ W14 ⟨rfl, ch12⟩
       have zz12 := ch12.size
       refine rP 19 127 vT<|mV 216 7 20 [(123, vF), (127, vT)] 134 vT fun _ => eN<|cT<|sR<|rP 0 2 vF<|eN<|tR<|inR<|thR<|?_
       have hM_ : mayFM f ↔ Mur.mayK1 f := mayFM_1 ⟨hpr1, hpr2, by omega, hbare_⟩ hkk_
       exact rt vF (noB (fun h_ => absurd (hM_.1 h_) (fun ⟨q1_, q2_, q3_, q4_, q5_⟩ => hpr6 q3_)) (kA (kB (kA (kA kk12 ch4) ch5) ch6) ch12))
      exact rq 6 80 _ rfl (nqT hpr5 (run_neq_dg digT f.root z32 hI.ok.root rfl _ (.tmp 78) (.tmp 79) 28 rfl (by kernel_rfl) (by kernel_rfl)))<|mV 216 22 7 [(76, vT), (80, vT)] 102 vT fun _ => eN<|cT<|sR<|rP 0 2 vF<|eN<|tR<|rt vF (noB (fun h_ => absurd (may_nR h_ (by omega)) hpr5) (kA kk12 ch4))
     exact rq 35 71 _ rfl (nqT (fun q_ => hpr4 ((Mur.Att.eq_iff f.att Mur.attNone).2 q_)) (run_neq_att (.tmp 69) (.tmp 70) 35 rfl f.att.hk f.att.hr f.att.ht Mur.attNone.hk Mur.attNone.hr Mur.attNone.ht f.att.hn Mur.attNone.hn (by kernel_rfl) (by kernel_rfl)))<|rP 36 72 vT<|rP 37 73 vT<|eN<|cT<|sR<|rP 0 2 vF<|eN<|tR<|rt vF (noB (fun h_ => absurd (may_nA h_ (by omega)) hpr4) (kA kk12 ch4))
    exact rq 25 61 _ rfl (nqT hpr3 (run_neq_claim (ck' := z32) (cn' := 0) (ci' := 0) (cc' := 0) (cg' := false) (.tmp 59) (.tmp 60) 33 rfl hI.ok.key rfl (wf64 hI.cNo.1 hI.cNo.2) (wf64 (by decide) (by decide)) hI.ok.inc (by decide) hI.ok.cnt (by decide) (by kernel_rfl) (by kernel_rfl)))<|mV 216 12 26 [(54, vF), (57, vT), (61, vT)] 73 vT fun _ => eN<|cT<|sR<|rP 0 2 vF<|eN<|tR<|rt vF (noB (fun h_ => absurd (may_nC h_ (by omega)) hpr3) (kA kk12 ch4))
   ·have hkk_ : f.kind = 2 := kI 2
    refine rP 0 36 (vB f.kind.toNat)<|nT 1 37 (f.kind.toNat : Int) (1 : Int)<|rP 2 38 vT<|rP 3 39 (pw w 3)<|rq 4 40 _ rfl (lR 3 [vI f.pTo, vB f.pKind.toNat, vU f.pSeq, vI f.pAbout, .slice z.u.A z.u.n z.u.c] (sgR hI.sz (qT ch3 (qT ch2 hb1)) 3 5 rfl)) ?_
    have kk58 := kA (kA (zA ch1 : Chg [] w W1) ch2) ch3
    refine rK 5 41 (RNoP_any f z W3 (LiesF.chg hL kk58 hLin_)) ?_
    rintro _ W15 ⟨bv2, rfl, hif2, ch13⟩
    have zz13 := ch13.size
    cases bv2
    ·exact rP 6 42 vT<|mV 216 31 7 [(38, vT), (42, vT)] 73 vT fun _ => eN<|cT<|sR<|rP 0 2 vF<|eN<|tR<|rt vF (noB (fun h_ => absurd (may_nP h_ (by omega)) (fun q_ => Bool.noConfusion (hif2.2 q_))) (kA kk58 ch13))
    refine rP 6 42 vF<|rP 7 43 vF<|rP 8 44 vF<|rP 9 45 (vB f.kind.toNat)<|nF 10 46 (f.kind.toNat : Int) (2 : Int)<|rP 11 47 vF<|rZ 12 48<|rZ 13 49<|rZ 14 50<|rZ 15 51<|rP 16 52 vF<|rP 17 53 vF<|rP 18 54 vF<|rP 19 55 (vB f.kind.toNat)<|nT 20 56 (f.kind.toNat : Int) (3 : Int)<|rP 21 57 vT<|rP 22 58 (pw w 45)<|rq 23 59 _ rfl (lR 45 (Mur.claimC f.cKey f.cNode f.cInc f.cCnt f.cGone) (sgR hI.sz (qT ch13 (qT ch3 (qT ch2 hb1))) 14 5 rfl) (by rw [claimC_length hI.ok.key]; kernel_rfl))<|rP 24 60 (.agg #[vB 0, vB 0, vB 0, vB 0, vB 0, vB 0, vB 0, vB 0, vB 0, vB 0, vB 0, vB 0, vB 0, vB 0, vB 0, vB 0, vB 0, vB 0, vB 0, vB 0, vB 0, vB 0, vB 0, vB 0, vB 0, vB 0, vB 0, vB 0, vB 0, vB 0, vB 0, vB 0, vI 0, vU 0, vU 0, vF]) ?_
    by_cases hpr8 : f.cKey = z32 ∧ f.cNode = 0 ∧ f.cInc = 0 ∧ f.cCnt = 0 ∧ f.cGone = false
    ·refine rq 25 61 _ rfl (nqF hpr8 (run_neq_claim (ck' := z32) (cn' := 0) (ci' := 0) (cc' := 0) (cg' := false) (.tmp 59) (.tmp 60) 33 rfl hI.ok.key rfl (wf64 hI.cNo.1 hI.cNo.2) (wf64 (by decide) (by decide)) hI.ok.inc (by decide) hI.ok.cnt (by decide) (by kernel_rfl) (by kernel_rfl)))<|rP 26 62 vF<|rP 27 63 vF<|rP 28 64 vF<|rP 29 65 (vB f.kind.toNat)<|nT 30 66 (f.kind.toNat : Int) (4 : Int)<|rP 31 67 vT<|rP 32 68 (pw w 81)<|rq 33 69 _ rfl (lR 81 (Mur.attC f.att.k f.att.r f.att.n f.att.t) (sgR hI.sz (qT ch13 (qT ch3 (qT ch2 hb1))) 19 4 frmL_att) (by rw [attC_length f.att.hk f.att.hr f.att.ht]; kernel_rfl))<|rP 34 70 (.agg ((Mur.attC z32 z32 0 z32).toArray)) ?_
     by_cases hpr9 : f.att = Mur.attNone
     ·refine rq 35 71 _ rfl (nqF ((Mur.Att.eq_iff f.att Mur.attNone).1 hpr9) (run_neq_att (.tmp 69) (.tmp 70) 35 rfl f.att.hk f.att.hr f.att.ht Mur.attNone.hk Mur.attNone.hr Mur.attNone.ht f.att.hn Mur.attNone.hn (by kernel_rfl) (by kernel_rfl)))<|rP 36 72 vF<|rP 37 73 vF<|eN<|cF<|wp_skip<|nxt<|wp_seq<|sR<|rP 0 74 (vB f.kind.toNat)<|bT 1 75 ((f.kind.toNat : Int) < (5 : Int))<|rP 2 76 vT<|rP 3 77 (pw w 178)<|rq 4 78 _ rfl (lR 178 (b8s f.root) (sgW hI.sz (qT ch13 (qT ch3 (qT ch2 hb1))) 23) (by rw [b8s_length, hI.ok.root]; kernel_rfl))<|rP 5 79 (.agg ((b8s [0, 0, 0, 0, 0, 0, 0, 0, 0, 0, 0, 0, 0, 0, 0, 0, 0, 0, 0, 0, 0, 0, 0, 0, 0, 0, 0, 0, 0, 0, 0, 0]).toArray)) ?_
      by_cases hpr10 : f.root = z32
      ·refine rq 6 80 _ rfl (nqF hpr10 (run_neq_dg digT f.root z32 hI.ok.root rfl _ (.tmp 78) (.tmp 79) 28 rfl (by kernel_rfl) (by kernel_rfl)))<|rP 7 81 vF<|rP 8 82 (pw w 210)<|rF 9 83 210 (vI f.chunk) hI.sz (qT ch13 (qT ch3 (qT ch2 hb1))) 24 ?_
       by_cases hx14 : f.chunk ≠ (0 : Int)
       ·exact nT 10 84 f.chunk (0 : Int)<|mV 216 18 11 [(76, vT), (81, vF), (84, vT)] 102 vT fun _ => eN<|cT<|sR<|rP 0 2 vF<|eN<|tR<|rt vF (noB (fun h_ => (by have q_ := may_none h_; omega)) (kA kk58 ch13))
       refine nF 10 84 f.chunk (0 : Int)<|rP 11 85 vF<|rP 12 86 vF<|rP 13 87 vF<|rP 14 88 (vB f.kind.toNat)<|nT 15 89 (f.kind.toNat : Int) (6 : Int)<|rP 16 90 vT<|rP 17 91 (pw w 211)<|rF 18 92 211 (.slice z.y.A z.y.n z.y.c) hI.sz (qT ch13 (qT ch3 (qT ch2 hb1))) 25<|rP 19 93 (vI z.y.n) ?_
       by_cases hx15 : (z.y.n : Int) > (0 : Int)
       ·exact bT 20 94 ((z.y.n : Int) > (0 : Int))<|mV 216 8 21 [(90, vT), (94, vT), (87, vF)] 102 vT fun _ => eN<|cT<|sR<|rP 0 2 vF<|eN<|tR<|rt vF (noB (fun h_ => (by have q_ := may_none h_; omega)) (kA kk58 ch13))
       refine bF 20 94 ((z.y.n : Int) > (0 : Int))<|rP 21 95 vF<|rP 22 96 (pw w 212)<|rF 23 97 212 (.slice z.f.A z.f.n z.f.c) hI.sz (qT ch13 (qT ch3 (qT ch2 hb1))) 26<|rP 24 98 (vI z.f.n) ?_
       by_cases hx16 : (z.f.n : Int) > (0 : Int)
       ·exact bT 25 99 ((z.f.n : Int) > (0 : Int))<|rP 26 100 vT<|rP 27 101 vT<|rP 28 102 vT<|eN<|cT<|sR<|rP 0 2 vF<|eN<|tR<|rt vF (noB (fun h_ => (by have q_ := may_none h_; omega)) (kA kk58 ch13))
       refine bF 25 99 ((z.f.n : Int) > (0 : Int))<|rP 26 100 vF<|rP 27 101 vF<|rP 28 102 vF<|eN<|cF<|wp_skip<|nxt<|wp_seq<|sR<|?_
       have hbare_ : f = bareM f := Mur.eq_bare (fun _ => (hif2.1 rfl)) (fun h_ => absurd hkk_ h_) (fun _ => hpr8) (fun _ => hpr9) (fun _ _ => ⟨hpr10, by omega⟩) (fun _ => ⟨List.eq_nil_of_length_eq_zero (by omega), List.eq_nil_of_length_eq_zero (by omega)⟩)
       refine rP 0 103 (vB f.kind.toNat)<|eN<|wp_block<|sR<|eF 0 105 (f.kind.toNat : Int) (1 : Int)<|rP 1 104 vF<|eN<|cF<|sR<|eT 0 167 (f.kind.toNat : Int) (2 : Int)<|rP 1 166 vT<|eN<|cT<|sR<|rP 0 168 (pw w 8)<|rq 1 169 _ rfl (lR 8 (Mur.msgC f.gos.kind z.p.A z.p.n z.p.c f.gos.sum f.gos.cnt z.i.A z.i.n z.i.c f.gos.ans) (sgR hI.sz (qT ch13 (qT ch3 (qT ch2 hb1))) 8 6 rfl) (by rw [msgC_length hI.ok.sum]; kernel_rfl)) ?_
       have kk63 := kA kk58 ch13
       refine rK 2 170 (RMay21_any f.gos.kind f.gos.pre z.p.A z.p.n z.p.c f.gos.sum f.gos.cnt f.gos.items z.i.A z.i.n z.i.c f.gos.ans W15 hI.ok.sum (LiesF.chg hL kk63 hLin_).pre (LiesF.chg hL kk63 hLin_).its (by omega) (by omega) hL.ni.nc) ?_
       rintro _ W16 ⟨bv3, rfl, hif3, ch14⟩
       have zz14 := ch14.size
       cases bv3
       ·refine rP 3 2 vF<|eN<|tI<|?_
        have hM_ : mayFM f ↔ Mur.mayK2 f := mayFM_2 ⟨hpr1, hpr2, by omega, hbare_⟩ hkk_
        exact rt vF (noB (fun h_ => absurd (hM_.1 h_) (fun q_ => Bool.noConfusion (hif3.2 q_))) (kA kk63 ch14))
       refine rP 3 2 vT<|eN<|tI<|?_
       have hM_ : mayFM f ↔ Mur.mayK2 f := mayFM_2 ⟨hpr1, hpr2, by omega, hbare_⟩ hkk_
       exact rt vT (yesB (hM_.2 (hif3.1 rfl)) (kA kk63 ch14))
      exact rq 6 80 _ rfl (nqT hpr10 (run_neq_dg digT f.root z32 hI.ok.root rfl _ (.tmp 78) (.tmp 79) 28 rfl (by kernel_rfl) (by kernel_rfl)))<|mV 216 22 7 [(76, vT), (80, vT)] 102 vT fun _ => eN<|cT<|sR<|rP 0 2 vF<|eN<|tR<|rt vF (noB (fun h_ => absurd (may_nR h_ (by omega)) hpr10) (kA kk58 ch13))
     exact rq 35 71 _ rfl (nqT (fun q_ => hpr9 ((Mur.Att.eq_iff f.att Mur.attNone).2 q_)) (run_neq_att (.tmp 69) (.tmp 70) 35 rfl f.att.hk f.att.hr f.att.ht Mur.attNone.hk Mur.attNone.hr Mur.attNone.ht f.att.hn Mur.attNone.hn (by kernel_rfl) (by kernel_rfl)))<|rP 36 72 vT<|rP 37 73 vT<|eN<|cT<|sR<|rP 0 2 vF<|eN<|tR<|rt vF (noB (fun h_ => absurd (may_nA h_ (by omega)) hpr9) (kA kk58 ch13))
    exact rq 25 61 _ rfl (nqT hpr8 (run_neq_claim (ck' := z32) (cn' := 0) (ci' := 0) (cc' := 0) (cg' := false) (.tmp 59) (.tmp 60) 33 rfl hI.ok.key rfl (wf64 hI.cNo.1 hI.cNo.2) (wf64 (by decide) (by decide)) hI.ok.inc (by decide) hI.ok.cnt (by decide) (by kernel_rfl) (by kernel_rfl)))<|mV 216 12 26 [(54, vF), (57, vT), (61, vT)] 73 vT fun _ => eN<|cT<|sR<|rP 0 2 vF<|eN<|tR<|rt vF (noB (fun h_ => absurd (may_nC h_ (by omega)) hpr8) (kA kk58 ch13))
   ·have hkk_ : f.kind = 3 := kI 3
    refine rP 0 36 (vB f.kind.toNat)<|nT 1 37 (f.kind.toNat : Int) (1 : Int)<|rP 2 38 vT<|rP 3 39 (pw w 3)<|rq 4 40 _ rfl (lR 3 [vI f.pTo, vB f.pKind.toNat, vU f.pSeq, vI f.pAbout, .slice z.u.A z.u.n z.u.c] (sgR hI.sz (qT ch3 (qT ch2 hb1)) 3 5 rfl)) ?_
    have kk71 := kA (kA (zA ch1 : Chg [] w W1) ch2) ch3
    refine rK 5 41 (RNoP_any f z W3 (LiesF.chg hL kk71 hLin_)) ?_
    rintro _ W17 ⟨bv4, rfl, hif4, ch15⟩
    have zz15 := ch15.size
    cases bv4
    ·exact rP 6 42 vT<|mV 216 31 7 [(38, vT), (42, vT)] 73 vT fun _ => eN<|cT<|sR<|rP 0 2 vF<|eN<|tR<|rt vF (noB (fun h_ => absurd (may_nP h_ (by omega)) (fun q_ => Bool.noConfusion (hif4.2 q_))) (kA kk71 ch15))
    refine rP 6 42 vF<|rP 7 43 vF<|rP 8 44 vF<|rP 9 45 (vB f.kind.toNat)<|nT 10 46 (f.kind.toNat : Int) (2 : Int)<|rP 11 47 vT<|rP 12 48 (pw w 8)<|rq 13 49 _ rfl (lR 8 (Mur.msgC f.gos.kind z.p.A z.p.n z.p.c f.gos.sum f.gos.cnt z.i.A z.i.n z.i.c f.gos.ans) (sgR hI.sz (qT ch15 (qT ch3 (qT ch2 hb1))) 8 6 rfl) (by rw [msgC_length hI.ok.sum]; kernel_rfl)) ?_
    have kk73 := kA kk71 ch15
    refine rK 14 50 (RNoG_any f.gos.kind f.gos.pre z.p.A z.p.n z.p.c f.gos.sum f.gos.cnt f.gos.items z.i.A z.i.n z.i.c f.gos.ans W17 hI.ok.sum (LiesF.chg hL kk73 hLin_).pre (LiesF.chg hL kk73 hLin_).its (by omega) (by omega)) ?_
    rintro _ W18 ⟨bv5, rfl, hif5, ch16⟩
    have zz16 := ch16.size
    cases bv5
    ·exact rP 15 51 vT<|mV 216 22 16 [(44, vF), (47, vT), (51, vT)] 73 vT fun _ => eN<|cT<|sR<|rP 0 2 vF<|eN<|tR<|rt vF (noB (fun h_ => absurd (may_nG h_ (by omega)) (fun q_ => Bool.noConfusion (hif5.2 q_))) (kA kk73 ch16))
    refine rP 15 51 vF<|rP 16 52 vF<|rP 17 53 vF<|rP 18 54 vF<|rP 19 55 (vB f.kind.toNat)<|nF 20 56 (f.kind.toNat : Int) (3 : Int)<|rP 21 57 vF<|rZ 22 58<|rZ 23 59<|rZ 24 60<|rZ 25 61<|rP 26 62 vF<|rP 27 63 vF<|rP 28 64 vF<|rP 29 65 (vB f.kind.toNat)<|nT 30 66 (f.kind.toNat : Int) (4 : Int)<|rP 31 67 vT<|rP 32 68 (pw w 81)<|rq 33 69 _ rfl (lR 81 (Mur.attC f.att.k f.att.r f.att.n f.att.t) (sgR hI.sz (qT ch16 (qT ch15 (qT ch3 (qT ch2 hb1)))) 19 4 frmL_att) (by rw [attC_length f.att.hk f.att.hr f.att.ht]; kernel_rfl))<|rP 34 70 (.agg ((Mur.attC z32 z32 0 z32).toArray)) ?_
    by_cases hpr11 : f.att = Mur.attNone
    ·refine rq 35 71 _ rfl (nqF ((Mur.Att.eq_iff f.att Mur.attNone).1 hpr11) (run_neq_att (.tmp 69) (.tmp 70) 35 rfl f.att.hk f.att.hr f.att.ht Mur.attNone.hk Mur.attNone.hr Mur.attNone.ht f.att.hn Mur.attNone.hn (by kernel_rfl) (by kernel_rfl)))<|rP 36 72 vF<|rP 37 73 vF<|eN<|cF<|wp_skip<|nxt<|wp_seq<|sR<|rP 0 74 (vB f.kind.toNat)<|bT 1 75 ((f.kind.toNat : Int) < (5 : Int))<|rP 2 76 vT<|rP 3 77 (pw w 178)<|rq 4 78 _ rfl (lR 178 (b8s f.root) (sgW hI.sz (qT ch16 (qT ch15 (qT ch3 (qT ch2 hb1)))) 23) (by rw [b8s_length, hI.ok.root]; kernel_rfl))<|rP 5 79 (.agg ((b8s [0, 0, 0, 0, 0, 0, 0, 0, 0, 0, 0, 0, 0, 0, 0, 0, 0, 0, 0, 0, 0, 0, 0, 0, 0, 0, 0, 0, 0, 0, 0, 0]).toArray)) ?_
     by_cases hpr12 : f.root = z32
     ·refine rq 6 80 _ rfl (nqF hpr12 (run_neq_dg digT f.root z32 hI.ok.root rfl _ (.tmp 78) (.tmp 79) 28 rfl (by kernel_rfl) (by kernel_rfl)))<|rP 7 81 vF<|rP 8 82 (pw w 210)<|rF 9 83 210 (vI f.chunk) hI.sz (qT ch16 (qT ch15 (qT ch3 (qT ch2 hb1)))) 24 ?_
      by_cases hx17 : f.chunk ≠ (0 : Int)
      ·exact nT 10 84 f.chunk (0 : Int)<|mV 216 18 11 [(76, vT), (81, vF), (84, vT)] 102 vT fun _ => eN<|cT<|sR<|rP 0 2 vF<|eN<|tR<|rt vF (noB (fun h_ => (by have q_ := may_none h_; omega)) (kA kk73 ch16))
      refine nF 10 84 f.chunk (0 : Int)<|rP 11 85 vF<|rP 12 86 vF<|rP 13 87 vF<|rP 14 88 (vB f.kind.toNat)<|nT 15 89 (f.kind.toNat : Int) (6 : Int)<|rP 16 90 vT<|rP 17 91 (pw w 211)<|rF 18 92 211 (.slice z.y.A z.y.n z.y.c) hI.sz (qT ch16 (qT ch15 (qT ch3 (qT ch2 hb1)))) 25<|rP 19 93 (vI z.y.n) ?_
      by_cases hx18 : (z.y.n : Int) > (0 : Int)
      ·exact bT 20 94 ((z.y.n : Int) > (0 : Int))<|mV 216 8 21 [(90, vT), (94, vT), (87, vF)] 102 vT fun _ => eN<|cT<|sR<|rP 0 2 vF<|eN<|tR<|rt vF (noB (fun h_ => (by have q_ := may_none h_; omega)) (kA kk73 ch16))
      refine bF 20 94 ((z.y.n : Int) > (0 : Int))<|rP 21 95 vF<|rP 22 96 (pw w 212)<|rF 23 97 212 (.slice z.f.A z.f.n z.f.c) hI.sz (qT ch16 (qT ch15 (qT ch3 (qT ch2 hb1)))) 26<|rP 24 98 (vI z.f.n) ?_
      by_cases hx19 : (z.f.n : Int) > (0 : Int)
      ·exact bT 25 99 ((z.f.n : Int) > (0 : Int))<|rP 26 100 vT<|rP 27 101 vT<|rP 28 102 vT<|eN<|cT<|sR<|rP 0 2 vF<|eN<|tR<|rt vF (noB (fun h_ => (by have q_ := may_none h_; omega)) (kA kk73 ch16))
      refine bF 25 99 ((z.f.n : Int) > (0 : Int))<|rP 26 100 vF<|rP 27 101 vF<|rP 28 102 vF<|eN<|cF<|wp_skip<|nxt<|wp_seq<|sR<|?_
      have hbare_ : f = bareM f := Mur.eq_bare (fun _ => (hif4.1 rfl)) (fun _ => (hif5.1 rfl)) (fun h_ => absurd hkk_ h_) (fun _ => hpr11) (fun _ _ => ⟨hpr12, by omega⟩) (fun _ => ⟨List.eq_nil_of_length_eq_zero (by omega), List.eq_nil_of_length_eq_zero (by omega)⟩)
      refine rP 0 103 (vB f.kind.toNat)<|eN<|wp_block<|sR<|eF 0 105 (f.kind.toNat : Int) (1 : Int)<|rP 1 104 vF<|eN<|cF<|sR<|eF 0 167 (f.kind.toNat : Int) (2 : Int)<|rP 1 166 vF<|eN<|cF<|sR<|eT 0 172 (f.kind.toNat : Int) (3 : Int)<|rP 1 171 vT<|eN<|cT<|sR<|rP 0 173 (pw w 45)<|rP 1 174 (pw w 77)<|rF 2 175 77 (vI f.cNode) hI.sz (qT ch16 (qT ch15 (qT ch3 (qT ch2 hb1)))) 15<|rP 3 176 (pw w 1)<|rF 4 177 1 (vI f.frm) hI.sz (qT ch16 (qT ch15 (qT ch3 (qT ch2 hb1)))) 1 ?_
      by_cases hx20 : f.cNode = f.frm
      ·refine eT 5 178 f.cNode f.frm<|rP 6 179 vT<|rP 7 180 (pw w 45)<|rP 8 181 (pw w 78)<|rF 9 182 78 (vU f.cInc) hI.sz (qT ch16 (qT ch15 (qT ch3 (qT ch2 hb1)))) 16 ?_
       by_cases hx21 : (f.cInc : Int) ≤ (1099511627776 : Int)
       ·refine bT 10 183 ((f.cInc : Int) ≤ (1099511627776 : Int))<|rP 11 184 vT<|rP 12 185 vT<|rP 13 186 (pw w 45)<|rP 14 187 (pw w 79)<|rF 15 188 79 (vU f.cCnt) hI.sz (qT ch16 (qT ch15 (qT ch3 (qT ch2 hb1)))) 17 ?_
        by_cases hx22 : (f.cCnt : Int) ≤ (1099511627776 : Int)
        ·refine bT 16 189 ((f.cCnt : Int) ≤ (1099511627776 : Int))<|rP 17 190 vT<|rP 18 2 vT<|eN<|tI<|?_
         have hM_ : mayFM f ↔ Mur.mayK3 f := mayFM_3 ⟨hpr1, hpr2, by omega, hbare_⟩ hkk_
         exact rt vT (yesB (hM_.2 (show _ ∧ _ ∧ _ from ⟨by omega, by omega, by omega⟩)) (kA kk73 ch16))
        refine bF 16 189 ((f.cCnt : Int) ≤ (1099511627776 : Int))<|rP 17 190 vF<|rP 18 2 vF<|eN<|tI<|?_
        have hM_ : mayFM f ↔ Mur.mayK3 f := mayFM_3 ⟨hpr1, hpr2, by omega, hbare_⟩ hkk_
        exact rt vF (noB (fun h_ => absurd (hM_.1 h_) (fun ⟨q1_, q2_, q3_⟩ => by omega)) (kA kk73 ch16))
       refine bF 10 183 ((f.cInc : Int) ≤ (1099511627776 : Int))<|rP 11 184 vF<|rP 12 185 vF<|rZ 13 186<|rZ 14 187<|rZ 15 188<|rZ 16 189<|rP 17 190 vF<|rP 18 2 vF<|eN<|tI<|?_
       have hM_ : mayFM f ↔ Mur.mayK3 f := mayFM_3 ⟨hpr1, hpr2, by omega, hbare_⟩ hkk_
       exact rt vF (noB (fun h_ => absurd (hM_.1 h_) (fun ⟨q1_, q2_, q3_⟩ => by omega)) (kA kk73 ch16))
      refine eF 5 178 f.cNode f.frm<|rP 6 179 vF<|rZ 7 180<|rZ 8 181<|rZ 9 182<|rZ 10 183<|rP 11 184 vF<|rP 12 185 vF<|rZ 13 186<|rZ 14 187<|rZ 15 188<|rZ 16 189<|rP 17 190 vF<|rP 18 2 vF<|eN<|tI<|?_
      have hM_ : mayFM f ↔ Mur.mayK3 f := mayFM_3 ⟨hpr1, hpr2, by omega, hbare_⟩ hkk_
      exact rt vF (noB (fun h_ => absurd (hM_.1 h_) (fun ⟨q1_, q2_, q3_⟩ => by omega)) (kA kk73 ch16))
     exact rq 6 80 _ rfl (nqT hpr12 (run_neq_dg digT f.root z32 hI.ok.root rfl _ (.tmp 78) (.tmp 79) 28 rfl (by kernel_rfl) (by kernel_rfl)))<|mV 216 22 7 [(76, vT), (80, vT)] 102 vT fun _ => eN<|cT<|sR<|rP 0 2 vF<|eN<|tR<|rt vF (noB (fun h_ => absurd (may_nR h_ (by omega)) hpr12) (kA kk73 ch16))
    exact rq 35 71 _ rfl (nqT (fun q_ => hpr11 ((Mur.Att.eq_iff f.att Mur.attNone).2 q_)) (run_neq_att (.tmp 69) (.tmp 70) 35 rfl f.att.hk f.att.hr f.att.ht Mur.attNone.hk Mur.attNone.hr Mur.attNone.ht f.att.hn Mur.attNone.hn (by kernel_rfl) (by kernel_rfl)))<|rP 36 72 vT<|rP 37 73 vT<|eN<|cT<|sR<|rP 0 2 vF<|eN<|tR<|rt vF (noB (fun h_ => absurd (may_nA h_ (by omega)) hpr11) (kA kk73 ch16))
   ·have hkk_ : f.kind = 4 := kI 4
    refine rP 0 36 (vB f.kind.toNat)<|nT 1 37 (f.kind.toNat : Int) (1 : Int)<|rP 2 38 vT<|rP 3 39 (pw w 3)<|rq 4 40 _ rfl (lR 3 [vI f.pTo, vB f.pKind.toNat, vU f.pSeq, vI f.pAbout, .slice z.u.A z.u.n z.u.c] (sgR hI.sz (qT ch3 (qT ch2 hb1)) 3 5 rfl)) ?_
    have kk86 := kA (kA (zA ch1 : Chg [] w W1) ch2) ch3
    refine rK 5 41 (RNoP_any f z W3 (LiesF.chg hL kk86 hLin_)) ?_
    rintro _ W19 ⟨bv6, rfl, hif6, ch17⟩
    have zz17 := ch17.size
    cases bv6
    ·exact rP 6 42 vT<|mV 216 31 7 [(38, vT), (42, vT)] 73 vT fun _ => eN<|cT<|sR<|rP 0 2 vF<|eN<|tR<|rt vF (noB (fun h_ => absurd (may_nP h_ (by omega)) (fun q_ => Bool.noConfusion (hif6.2 q_))) (kA kk86 ch17))
    refine rP 6 42 vF<|rP 7 43 vF<|rP 8 44 vF<|rP 9 45 (vB f.kind.toNat)<|nT 10 46 (f.kind.toNat : Int) (2 : Int)<|rP 11 47 vT<|rP 12 48 (pw w 8)<|rq 13 49 _ rfl (lR 8 (Mur.msgC f.gos.kind z.p.A z.p.n z.p.c f.gos.sum f.gos.cnt z.i.A z.i.n z.i.c f.gos.ans) (sgR hI.sz (qT ch17 (qT ch3 (qT ch2 hb1))) 8 6 rfl) (by rw [msgC_length hI.ok.sum]; kernel_rfl)) ?_
    have kk88 := kA kk86 ch17
    refine rK 14 50 (RNoG_any f.gos.kind f.gos.pre z.p.A z.p.n z.p.c f.gos.sum f.gos.cnt f.gos.items z.i.A z.i.n z.i.c f.gos.ans W19 hI.ok.sum (LiesF.chg hL kk88 hLin_).pre (LiesF.chg hL kk88 hLin_).its (by omega) (by omega)) ?_
    rintro _ W20 ⟨bv7, rfl, hif7, ch18⟩
    have zz18 := ch18.size
    cases bv7
    ·exact rP 15 51 vT<|mV 216 22 16 [(44, vF), (47, vT), (51, vT)] 73 vT fun _ => eN<|cT<|sR<|rP 0 2 vF<|eN<|tR<|rt vF (noB (fun h_ => absurd (may_nG h_ (by omega)) (fun q_ => Bool.noConfusion (hif7.2 q_))) (kA kk88 ch18))
    refine rP 15 51 vF<|rP 16 52 vF<|rP 17 53 vF<|rP 18 54 vF<|rP 19 55 (vB f.kind.toNat)<|nT 20 56 (f.kind.toNat : Int) (3 : Int)<|rP 21 57 vT<|rP 22 58 (pw w 45)<|rq 23 59 _ rfl (lR 45 (Mur.claimC f.cKey f.cNode f.cInc f.cCnt f.cGone) (sgR hI.sz (qT ch18 (qT ch17 (qT ch3 (qT ch2 hb1)))) 14 5 rfl) (by rw [claimC_length hI.ok.key]; kernel_rfl))<|rP 24 60 (.agg #[vB 0, vB 0, vB 0, vB 0, vB 0, vB 0, vB 0, vB 0, vB 0, vB 0, vB 0, vB 0, vB 0, vB 0, vB 0, vB 0, vB 0, vB 0, vB 0, vB 0, vB 0, vB 0, vB 0, vB 0, vB 0, vB 0, vB 0, vB 0, vB 0, vB 0, vB 0, vB 0, vI 0, vU 0, vU 0, vF]) ?_
    by_cases hpr13 : f.cKey = z32 ∧ f.cNode = 0 ∧ f.cInc = 0 ∧ f.cCnt = 0 ∧ f.cGone = false
    ·refine rq 25 61 _ rfl (nqF hpr13 (run_neq_claim (ck' := z32) (cn' := 0) (ci' := 0) (cc' := 0) (cg' := false) (.tmp 59) (.tmp 60) 33 rfl hI.ok.key rfl (wf64 hI.cNo.1 hI.cNo.2) (wf64 (by decide) (by decide)) hI.ok.inc (by decide) hI.ok.cnt (by decide) (by kernel_rfl) (by kernel_rfl)))<|rP 26 62 vF<|rP 27 63 vF<|rP 28 64 vF<|rP 29 65 (vB f.kind.toNat)<|nF 30 66 (f.kind.toNat : Int) (4 : Int)<|rP 31 67 vF<|rZ 32 68<|rZ 33 69<|rZ 34 70<|rZ 35 71<|rP 36 72 vF<|rP 37 73 vF<|eN<|cF<|wp_skip<|nxt<|wp_seq<|sR<|rP 0 74 (vB f.kind.toNat)<|bT 1 75 ((f.kind.toNat : Int) < (5 : Int))<|rP 2 76 vT<|rP 3 77 (pw w 178)<|rq 4 78 _ rfl (lR 178 (b8s f.root) (sgW hI.sz (qT ch18 (qT ch17 (qT ch3 (qT ch2 hb1)))) 23) (by rw [b8s_length, hI.ok.root]; kernel_rfl))<|rP 5 79 (.agg ((b8s [0, 0, 0, 0, 0, 0, 0, 0, 0, 0, 0, 0, 0, 0, 0, 0, 0, 0, 0, 0, 0, 0, 0, 0, 0, 0, 0, 0, 0, 0, 0, 0]).toArray)) ?_
     by_cases hpr14 : f.root = z32
     ·refine rq 6 80 _ rfl (nqF hpr14 (run_neq_dg digT f.root z32 hI.ok.root rfl _ (.tmp 78) (.tmp 79) 28 rfl (by kernel_rfl) (by kernel_rfl)))<|rP 7 81 vF<|rP 8 82 (pw w 210)<|rF 9 83 210 (vI f.chunk) hI.sz (qT ch18 (qT ch17 (qT ch3 (qT ch2 hb1)))) 24 ?_
      by_cases hx23 : f.chunk ≠ (0 : Int)
      ·exact nT 10 84 f.chunk (0 : Int)<|mV 216 18 11 [(76, vT), (81, vF), (84, vT)] 102 vT fun _ => eN<|cT<|sR<|rP 0 2 vF<|eN<|tR<|rt vF (noB (fun h_ => (by have q_ := may_none h_; omega)) (kA kk88 ch18))
      refine nF 10 84 f.chunk (0 : Int)<|rP 11 85 vF<|rP 12 86 vF<|rP 13 87 vF<|rP 14 88 (vB f.kind.toNat)<|nT 15 89 (f.kind.toNat : Int) (6 : Int)<|rP 16 90 vT<|rP 17 91 (pw w 211)<|rF 18 92 211 (.slice z.y.A z.y.n z.y.c) hI.sz (qT ch18 (qT ch17 (qT ch3 (qT ch2 hb1)))) 25<|rP 19 93 (vI z.y.n) ?_
      by_cases hx24 : (z.y.n : Int) > (0 : Int)
      ·exact bT 20 94 ((z.y.n : Int) > (0 : Int))<|mV 216 8 21 [(90, vT), (94, vT), (87, vF)] 102 vT fun _ => eN<|cT<|sR<|rP 0 2 vF<|eN<|tR<|rt vF (noB (fun h_ => (by have q_ := may_none h_; omega)) (kA kk88 ch18))
      refine bF 20 94 ((z.y.n : Int) > (0 : Int))<|rP 21 95 vF<|rP 22 96 (pw w 212)<|rF 23 97 212 (.slice z.f.A z.f.n z.f.c) hI.sz (qT ch18 (qT ch17 (qT ch3 (qT ch2 hb1)))) 26<|rP 24 98 (vI z.f.n) ?_
      by_cases hx25 : (z.f.n : Int) > (0 : Int)
      ·exact bT 25 99 ((z.f.n : Int) > (0 : Int))<|rP 26 100 vT<|rP 27 101 vT<|rP 28 102 vT<|eN<|cT<|sR<|rP 0 2 vF<|eN<|tR<|rt vF (noB (fun h_ => (by have q_ := may_none h_; omega)) (kA kk88 ch18))
      refine bF 25 99 ((z.f.n : Int) > (0 : Int))<|rP 26 100 vF<|rP 27 101 vF<|rP 28 102 vF<|eN<|cF<|wp_skip<|nxt<|wp_seq<|sR<|?_
      have hbare_ : f = bareM f := Mur.eq_bare (fun _ => (hif6.1 rfl)) (fun _ => (hif7.1 rfl)) (fun _ => hpr13) (fun h_ => absurd hkk_ h_) (fun _ _ => ⟨hpr14, by omega⟩) (fun _ => ⟨List.eq_nil_of_length_eq_zero (by omega), List.eq_nil_of_length_eq_zero (by omega)⟩)
      refine rP 0 103 (vB f.kind.toNat)<|eN<|wp_block<|sR<|eF 0 105 (f.kind.toNat : Int) (1 : Int)<|rP 1 104 vF<|eN<|cF<|sR<|eF 0 167 (f.kind.toNat : Int) (2 : Int)<|rP 1 166 vF<|eN<|cF<|sR<|eF 0 172 (f.kind.toNat : Int) (3 : Int)<|rP 1 171 vF<|eN<|cF<|sR<|eT 0 192 (f.kind.toNat : Int) (4 : Int)<|rP 1 191 vT<|eN<|cT<|sR<|rP 0 193 (pw w 81)<|rq 1 194 _ rfl (lR 81 (Mur.attC f.att.k f.att.r f.att.n f.att.t) (sgR hI.sz (qT ch18 (qT ch17 (qT ch3 (qT ch2 hb1)))) 19 4 frmL_att) (by rw [attC_length f.att.hk f.att.hr f.att.ht]; kernel_rfl)) ?_
      refine rC 2 195 28 [.tmp 194] #[35] [.agg ((Mur.attC f.att.k f.att.r f.att.n f.att.t).toArray)] ?_
      by_cases hmay1 : Mur.may f.att.n
      ·have hmay1u : 1 ≤ f.att.n ∧ f.att.n ≤ 5000 := hmay1
       refine (Rmay_any f.att.k f.att.r f.att.t f.att.n f.att.hk f.att.hr f.att.ht W20).mono ?_
       rw [decide_eq_true (hmay1 : Mur.may f.att.n)]
       rintro _ W21 ⟨rfl, ch19⟩
       have zz19 := ch19.size
       refine ⟨_, rfl, ?_⟩
       refine rP 3 2 vT<|eN<|tI<|?_
       have hM_ : mayFM f ↔ Mur.mayK4 f := mayFM_4 ⟨hpr1, hpr2, by omega, hbare_⟩ hkk_
       exact rt vT (yesB (hM_.2 hmay1) (kA (kA kk88 ch18) ch19))
      have hmay1u : ¬ (1 ≤ f.att.n ∧ f.att.n ≤ 5000) := hmay1
      refine (Rmay_any f.att.k f.att.r f.att.t f.att.n f.att.hk f.att.hr f.att.ht W20).mono ?_
      rw [decide_eq_false (hmay1 : ¬ Mur.may f.att.n)]
      rintro _ W21 ⟨rfl, ch19⟩
      have zz20 := ch19.size
      refine ⟨_, rfl, ?_⟩
      refine rP 3 2 vF<|eN<|tI<|?_
      have hM_ : mayFM f ↔ Mur.mayK4 f := mayFM_4 ⟨hpr1, hpr2, by omega, hbare_⟩ hkk_
      exact rt vF (noB (fun h_ => absurd (hM_.1 h_) hmay1) (kA (kA kk88 ch18) ch19))
     exact rq 6 80 _ rfl (nqT hpr14 (run_neq_dg digT f.root z32 hI.ok.root rfl _ (.tmp 78) (.tmp 79) 28 rfl (by kernel_rfl) (by kernel_rfl)))<|mV 216 22 7 [(76, vT), (80, vT)] 102 vT fun _ => eN<|cT<|sR<|rP 0 2 vF<|eN<|tR<|rt vF (noB (fun h_ => absurd (may_nR h_ (by omega)) hpr14) (kA kk88 ch18))
    exact rq 25 61 _ rfl (nqT hpr13 (run_neq_claim (ck' := z32) (cn' := 0) (ci' := 0) (cc' := 0) (cg' := false) (.tmp 59) (.tmp 60) 33 rfl hI.ok.key rfl (wf64 hI.cNo.1 hI.cNo.2) (wf64 (by decide) (by decide)) hI.ok.inc (by decide) hI.ok.cnt (by decide) (by kernel_rfl) (by kernel_rfl)))<|mV 216 12 26 [(54, vF), (57, vT), (61, vT)] 73 vT fun _ => eN<|cT<|sR<|rP 0 2 vF<|eN<|tR<|rt vF (noB (fun h_ => absurd (may_nC h_ (by omega)) hpr13) (kA kk88 ch18))
   ·have hkk_ : f.kind = 5 := kI 5
    refine rP 0 36 (vB f.kind.toNat)<|nT 1 37 (f.kind.toNat : Int) (1 : Int)<|rP 2 38 vT<|rP 3 39 (pw w 3)<|rq 4 40 _ rfl (lR 3 [vI f.pTo, vB f.pKind.toNat, vU f.pSeq, vI f.pAbout, .slice z.u.A z.u.n z.u.c] (sgR hI.sz (qT ch3 (qT ch2 hb1)) 3 5 rfl)) ?_
    have kk101 := kA (kA (zA ch1 : Chg [] w W1) ch2) ch3
    refine rK 5 41 (RNoP_any f z W3 (LiesF.chg hL kk101 hLin_)) ?_
    rintro _ W22 ⟨bv8, rfl, hif8, ch20⟩
    have zz21 := ch20.size
    cases bv8
    ·exact rP 6 42 vT<|mV 216 31 7 [(38, vT), (42, vT)] 73 vT fun _ => eN<|cT<|sR<|rP 0 2 vF<|eN<|tR<|rt vF (noB (fun h_ => absurd (may_nP h_ (by omega)) (fun q_ => Bool.noConfusion (hif8.2 q_))) (kA kk101 ch20))
    refine rP 6 42 vF<|rP 7 43 vF<|rP 8 44 vF<|rP 9 45 (vB f.kind.toNat)<|nT 10 46 (f.kind.toNat : Int) (2 : Int)<|rP 11 47 vT<|rP 12 48 (pw w 8)<|rq 13 49 _ rfl (lR 8 (Mur.msgC f.gos.kind z.p.A z.p.n z.p.c f.gos.sum f.gos.cnt z.i.A z.i.n z.i.c f.gos.ans) (sgR hI.sz (qT ch20 (qT ch3 (qT ch2 hb1))) 8 6 rfl) (by rw [msgC_length hI.ok.sum]; kernel_rfl)) ?_
    have kk103 := kA kk101 ch20
    refine rK 14 50 (RNoG_any f.gos.kind f.gos.pre z.p.A z.p.n z.p.c f.gos.sum f.gos.cnt f.gos.items z.i.A z.i.n z.i.c f.gos.ans W22 hI.ok.sum (LiesF.chg hL kk103 hLin_).pre (LiesF.chg hL kk103 hLin_).its (by omega) (by omega)) ?_
    rintro _ W23 ⟨bv9, rfl, hif9, ch21⟩
    have zz22 := ch21.size
    cases bv9
    ·exact rP 15 51 vT<|mV 216 22 16 [(44, vF), (47, vT), (51, vT)] 73 vT fun _ => eN<|cT<|sR<|rP 0 2 vF<|eN<|tR<|rt vF (noB (fun h_ => absurd (may_nG h_ (by omega)) (fun q_ => Bool.noConfusion (hif9.2 q_))) (kA kk103 ch21))
    refine rP 15 51 vF<|rP 16 52 vF<|rP 17 53 vF<|rP 18 54 vF<|rP 19 55 (vB f.kind.toNat)<|nT 20 56 (f.kind.toNat : Int) (3 : Int)<|rP 21 57 vT<|rP 22 58 (pw w 45)<|rq 23 59 _ rfl (lR 45 (Mur.claimC f.cKey f.cNode f.cInc f.cCnt f.cGone) (sgR hI.sz (qT ch21 (qT ch20 (qT ch3 (qT ch2 hb1)))) 14 5 rfl) (by rw [claimC_length hI.ok.key]; kernel_rfl))<|rP 24 60 (.agg #[vB 0, vB 0, vB 0, vB 0, vB 0, vB 0, vB 0, vB 0, vB 0, vB 0, vB 0, vB 0, vB 0, vB 0, vB 0, vB 0, vB 0, vB 0, vB 0, vB 0, vB 0, vB 0, vB 0, vB 0, vB 0, vB 0, vB 0, vB 0, vB 0, vB 0, vB 0, vB 0, vI 0, vU 0, vU 0, vF]) ?_
    by_cases hpr15 : f.cKey = z32 ∧ f.cNode = 0 ∧ f.cInc = 0 ∧ f.cCnt = 0 ∧ f.cGone = false
    ·refine rq 25 61 _ rfl (nqF hpr15 (run_neq_claim (ck' := z32) (cn' := 0) (ci' := 0) (cc' := 0) (cg' := false) (.tmp 59) (.tmp 60) 33 rfl hI.ok.key rfl (wf64 hI.cNo.1 hI.cNo.2) (wf64 (by decide) (by decide)) hI.ok.inc (by decide) hI.ok.cnt (by decide) (by kernel_rfl) (by kernel_rfl)))<|rP 26 62 vF<|rP 27 63 vF<|rP 28 64 vF<|rP 29 65 (vB f.kind.toNat)<|nT 30 66 (f.kind.toNat : Int) (4 : Int)<|rP 31 67 vT<|rP 32 68 (pw w 81)<|rq 33 69 _ rfl (lR 81 (Mur.attC f.att.k f.att.r f.att.n f.att.t) (sgR hI.sz (qT ch21 (qT ch20 (qT ch3 (qT ch2 hb1)))) 19 4 frmL_att) (by rw [attC_length f.att.hk f.att.hr f.att.ht]; kernel_rfl))<|rP 34 70 (.agg ((Mur.attC z32 z32 0 z32).toArray)) ?_
     by_cases hpr16 : f.att = Mur.attNone
     ·refine rq 35 71 _ rfl (nqF ((Mur.Att.eq_iff f.att Mur.attNone).1 hpr16) (run_neq_att (.tmp 69) (.tmp 70) 35 rfl f.att.hk f.att.hr f.att.ht Mur.attNone.hk Mur.attNone.hr Mur.attNone.ht f.att.hn Mur.attNone.hn (by kernel_rfl) (by kernel_rfl)))<|rP 36 72 vF<|rP 37 73 vF<|eN<|cF<|wp_skip<|nxt<|wp_seq<|sR<|rP 0 74 (vB f.kind.toNat)<|bF 1 75 ((f.kind.toNat : Int) < (5 : Int))<|rP 2 76 vF<|rZ 3 77<|rZ 4 78<|rZ 5 79<|rZ 6 80<|rZ 7 81<|rZ 8 82<|rZ 9 83<|rZ 10 84<|rZ 11 85<|rP 12 86 vF<|rP 13 87 vF<|rP 14 88 (vB f.kind.toNat)<|nT 15 89 (f.kind.toNat : Int) (6 : Int)<|rP 16 90 vT<|rP 17 91 (pw w 211)<|rF 18 92 211 (.slice z.y.A z.y.n z.y.c) hI.sz (qT ch21 (qT ch20 (qT ch3 (qT ch2 hb1)))) 25<|rP 19 93 (vI z.y.n) ?_
      by_cases hx26 : (z.y.n : Int) > (0 : Int)
      ·exact bT 20 94 ((z.y.n : Int) > (0 : Int))<|mV 216 8 21 [(90, vT), (94, vT), (87, vF)] 102 vT fun _ => eN<|cT<|sR<|rP 0 2 vF<|eN<|tR<|rt vF (noB (fun h_ => (by have q_ := may_none h_; omega)) (kA kk103 ch21))
      refine bF 20 94 ((z.y.n : Int) > (0 : Int))<|rP 21 95 vF<|rP 22 96 (pw w 212)<|rF 23 97 212 (.slice z.f.A z.f.n z.f.c) hI.sz (qT ch21 (qT ch20 (qT ch3 (qT ch2 hb1)))) 26<|rP 24 98 (vI z.f.n) ?_
      by_cases hx27 : (z.f.n : Int) > (0 : Int)
      ·exact bT 25 99 ((z.f.n : Int) > (0 : Int))<|rP 26 100 vT<|rP 27 101 vT<|rP 28 102 vT<|eN<|cT<|sR<|rP 0 2 vF<|eN<|tR<|rt vF (noB (fun h_ => (by have q_ := may_none h_; omega)) (kA kk103 ch21))
      refine bF 25 99 ((z.f.n : Int) > (0 : Int))<|rP 26 100 vF<|rP 27 101 vF<|rP 28 102 vF<|eN<|cF<|wp_skip<|nxt<|wp_seq<|sR<|?_
      have hbare_ : f = bareM f := Mur.eq_bare (fun _ => (hif8.1 rfl)) (fun _ => (hif9.1 rfl)) (fun _ => hpr15) (fun _ => hpr16) (fun h_ _ => absurd hkk_ h_) (fun _ => ⟨List.eq_nil_of_length_eq_zero (by omega), List.eq_nil_of_length_eq_zero (by omega)⟩)
      refine rP 0 103 (vB f.kind.toNat)<|eN<|wp_block<|sR<|eF 0 105 (f.kind.toNat : Int) (1 : Int)<|rP 1 104 vF<|eN<|cF<|sR<|eF 0 167 (f.kind.toNat : Int) (2 : Int)<|rP 1 166 vF<|eN<|cF<|sR<|eF 0 172 (f.kind.toNat : Int) (3 : Int)<|rP 1 171 vF<|eN<|cF<|sR<|eF 0 192 (f.kind.toNat : Int) (4 : Int)<|rP 1 191 vF<|eN<|cF<|wp_skip<|inN<|nxt<|sR<|rP 0 196 (pw w 210)<|rF 1 197 210 (vI f.chunk) hI.sz (qT ch21 (qT ch20 (qT ch3 (qT ch2 hb1)))) 24 ?_
      by_cases hx28 : f.chunk ≥ (0 : Int)
      ·refine bT 2 198 (f.chunk ≥ (0 : Int))<|rP 3 199 vT<|rP 4 200 (pw w 210)<|rF 5 201 210 (vI f.chunk) hI.sz (qT ch21 (qT ch20 (qT ch3 (qT ch2 hb1)))) 24 ?_
       by_cases hx29 : f.chunk < (100 : Int)
       ·refine bT 6 202 (f.chunk < (100 : Int))<|rP 7 203 vT<|rP 8 204 vT<|rP 9 205 (pw w 211)<|rF 10 206 211 (.slice z.y.A z.y.n z.y.c) hI.sz (qT ch21 (qT ch20 (qT ch3 (qT ch2 hb1)))) 25<|rP 11 207 (vI z.y.n) ?_
        by_cases hx30 : (z.y.n : Int) ≤ (64 : Int)
        ·refine bT 12 208 ((z.y.n : Int) ≤ (64 : Int))<|rP 13 209 vT<|rP 14 210 vT<|rP 15 211 (pw w 212)<|rF 16 212 212 (.slice z.f.A z.f.n z.f.c) hI.sz (qT ch21 (qT ch20 (qT ch3 (qT ch2 hb1)))) 26<|rP 17 213 (vI z.f.n) ?_
         by_cases hx31 : (z.f.n : Int) ≤ (10 : Int)
         ·refine bT 18 214 ((z.f.n : Int) ≤ (10 : Int))<|rP 19 215 vT<|rP 20 2 vT<|eN<|wp_ret<|?_
          have hM_ : mayFM f ↔ Mur.mayK5 f := mayFM_5 ⟨hpr1, hpr2, by omega, hbare_⟩ hkk_
          exact rt vT (yesB (hM_.2 (show _ ∧ _ from ⟨by omega, by omega⟩)) (kA kk103 ch21))
         refine bF 18 214 ((z.f.n : Int) ≤ (10 : Int))<|rP 19 215 vF<|rP 20 2 vF<|eN<|wp_ret<|?_
         have hM_ : mayFM f ↔ Mur.mayK5 f := mayFM_5 ⟨hpr1, hpr2, by omega, hbare_⟩ hkk_
         exact rt vF (noB (fun h_ => absurd (hM_.1 h_) (fun ⟨q1_, q2_⟩ => by omega)) (kA kk103 ch21))
        refine bF 12 208 ((z.y.n : Int) ≤ (64 : Int))<|rP 13 209 vF<|rP 14 210 vF<|rZ 15 211<|rZ 16 212<|rZ 17 213<|rZ 18 214<|rP 19 215 vF<|rP 20 2 vF<|eN<|wp_ret<|?_
        have hM_ : mayFM f ↔ Mur.mayK5 f := mayFM_5 ⟨hpr1, hpr2, by omega, hbare_⟩ hkk_
        exact rt vF (noB (fun h_ => absurd (hM_.1 h_) (fun ⟨q1_, q2_⟩ => by omega)) (kA kk103 ch21))
       refine bF 6 202 (f.chunk < (100 : Int))<|rP 7 203 vF<|rP 8 204 vF<|rZ 9 205<|rZ 10 206<|rZ 11 207<|rZ 12 208<|rP 13 209 vF<|rP 14 210 vF<|rZ 15 211<|rZ 16 212<|rZ 17 213<|rZ 18 214<|rP 19 215 vF<|rP 20 2 vF<|eN<|wp_ret<|?_
       have hM_ : mayFM f ↔ Mur.mayK5 f := mayFM_5 ⟨hpr1, hpr2, by omega, hbare_⟩ hkk_
       exact rt vF (noB (fun h_ => absurd (hM_.1 h_) (fun ⟨q1_, q2_⟩ => by omega)) (kA kk103 ch21))
      refine bF 2 198 (f.chunk ≥ (0 : Int))<|rP 3 199 vF<|rZ 4 200<|rZ 5 201<|rZ 6 202<|rP 7 203 vF<|rP 8 204 vF<|rZ 9 205<|rZ 10 206<|rZ 11 207<|rZ 12 208<|rP 13 209 vF<|rP 14 210 vF<|rZ 15 211<|rZ 16 212<|rZ 17 213<|rZ 18 214<|rP 19 215 vF<|rP 20 2 vF<|eN<|wp_ret<|?_
      have hM_ : mayFM f ↔ Mur.mayK5 f := mayFM_5 ⟨hpr1, hpr2, by omega, hbare_⟩ hkk_
      exact rt vF (noB (fun h_ => absurd (hM_.1 h_) (fun ⟨q1_, q2_⟩ => by omega)) (kA kk103 ch21))
     exact rq 35 71 _ rfl (nqT (fun q_ => hpr16 ((Mur.Att.eq_iff f.att Mur.attNone).2 q_)) (run_neq_att (.tmp 69) (.tmp 70) 35 rfl f.att.hk f.att.hr f.att.ht Mur.attNone.hk Mur.attNone.hr Mur.attNone.ht f.att.hn Mur.attNone.hn (by kernel_rfl) (by kernel_rfl)))<|rP 36 72 vT<|rP 37 73 vT<|eN<|cT<|sR<|rP 0 2 vF<|eN<|tR<|rt vF (noB (fun h_ => absurd (may_nA h_ (by omega)) hpr16) (kA kk103 ch21))
    exact rq 25 61 _ rfl (nqT hpr15 (run_neq_claim (ck' := z32) (cn' := 0) (ci' := 0) (cc' := 0) (cg' := false) (.tmp 59) (.tmp 60) 33 rfl hI.ok.key rfl (wf64 hI.cNo.1 hI.cNo.2) (wf64 (by decide) (by decide)) hI.ok.inc (by decide) hI.ok.cnt (by decide) (by kernel_rfl) (by kernel_rfl)))<|mV 216 12 26 [(54, vF), (57, vT), (61, vT)] 73 vT fun _ => eN<|cT<|sR<|rP 0 2 vF<|eN<|tR<|rt vF (noB (fun h_ => absurd (may_nC h_ (by omega)) hpr15) (kA kk103 ch21))
   have hkk_ : f.kind = 6 := kI 6
   refine rP 0 36 (vB f.kind.toNat)<|nT 1 37 (f.kind.toNat : Int) (1 : Int)<|rP 2 38 vT<|rP 3 39 (pw w 3)<|rq 4 40 _ rfl (lR 3 [vI f.pTo, vB f.pKind.toNat, vU f.pSeq, vI f.pAbout, .slice z.u.A z.u.n z.u.c] (sgR hI.sz (qT ch3 (qT ch2 hb1)) 3 5 rfl)) ?_
   have kk116 := kA (kA (zA ch1 : Chg [] w W1) ch2) ch3
   refine rK 5 41 (RNoP_any f z W3 (LiesF.chg hL kk116 hLin_)) ?_
   rintro _ W24 ⟨bv10, rfl, hif10, ch22⟩
   have zz23 := ch22.size
   cases bv10
   ·exact rP 6 42 vT<|mV 216 31 7 [(38, vT), (42, vT)] 73 vT fun _ => eN<|cT<|sR<|rP 0 2 vF<|eN<|tR<|rt vF (noB (fun h_ => absurd (may_nP h_ (by omega)) (fun q_ => Bool.noConfusion (hif10.2 q_))) (kA kk116 ch22))
   refine rP 6 42 vF<|rP 7 43 vF<|rP 8 44 vF<|rP 9 45 (vB f.kind.toNat)<|nT 10 46 (f.kind.toNat : Int) (2 : Int)<|rP 11 47 vT<|rP 12 48 (pw w 8)<|rq 13 49 _ rfl (lR 8 (Mur.msgC f.gos.kind z.p.A z.p.n z.p.c f.gos.sum f.gos.cnt z.i.A z.i.n z.i.c f.gos.ans) (sgR hI.sz (qT ch22 (qT ch3 (qT ch2 hb1))) 8 6 rfl) (by rw [msgC_length hI.ok.sum]; kernel_rfl)) ?_
   have kk118 := kA kk116 ch22
   refine rK 14 50 (RNoG_any f.gos.kind f.gos.pre z.p.A z.p.n z.p.c f.gos.sum f.gos.cnt f.gos.items z.i.A z.i.n z.i.c f.gos.ans W24 hI.ok.sum (LiesF.chg hL kk118 hLin_).pre (LiesF.chg hL kk118 hLin_).its (by omega) (by omega)) ?_
   rintro _ W25 ⟨bv11, rfl, hif11, ch23⟩
   have zz24 := ch23.size
   cases bv11
   ·exact rP 15 51 vT<|mV 216 22 16 [(44, vF), (47, vT), (51, vT)] 73 vT fun _ => eN<|cT<|sR<|rP 0 2 vF<|eN<|tR<|rt vF (noB (fun h_ => absurd (may_nG h_ (by omega)) (fun q_ => Bool.noConfusion (hif11.2 q_))) (kA kk118 ch23))
   refine rP 15 51 vF<|rP 16 52 vF<|rP 17 53 vF<|rP 18 54 vF<|rP 19 55 (vB f.kind.toNat)<|nT 20 56 (f.kind.toNat : Int) (3 : Int)<|rP 21 57 vT<|rP 22 58 (pw w 45)<|rq 23 59 _ rfl (lR 45 (Mur.claimC f.cKey f.cNode f.cInc f.cCnt f.cGone) (sgR hI.sz (qT ch23 (qT ch22 (qT ch3 (qT ch2 hb1)))) 14 5 rfl) (by rw [claimC_length hI.ok.key]; kernel_rfl))<|rP 24 60 (.agg #[vB 0, vB 0, vB 0, vB 0, vB 0, vB 0, vB 0, vB 0, vB 0, vB 0, vB 0, vB 0, vB 0, vB 0, vB 0, vB 0, vB 0, vB 0, vB 0, vB 0, vB 0, vB 0, vB 0, vB 0, vB 0, vB 0, vB 0, vB 0, vB 0, vB 0, vB 0, vB 0, vI 0, vU 0, vU 0, vF]) ?_
   by_cases hpr17 : f.cKey = z32 ∧ f.cNode = 0 ∧ f.cInc = 0 ∧ f.cCnt = 0 ∧ f.cGone = false
   ·refine rq 25 61 _ rfl (nqF hpr17 (run_neq_claim (ck' := z32) (cn' := 0) (ci' := 0) (cc' := 0) (cg' := false) (.tmp 59) (.tmp 60) 33 rfl hI.ok.key rfl (wf64 hI.cNo.1 hI.cNo.2) (wf64 (by decide) (by decide)) hI.ok.inc (by decide) hI.ok.cnt (by decide) (by kernel_rfl) (by kernel_rfl)))<|rP 26 62 vF<|rP 27 63 vF<|rP 28 64 vF<|rP 29 65 (vB f.kind.toNat)<|nT 30 66 (f.kind.toNat : Int) (4 : Int)<|rP 31 67 vT<|rP 32 68 (pw w 81)<|rq 33 69 _ rfl (lR 81 (Mur.attC f.att.k f.att.r f.att.n f.att.t) (sgR hI.sz (qT ch23 (qT ch22 (qT ch3 (qT ch2 hb1)))) 19 4 frmL_att) (by rw [attC_length f.att.hk f.att.hr f.att.ht]; kernel_rfl))<|rP 34 70 (.agg ((Mur.attC z32 z32 0 z32).toArray)) ?_
    by_cases hpr18 : f.att = Mur.attNone
    ·refine rq 35 71 _ rfl (nqF ((Mur.Att.eq_iff f.att Mur.attNone).1 hpr18) (run_neq_att (.tmp 69) (.tmp 70) 35 rfl f.att.hk f.att.hr f.att.ht Mur.attNone.hk Mur.attNone.hr Mur.attNone.ht f.att.hn Mur.attNone.hn (by kernel_rfl) (by kernel_rfl)))<|rP 36 72 vF<|rP 37 73 vF<|eN<|cF<|wp_skip<|nxt<|wp_seq<|sR<|rP 0 74 (vB f.kind.toNat)<|bF 1 75 ((f.kind.toNat : Int) < (5 : Int))<|rP 2 76 vF<|rZ 3 77<|rZ 4 78<|rZ 5 79<|rZ 6 80<|rZ 7 81<|rZ 8 82<|rZ 9 83<|rZ 10 84<|rZ 11 85<|rP 12 86 vF<|rP 13 87 vF<|rP 14 88 (vB f.kind.toNat)<|nF 15 89 (f.kind.toNat : Int) (6 : Int)<|rP 16 90 vF<|rZ 17 91<|rZ 18 92<|rZ 19 93<|rZ 20 94<|rZ 21 95<|rZ 22 96<|rZ 23 97<|rZ 24 98<|rZ 25 99<|rZ 26 100<|rP 27 101 vF<|rP 28 102 vF<|eN<|cF<|wp_skip<|nxt<|wp_seq<|sR<|?_
     have hbare_ : f = bareM f := Mur.eq_bare (fun _ => (hif10.1 rfl)) (fun _ => (hif11.1 rfl)) (fun _ => hpr17) (fun _ => hpr18) (fun _ h_ => absurd hkk_ h_) (fun h_ => absurd hkk_ h_)
     refine rP 0 103 (vB f.kind.toNat)<|eN<|wp_block<|sR<|eF 0 105 (f.kind.toNat : Int) (1 : Int)<|rP 1 104 vF<|eN<|cF<|sR<|eF 0 167 (f.kind.toNat : Int) (2 : Int)<|rP 1 166 vF<|eN<|cF<|sR<|eF 0 172 (f.kind.toNat : Int) (3 : Int)<|rP 1 171 vF<|eN<|cF<|sR<|eF 0 192 (f.kind.toNat : Int) (4 : Int)<|rP 1 191 vF<|eN<|cF<|wp_skip<|inN<|nxt<|sR<|rP 0 196 (pw w 210)<|rF 1 197 210 (vI f.chunk) hI.sz (qT ch23 (qT ch22 (qT ch3 (qT ch2 hb1)))) 24 ?_
     by_cases hx32 : f.chunk ≥ (0 : Int)
     ·refine bT 2 198 (f.chunk ≥ (0 : Int))<|rP 3 199 vT<|rP 4 200 (pw w 210)<|rF 5 201 210 (vI f.chunk) hI.sz (qT ch23 (qT ch22 (qT ch3 (qT ch2 hb1)))) 24 ?_
      by_cases hx33 : f.chunk < (100 : Int)
      ·refine bT 6 202 (f.chunk < (100 : Int))<|rP 7 203 vT<|rP 8 204 vT<|rP 9 205 (pw w 211)<|rF 10 206 211 (.slice z.y.A z.y.n z.y.c) hI.sz (qT ch23 (qT ch22 (qT ch3 (qT ch2 hb1)))) 25<|rP 11 207 (vI z.y.n) ?_
       by_cases hx34 : (z.y.n : Int) ≤ (64 : Int)
       ·refine bT 12 208 ((z.y.n : Int) ≤ (64 : Int))<|rP 13 209 vT<|rP 14 210 vT<|rP 15 211 (pw w 212)<|rF 16 212 212 (.slice z.f.A z.f.n z.f.c) hI.sz (qT ch23 (qT ch22 (qT ch3 (qT ch2 hb1)))) 26<|rP 17 213 (vI z.f.n) ?_
        by_cases hx35 : (z.f.n : Int) ≤ (10 : Int)
        ·refine bT 18 214 ((z.f.n : Int) ≤ (10 : Int))<|rP 19 215 vT<|rP 20 2 vT<|eN<|wp_ret<|?_
         have hM_ : mayFM f ↔ Mur.mayK6 f := mayFM_6 ⟨hpr1, hpr2, by omega, hbare_⟩ hkk_
         exact rt vT (yesB (hM_.2 ⟨⟨by omega, by omega⟩, by omega, by omega⟩) (kA kk118 ch23))
        refine bF 18 214 ((z.f.n : Int) ≤ (10 : Int))<|rP 19 215 vF<|rP 20 2 vF<|eN<|wp_ret<|?_
        have hM_ : mayFM f ↔ Mur.mayK6 f := mayFM_6 ⟨hpr1, hpr2, by omega, hbare_⟩ hkk_
        exact rt vF (noB (fun h_ => absurd (hM_.1 h_) (fun ⟨⟨q1_, q0_⟩, q2_, q3_⟩ => by omega)) (kA kk118 ch23))
       refine bF 12 208 ((z.y.n : Int) ≤ (64 : Int))<|rP 13 209 vF<|rP 14 210 vF<|rZ 15 211<|rZ 16 212<|rZ 17 213<|rZ 18 214<|rP 19 215 vF<|rP 20 2 vF<|eN<|wp_ret<|?_
       have hM_ : mayFM f ↔ Mur.mayK6 f := mayFM_6 ⟨hpr1, hpr2, by omega, hbare_⟩ hkk_
       exact rt vF (noB (fun h_ => absurd (hM_.1 h_) (fun ⟨⟨q1_, q0_⟩, q2_, q3_⟩ => by omega)) (kA kk118 ch23))
      refine bF 6 202 (f.chunk < (100 : Int))<|rP 7 203 vF<|rP 8 204 vF<|rZ 9 205<|rZ 10 206<|rZ 11 207<|rZ 12 208<|rP 13 209 vF<|rP 14 210 vF<|rZ 15 211<|rZ 16 212<|rZ 17 213<|rZ 18 214<|rP 19 215 vF<|rP 20 2 vF<|eN<|wp_ret<|?_
      have hM_ : mayFM f ↔ Mur.mayK6 f := mayFM_6 ⟨hpr1, hpr2, by omega, hbare_⟩ hkk_
      exact rt vF (noB (fun h_ => absurd (hM_.1 h_) (fun ⟨⟨q1_, q0_⟩, q2_, q3_⟩ => by omega)) (kA kk118 ch23))
     refine bF 2 198 (f.chunk ≥ (0 : Int))<|rP 3 199 vF<|rZ 4 200<|rZ 5 201<|rZ 6 202<|rP 7 203 vF<|rP 8 204 vF<|rZ 9 205<|rZ 10 206<|rZ 11 207<|rZ 12 208<|rP 13 209 vF<|rP 14 210 vF<|rZ 15 211<|rZ 16 212<|rZ 17 213<|rZ 18 214<|rP 19 215 vF<|rP 20 2 vF<|eN<|wp_ret<|?_
     have hM_ : mayFM f ↔ Mur.mayK6 f := mayFM_6 ⟨hpr1, hpr2, by omega, hbare_⟩ hkk_
     exact rt vF (noB (fun h_ => absurd (hM_.1 h_) (fun ⟨⟨q1_, q0_⟩, q2_, q3_⟩ => by omega)) (kA kk118 ch23))
    exact rq 35 71 _ rfl (nqT (fun q_ => hpr18 ((Mur.Att.eq_iff f.att Mur.attNone).2 q_)) (run_neq_att (.tmp 69) (.tmp 70) 35 rfl f.att.hk f.att.hr f.att.ht Mur.attNone.hk Mur.attNone.hr Mur.attNone.ht f.att.hn Mur.attNone.hn (by kernel_rfl) (by kernel_rfl)))<|rP 36 72 vT<|rP 37 73 vT<|eN<|cT<|sR<|rP 0 2 vF<|eN<|tR<|rt vF (noB (fun h_ => absurd (may_nA h_ (by omega)) hpr18) (kA kk118 ch23))
   exact rq 25 61 _ rfl (nqT hpr17 (run_neq_claim (ck' := z32) (cn' := 0) (ci' := 0) (cc' := 0) (cg' := false) (.tmp 59) (.tmp 60) 33 rfl hI.ok.key rfl (wf64 hI.cNo.1 hI.cNo.2) (wf64 (by decide) (by decide)) hI.ok.inc (by decide) hI.ok.cnt (by decide) (by kernel_rfl) (by kernel_rfl)))<|mV 216 12 26 [(54, vF), (57, vT), (61, vT)] 73 vT fun _ => eN<|cT<|sR<|rP 0 2 vF<|eN<|tR<|rt vF (noB (fun h_ => absurd (may_nC h_ (by omega)) hpr17) (kA kk118 ch23))
  rw [decide_eq_false hpr2]
  rintro _ W26 ⟨rfl, ch24⟩
  have zz25 := ch24.size
  exact rP 8 15 vT<|mV 216 18 9 [(11, vF), (15, vT)] 33 vT fun _ => eN<|cT<|sR<|rP 0 2 vF<|eN<|tR<|rt vF (noB (fun h_ => (by have q1_ : 0 ≤ f.frm ∧ f.frm < 16 := h_.1; have q2_ : 0 ≤ f.dst ∧ f.dst < 16 := h_.2.1; first | exact absurd q1_ hpr2 | exact absurd q2_ hpr2)) (kA (kA (zA ch1 : Chg [] w W1) ch2) ch24))
 rw [decide_eq_false hpr1]
 rintro _ W27 ⟨rfl, ch25⟩
 have zz26 := ch25.size
 exact rP 3 10 vT<|mV 216 23 4 [(10, vT)] 33 vT fun _ => eN<|cT<|sR<|rP 0 2 vF<|eN<|tR<|rt vF (noB (fun h_ => (by have q1_ : 0 ≤ f.frm ∧ f.frm < 16 := h_.1; have q2_ : 0 ≤ f.dst ∧ f.dst < 16 := h_.2.1; first | exact absurd q1_ hpr1 | exact absurd q2_ hpr1)) (kA (zA ch1 : Chg [] w W1) ch25))
end Go.Proofs.YtgbadghjnpbiaaaGreatDoor
namespace Go.Proofs.YtgbadghjnpbiaaaGreatDoor
open Go.RowKit Wk
open Mur (b8s Byt Own8 Seg Segs flat cutA attC Att SlA OwnA rowA msgC formN own8_nil conv_u8o own8_lit own8_low formN_len)
set_option maxRecDepth 100000
set_option maxHeartbeats 4000000
def RForm_F1 (b : Array Value) (u0 u3 : Value) : Act := sg 20 [(0, u0), (3, u3)] b
theorem RForm_any (N : Nat) (w : World) (hN : N < 18446744073709551616) : Calls Tryz.prog 87 #[vU N] w fun e w' => ∃ A1 n1 c1, e = .returned (.slice A1 n1 c1) ∧ Own8 w' w.heap.size 5 A1 n1 c1 (formN N) ∧ Chg [] w w' := by
 refine calls_of_wp Tryz.func87 rfl ?_
 refine sR<|rP 0 2 (.slice none 0 0)<|eN<|sR<|rP 0 3 (.slice none 0 0)<|eN<|wp_seq<|wp_block<|?_
 refine Wk.loop (fun m_ a wr => ∃ (m : Nat) (k : Nat) (tl : List UInt8) (A1 : Option Addr) (N1 : Nat) (c1 : Nat), m_ = m ∧ a = RForm_F1 a.tmps (vU m) (.slice A1 N1 c1) ∧ Mur.FormAt N m k tl ∧ Own8 wr w.heap.size 5 A1 N1 c1 tl ∧ m < 18446744073709551616 ∧ Chg [] w wr) (N) ?_ ?_
 ·refine ⟨N, 0, [], none, 0, 0, rfl, by kernel_rfl, (by rw [show (0 : Nat) = 0 from rfl]; exact Mur.formAt_zero N), own8_nil _ _ _, (by omega), (Chg.refl _)⟩
 rintro mm1 aa1 W1 ⟨m, k, tl, A1, N1, c1, hmm1, hF1, hF, hO, hmN, HB⟩
 generalize aa1.tmps = bb1 at hF1
 subst hF1
 have hzB := HB.size
 have hOn := hO.nc
 have hOc := hO.cm
 have hOl := hO.byt.1
 have hFl_ := hF.2
 have hF0_ := Mur.formAt_le hF hN
 refine wp_seq<|sR<|rP 0 4 (vU m) ?_
 by_cases hx1 : (m : Int) > (0 : Int)
 ·refine bT 1 5 ((m : Int) > (0 : Int))<|eN<|cT<|wp_skip<|nxt<|wp_block<|sR<|rP 0 6 (vU m)<|rq 1 7 (vU (m % 256 : Nat)) rfl (Mur.rem_u64 23 23 (.tmp 6) (.const (vU 256)) rfl m 256 (by kernel_rfl) (by kernel_rfl) (by omega))<|rq 2 8 (vB ((UInt8.ofNat (m % 256)).toNat : Nat)) rfl (conv_u8o 23 5 (.tmp 7) rfl (by kernel_rfl) Tryz.underlying5 .u64 (m % 256) (by kernel_rfl))<|nS 3 9 1 #[vB ((UInt8.ofNat (m % 256)).toNat : Nat)] 5 fun W2 hb1 ch1 sz1 => rP 4 10 (.slice A1 N1 c1) ?_
  have ow1 : Mur.Own8 W2 W1.heap.size 5 (some ⟨W1.heap.size, 0, none⟩) 1 1 [(UInt8.ofNat (m % 256))] := own8_lit hb1 (Nat.le_refl _) rfl (by omega)
  have ow2 := oA hO ch1
  refine rX 5 11 rfl rfl (ap8 N1 c1 ow1.own ow2.byt ow2.nil (1 + N1) (([(UInt8.ofNat (m % 256))]) ++ tl)) ?_
  rintro _ W3 ⟨AA1, nn1, rfl, ow3, ch2, ha1⟩
  have zz2 := ch2.size
  have hq1 := ow3.nc
  have hq2 := ow3.cm
  refine rP 6 3 (.slice AA1 (1 + N1) nn1)<|eN<|reg<|rP 0 12 (vU m)<|rq 1 13 (vU (m / 256 : Nat)) rfl (Mur.quo_u64 23 23 (.tmp 12) (.const (vU 256)) rfl m 256 (by kernel_rfl) (by kernel_rfl) (by omega) (by omega))<|rP 2 0 (vU (m / 256 : Nat))<|rE<|inN<|nxt<|?_
  refine ⟨_, ?_, m / 256, k + 1, UInt8.ofNat (m % 256) :: tl, AA1, 1 + N1, nn1, rfl, by kernel_rfl, (Mur.formAt_step hF (by omega)), (own8_low ow3 (by omega)), (by omega), (Chg.step (kA HB ch1) ch2 (newOr_blk (fun g hg => by have := ow1.lt g hg; omega)))⟩
  omega
 refine bF 1 5 ((m : Int) > (0 : Int))<|eN<|cF<|xX<|nxt<|sR<|rP 0 14 (.slice A1 N1 c1)<|rP 1 15 (vI N1)<|rq 2 16 (vB ((UInt8.ofNat N1).toNat : Nat)) rfl (conv_u8o 3 5 (.tmp 15) rfl (by kernel_rfl) Tryz.underlying5 .i64 N1 (by kernel_rfl))<|nS 3 17 1 #[vB ((UInt8.ofNat N1).toNat : Nat)] 5 fun W4 hb2 ch3 sz2 => rP 4 18 (.slice A1 N1 c1) ?_
 have ow4 : Mur.Own8 W4 W1.heap.size 5 (some ⟨W1.heap.size, 0, none⟩) 1 1 [(UInt8.ofNat N1)] := own8_lit hb2 (Nat.le_refl _) rfl (by omega)
 have ow5 := oA hO ch3
 refine rX 5 19 rfl rfl (ap8 N1 c1 ow4.own ow5.byt ow5.nil (1 + N1) (([(UInt8.ofNat N1)]) ++ tl)) ?_
 rintro _ W5 ⟨AA2, nn2, rfl, ow6, ch4, ha2⟩
 have zz4 := ch4.size
 have hq3 := ow6.nc
 have hq4 := ow6.cm
 refine rP 6 2 (.slice AA2 (1 + N1) nn2)<|eN<|wp_ret<|?_
 obtain rfl : m = 0 := by omega
 exact rt (.slice AA2 (1 + N1) nn2) ⟨_, _, _, rfl, (by rw [Mur.formAt_end hF, ← hFl_, hOl]; exact own8_low ow6 (by omega)), (Chg.step (kA HB ch3) ch4 (newOr_blk (fun g hg => by have := ow4.lt g hg; omega)))⟩
theorem RNat1_any (q N1 : Nat) (w : World) (hq : w.heap[q]? = some (.cells #[vU N1] 23 (0, 0))) (hN1 : N1 < 18446744073709551616) : Calls Tryz.prog 63 #[.slice (some ⟨q, 0, none⟩) 1 1] w fun e w' => ∃ A1 n1 c1, e = .returned (.slice A1 n1 c1) ∧ Own8 w' w.heap.size 5 A1 n1 c1 (formN N1) ∧ n1 ≤ 9 ∧ Chg [] w w' := by
 have hql_ := (Array.getElem?_eq_some_iff.1 hq).1
 refine calls_of_wp Tryz.func63 rfl ?_
 refine sR<|rP 0 2 (.slice none 0 0)<|eN<|sR<|rP 0 3 (.slice none 0 0)<|eN<|wp_seq<|sR<|rP 0 4 (vI 0)<|eN<|wp_block<|?_
 refine Wk.loopN 2 ?_
 refine Wk.rdS<|wp_seq<|sR<|?_
 refine rP 0 5 (vI 0)<|rP 1 6 (.slice (some ⟨q, 0, none⟩) 1 1)<|rP 2 7 (vI 1)<|bT 3 8 ((0 : Int) < (1 : Int))<|eN<|cT<|wp_skip<|nxt<|wp_seq<|wp_block<|reg<|rP 0 11 (.slice none 0 0)<|rP 1 12 (.slice (some ⟨q, 0, none⟩) 1 1)<|rP 2 13 (vI 0)<|rq 3 14 (pt q 0) rfl (iS 1 q 0 1 1 0)<|rL 4 15 0 (vU N1) hq<|rK 5 16 (RForm_any N1 w hN1) ?_
 rintro _ W1 ⟨AA1, nn1, cc1, rfl, ow1, ch1⟩
 have zz1 := ch1.size
 have hq1 := ow1.nc
 have hq2 := ow1.cm
 have hq3 := ow1.byt.1
 have hfl1 := formN_len hN1
 have ow2 := own8_nil W1 W1.heap.size 5
 refine rX 6 17 rfl rfl (ap8 nn1 cc1 ow2.own ow1.byt ow1.nil nn1 (formN N1)) ?_
 rintro _ W2 ⟨AA2, nn2, rfl, ow3, ch2, ha1⟩
 have zz2 := ch2.size
 have hq4 := ow3.nc
 have hq5 := ow3.cm
 exact rP 7 3 (.slice AA2 nn1 nn2)<|rE<|inN<|nxt<|reg<|rP 0 9 (vI 0)<|rI 1 10 (0 + 1) (1)<|rP 2 4 (vI 1)<|eN<|Wk.rdS<|wp_seq<|sR<|rP 0 5 (vI 1)<|rP 1 6 (.slice (some ⟨q, 0, none⟩) 1 1)<|rP 2 7 (vI 1)<|bF 3 8 ((1 : Int) < (1 : Int))<|eN<|cF<|xX<|nxt<|sR<|rP 0 18 (.slice AA2 nn1 nn2)<|rP 1 2 (.slice AA2 nn1 nn2)<|eN<|wp_ret<|rt (.slice AA2 nn1 nn2) ⟨_, _, _, rfl, own8_low ow3 (by omega), by omega, (Chg.step (zA ch1 : Chg [] w W1) ch2 (newOr_blk (fun g hg => by have := ow2.lt g hg; omega)))⟩
theorem RNat2_any (q N1 N2 : Nat) (w : World) (hq : w.heap[q]? = some (.cells #[vU N1, vU N2] 23 (0, 0))) (hN1 : N1 < 18446744073709551616) (hN2 : N2 < 18446744073709551616) : Calls Tryz.prog 63 #[.slice (some ⟨q, 0, none⟩) 2 2] w fun e w' => ∃ A1 n1 c1, e = .returned (.slice A1 n1 c1) ∧ Own8 w' w.heap.size 5 A1 n1 c1 (formN N1 ++ formN N2) ∧ n1 ≤ 18 ∧ Chg [] w w' := by
 have hql_ := (Array.getElem?_eq_some_iff.1 hq).1
 refine calls_of_wp Tryz.func63 rfl ?_
 refine sR<|rP 0 2 (.slice none 0 0)<|eN<|sR<|rP 0 3 (.slice none 0 0)<|eN<|wp_seq<|sR<|rP 0 4 (vI 0)<|eN<|wp_block<|?_
 refine Wk.loopN 3 ?_
 refine Wk.rdS<|wp_seq<|sR<|?_
 refine rP 0 5 (vI 0)<|rP 1 6 (.slice (some ⟨q, 0, none⟩) 2 2)<|rP 2 7 (vI 2)<|bT 3 8 ((0 : Int) < (2 : Int))<|eN<|cT<|wp_skip<|nxt<|wp_seq<|wp_block<|reg<|rP 0 11 (.slice none 0 0)<|rP 1 12 (.slice (some ⟨q, 0, none⟩) 2 2)<|rP 2 13 (vI 0)<|rq 3 14 (pt q 0) rfl (iS 1 q 0 2 2 0)<|rL 4 15 0 (vU N1) hq<|rK 5 16 (RForm_any N1 w hN1) ?_
 rintro _ W1 ⟨AA1, nn1, cc1, rfl, ow1, ch1⟩
 have zz1 := ch1.size
 have hq1 := ow1.nc
 have hq2 := ow1.cm
 have hq3 := ow1.byt.1
 have hfl1 := formN_len hN1
 have ow2 := own8_nil W1 W1.heap.size 5
 refine rX 6 17 rfl rfl (ap8 nn1 cc1 ow2.own ow1.byt ow1.nil nn1 (formN N1)) ?_
 rintro _ W2 ⟨AA2, nn2, rfl, ow3, ch2, ha1⟩
 have zz2 := ch2.size
 have hq4 := ow3.nc
 have hq5 := ow3.cm
 refine rP 7 3 (.slice AA2 nn1 nn2)<|rE<|inN<|nxt<|reg<|rP 0 9 (vI 0)<|rI 1 10 (0 + 1) (1)<|rP 2 4 (vI 1)<|eN<|Wk.rdS<|wp_seq<|sR<|rP 0 5 (vI 1)<|rP 1 6 (.slice (some ⟨q, 0, none⟩) 2 2)<|rP 2 7 (vI 2)<|bT 3 8 ((1 : Int) < (2 : Int))<|eN<|cT<|wp_skip<|nxt<|wp_seq<|wp_block<|reg<|rP 0 11 (.slice AA2 nn1 nn2)<|rP 1 12 (.slice (some ⟨q, 0, none⟩) 2 2)<|rP 2 13 (vI 1)<|rq 3 14 (pt q 1) rfl (iS 1 q 0 2 2 1) ?_
 have kk2 := Chg.step (zA ch1 : Chg [] w W1) ch2 (newOr_blk (fun g hg => by have := ow2.lt g hg; omega))
 refine rL 4 15 1 (vU N2) (qT kk2 hq)<|rK 5 16 (RForm_any N2 W2 hN2) ?_
 rintro _ W3 ⟨AA3, nn3, cc2, rfl, ow4, ch3⟩
 have zz3 := ch3.size
 have hq6 := ow4.nc
 have hq7 := ow4.cm
 have hq8 := ow4.byt.1
 have hfl2 := formN_len hN2
 refine rX 6 17 rfl rfl (ap8 nn3 cc2 (oA ow3 ch3).own ow4.byt ow4.nil (nn1 + nn3) ((formN N1) ++ (formN N2))) ?_
 rintro _ W4 ⟨AA4, nn4, rfl, ow6, ch4, ha2⟩
 have zz4 := ch4.size
 have hq9 := ow6.nc
 have hq10 := ow6.cm
 exact rP 7 3 (.slice AA4 (nn1 + nn3) nn4)<|rE<|inN<|nxt<|reg<|rP 0 9 (vI 1)<|rI 1 10 (1 + 1) (2)<|rP 2 4 (vI 2)<|eN<|Wk.rdS<|wp_seq<|sR<|rP 0 5 (vI 2)<|rP 1 6 (.slice (some ⟨q, 0, none⟩) 2 2)<|rP 2 7 (vI 2)<|bF 3 8 ((2 : Int) < (2 : Int))<|eN<|cF<|xX<|nxt<|sR<|rP 0 18 (.slice AA4 (nn1 + nn3) nn4)<|rP 1 2 (.slice AA4 (nn1 + nn3) nn4)<|eN<|wp_ret<|rt (.slice AA4 (nn1 + nn3) nn4) ⟨_, _, _, rfl, own8_low ow6 (by omega), by omega, (Chg.step (kA kk2 ch3) ch4 (newOr_blk (fun g hg => by have := ow3.lt g hg; omega)))⟩
theorem RNat3_any (q N1 N2 N3 : Nat) (w : World) (hq : w.heap[q]? = some (.cells #[vU N1, vU N2, vU N3] 23 (0, 0))) (hN1 : N1 < 18446744073709551616) (hN2 : N2 < 18446744073709551616) (hN3 : N3 < 18446744073709551616) : Calls Tryz.prog 63 #[.slice (some ⟨q, 0, none⟩) 3 3] w fun e w' => ∃ A1 n1 c1, e = .returned (.slice A1 n1 c1) ∧ Own8 w' w.heap.size 5 A1 n1 c1 (formN N1 ++ formN N2 ++ formN N3) ∧ n1 ≤ 27 ∧ Chg [] w w' := by
 have hql_ := (Array.getElem?_eq_some_iff.1 hq).1
 refine calls_of_wp Tryz.func63 rfl ?_
 refine sR<|rP 0 2 (.slice none 0 0)<|eN<|sR<|rP 0 3 (.slice none 0 0)<|eN<|wp_seq<|sR<|rP 0 4 (vI 0)<|eN<|wp_block<|?_
 refine Wk.loopN 4 ?_
 refine Wk.rdS<|wp_seq<|sR<|?_
 refine rP 0 5 (vI 0)<|rP 1 6 (.slice (some ⟨q, 0, none⟩) 3 3)<|rP 2 7 (vI 3)<|bT 3 8 ((0 : Int) < (3 : Int))<|eN<|cT<|wp_skip<|nxt<|wp_seq<|wp_block<|reg<|rP 0 11 (.slice none 0 0)<|rP 1 12 (.slice (some ⟨q, 0, none⟩) 3 3)<|rP 2 13 (vI 0)<|rq 3 14 (pt q 0) rfl (iS 1 q 0 3 3 0)<|rL 4 15 0 (vU N1) hq<|rK 5 16 (RForm_any N1 w hN1) ?_
 rintro _ W1 ⟨AA1, nn1, cc1, rfl, ow1, ch1⟩
 have zz1 := ch1.size
 have hq1 := ow1.nc
 have hq2 := ow1.cm
 have hq3 := ow1.byt.1
 have hfl1 := formN_len hN1
 have ow2 := own8_nil W1 W1.heap.size 5
 refine rX 6 17 rfl rfl (ap8 nn1 cc1 ow2.own ow1.byt ow1.nil nn1 (formN N1)) ?_
 rintro _ W2 ⟨AA2, nn2, rfl, ow3, ch2, ha1⟩
 have zz2 := ch2.size
 have hq4 := ow3.nc
 have hq5 := ow3.cm
 refine rP 7 3 (.slice AA2 nn1 nn2)<|rE<|inN<|nxt<|reg<|rP 0 9 (vI 0)<|rI 1 10 (0 + 1) (1)<|rP 2 4 (vI 1)<|eN<|Wk.rdS<|wp_seq<|sR<|rP 0 5 (vI 1)<|rP 1 6 (.slice (some ⟨q, 0, none⟩) 3 3)<|rP 2 7 (vI 3)<|bT 3 8 ((1 : Int) < (3 : Int))<|eN<|cT<|wp_skip<|nxt<|wp_seq<|wp_block<|reg<|rP 0 11 (.slice AA2 nn1 nn2)<|rP 1 12 (.slice (some ⟨q, 0, none⟩) 3 3)<|rP 2 13 (vI 1)<|rq 3 14 (pt q 1) rfl (iS 1 q 0 3 3 1) ?_
 have kk2 := Chg.step (zA ch1 : Chg [] w W1) ch2 (newOr_blk (fun g hg => by have := ow2.lt g hg; omega))
 refine rL 4 15 1 (vU N2) (qT kk2 hq)<|rK 5 16 (RForm_any N2 W2 hN2) ?_
 rintro _ W3 ⟨AA3, nn3, cc2, rfl, ow4, ch3⟩
 have zz3 := ch3.size
 have hq6 := ow4.nc
 have hq7 := ow4.cm
 have hq8 := ow4.byt.1
 have hfl2 := formN_len hN2
 refine rX 6 17 rfl rfl (ap8 nn3 cc2 (oA ow3 ch3).own ow4.byt ow4.nil (nn1 + nn3) ((formN N1) ++ (formN N2))) ?_
 rintro _ W4 ⟨AA4, nn4, rfl, ow6, ch4, ha2⟩
 have zz4 := ch4.size
 have hq9 := ow6.nc
 have hq10 := ow6.cm
 refine rP 7 3 (.slice AA4 (nn1 + nn3) nn4)<|rE<|inN<|nxt<|reg<|rP 0 9 (vI 1)<|rI 1 10 (1 + 1) (2)<|rP 2 4 (vI 2)<|eN<|Wk.rdS<|wp_seq<|sR<|rP 0 5 (vI 2)<|rP 1 6 (.slice (some ⟨q, 0, none⟩) 3 3)<|rP 2 7 (vI 3)<|bT 3 8 ((2 : Int) < (3 : Int))<|eN<|cT<|wp_skip<|nxt<|wp_seq<|wp_block<|reg<|rP 0 11 (.slice AA4 (nn1 + nn3) nn4)<|rP 1 12 (.slice (some ⟨q, 0, none⟩) 3 3)<|rP 2 13 (vI 2)<|rq 3 14 (pt q 2) rfl (iS 1 q 0 3 3 2) ?_
 have kk4 := Chg.step (kA kk2 ch3) ch4 (newOr_blk (fun g hg => by have := ow3.lt g hg; omega))
 refine rL 4 15 2 (vU N3) (qT kk4 hq)<|rK 5 16 (RForm_any N3 W4 hN3) ?_
 rintro _ W5 ⟨AA5, nn5, cc3, rfl, ow7, ch5⟩
 have zz5 := ch5.size
 have hq11 := ow7.nc
 have hq12 := ow7.cm
 have hq13 := ow7.byt.1
 have hfl3 := formN_len hN3
 refine rX 6 17 rfl rfl (ap8 nn5 cc3 (oA ow6 ch5).own ow7.byt ow7.nil (nn1 + nn3 + nn5) (((formN N1) ++ (formN N2)) ++ (formN N3))) ?_
 rintro _ W6 ⟨AA6, nn6, rfl, ow9, ch6, ha3⟩
 have zz6 := ch6.size
 have hq14 := ow9.nc
 have hq15 := ow9.cm
 exact rP 7 3 (.slice AA6 (nn1 + nn3 + nn5) nn6)<|rE<|inN<|nxt<|reg<|rP 0 9 (vI 2)<|rI 1 10 (2 + 1) (3)<|rP 2 4 (vI 3)<|eN<|Wk.rdS<|wp_seq<|sR<|rP 0 5 (vI 3)<|rP 1 6 (.slice (some ⟨q, 0, none⟩) 3 3)<|rP 2 7 (vI 3)<|bF 3 8 ((3 : Int) < (3 : Int))<|eN<|cF<|xX<|nxt<|sR<|rP 0 18 (.slice AA6 (nn1 + nn3 + nn5) nn6)<|rP 1 2 (.slice AA6 (nn1 + nn3 + nn5) nn6)<|eN<|wp_ret<|rt (.slice AA6 (nn1 + nn3 + nn5) nn6) ⟨_, _, _, rfl, own8_low ow9 (by omega), by omega, (Chg.step (kA kk4 ch5) ch6 (newOr_blk (fun g hg => by have := ow6.lt g hg; omega)))⟩
theorem RNat4_any (q N1 N2 N3 N4 : Nat) (w : World) (hq : w.heap[q]? = some (.cells #[vU N1, vU N2, vU N3, vU N4] 23 (0, 0))) (hN1 : N1 < 18446744073709551616) (hN2 : N2 < 18446744073709551616) (hN3 : N3 < 18446744073709551616) (hN4 : N4 < 18446744073709551616) : Calls Tryz.prog 63 #[.slice (some ⟨q, 0, none⟩) 4 4] w fun e w' => ∃ A1 n1 c1, e = .returned (.slice A1 n1 c1) ∧ Own8 w' w.heap.size 5 A1 n1 c1 (formN N1 ++ formN N2 ++ formN N3 ++ formN N4) ∧ n1 ≤ 36 ∧ Chg [] w w' := by
 have hql_ := (Array.getElem?_eq_some_iff.1 hq).1
 refine calls_of_wp Tryz.func63 rfl ?_
 refine sR<|rP 0 2 (.slice none 0 0)<|eN<|sR<|rP 0 3 (.slice none 0 0)<|eN<|wp_seq<|sR<|rP 0 4 (vI 0)<|eN<|wp_block<|?_
 refine Wk.loopN 5 ?_
 refine Wk.rdS<|wp_seq<|sR<|?_
 refine rP 0 5 (vI 0)<|rP 1 6 (.slice (some ⟨q, 0, none⟩) 4 4)<|rP 2 7 (vI 4)<|bT 3 8 ((0 : Int) < (4 : Int))<|eN<|cT<|wp_skip<|nxt<|wp_seq<|wp_block<|reg<|rP 0 11 (.slice none 0 0)<|rP 1 12 (.slice (some ⟨q, 0, none⟩) 4 4)<|rP 2 13 (vI 0)<|rq 3 14 (pt q 0) rfl (iS 1 q 0 4 4 0)<|rL 4 15 0 (vU N1) hq<|rK 5 16 (RForm_any N1 w hN1) ?_
 rintro _ W1 ⟨AA1, nn1, cc1, rfl, ow1, ch1⟩
 have zz1 := ch1.size
 have hq1 := ow1.nc
 have hq2 := ow1.cm
 have hq3 := ow1.byt.1
 have hfl1 := formN_len hN1
 have ow2 := own8_nil W1 W1.heap.size 5
 refine rX 6 17 rfl rfl (ap8 nn1 cc1 ow2.own ow1.byt ow1.nil nn1 (formN N1)) ?_
 rintro _ W2 ⟨AA2, nn2, rfl, ow3, ch2, ha1⟩
 have zz2 := ch2.size
 have hq4 := ow3.nc
 have hq5 := ow3.cm
 refine rP 7 3 (.slice AA2 nn1 nn2)<|rE<|inN<|nxt<|reg<|rP 0 9 (vI 0)<|rI 1 10 (0 + 1) (1)<|rP 2 4 (vI 1)<|eN<|Wk.rdS<|wp_seq<|sR<|rP 0 5 (vI 1)<|rP 1 6 (.slice (some ⟨q, 0, none⟩) 4 4)<|rP 2 7 (vI 4)<|bT 3 8 ((1 : Int) < (4 : Int))<|eN<|cT<|wp_skip<|nxt<|wp_seq<|wp_block<|reg<|rP 0 11 (.slice AA2 nn1 nn2)<|rP 1 12 (.slice (some ⟨q, 0, none⟩) 4 4)<|rP 2 13 (vI 1)<|rq 3 14 (pt q 1) rfl (iS 1 q 0 4 4 1) ?_
 have kk2 := Chg.step (zA ch1 : Chg [] w W1) ch2 (newOr_blk (fun g hg => by have := ow2.lt g hg; omega))
 refine rL 4 15 1 (vU N2) (qT kk2 hq)<|rK 5 16 (RForm_any N2 W2 hN2) ?_
 rintro _ W3 ⟨AA3, nn3, cc2, rfl, ow4, ch3⟩
 have zz3 := ch3.size
 have hq6 := ow4.nc
 have hq7 := ow4.cm
 have hq8 := ow4.byt.1
 have hfl2 := formN_len hN2
 refine rX 6 17 rfl rfl (ap8 nn3 cc2 (oA ow3 ch3).own ow4.byt ow4.nil (nn1 + nn3) ((formN N1) ++ (formN N2))) ?_
 rintro _ W4 ⟨AA4, nn4, rfl, ow6, ch4, ha2⟩
 have zz4 := ch4.size
 have hq9 := ow6.nc
 have hq10 := ow6.cm
 refine rP 7 3 (.slice AA4 (nn1 + nn3) nn4)<|rE<|inN<|nxt<|reg<|rP 0 9 (vI 1)<|rI 1 10 (1 + 1) (2)<|rP 2 4 (vI 2)<|eN<|Wk.rdS<|wp_seq<|sR<|rP 0 5 (vI 2)<|rP 1 6 (.slice (some ⟨q, 0, none⟩) 4 4)<|rP 2 7 (vI 4)<|bT 3 8 ((2 : Int) < (4 : Int))<|eN<|cT<|wp_skip<|nxt<|wp_seq<|wp_block<|reg<|rP 0 11 (.slice AA4 (nn1 + nn3) nn4)<|rP 1 12 (.slice (some ⟨q, 0, none⟩) 4 4)<|rP 2 13 (vI 2)<|rq 3 14 (pt q 2) rfl (iS 1 q 0 4 4 2) ?_
 have kk4 := Chg.step (kA kk2 ch3) ch4 (newOr_blk (fun g hg => by have := ow3.lt g hg; omega))
 refine rL 4 15 2 (vU N3) (qT kk4 hq)<|rK 5 16 (RForm_any N3 W4 hN3) ?_
 rintro _ W5 ⟨AA5, nn5, cc3, rfl, ow7, ch5⟩
 have zz5 := ch5.size
 have hq11 := ow7.nc
 have hq12 := ow7.cm
 have hq13 := ow7.byt.1
 have hfl3 := formN_len hN3
 refine rX 6 17 rfl rfl (ap8 nn5 cc3 (oA ow6 ch5).own ow7.byt ow7.nil (nn1 + nn3 + nn5) (((formN N1) ++ (formN N2)) ++ (formN N3))) ?_
 rintro _ W6 ⟨AA6, nn6, rfl, ow9, ch6, ha3⟩
 have zz6 := ch6.size
 have hq14 := ow9.nc
 have hq15 := ow9.cm
 refine rP 7 3 (.slice AA6 (nn1 + nn3 + nn5) nn6)<|rE<|inN<|nxt<|reg<|rP 0 9 (vI 2)<|rI 1 10 (2 + 1) (3)<|rP 2 4 (vI 3)<|eN<|Wk.rdS<|wp_seq<|sR<|rP 0 5 (vI 3)<|rP 1 6 (.slice (some ⟨q, 0, none⟩) 4 4)<|rP 2 7 (vI 4)<|bT 3 8 ((3 : Int) < (4 : Int))<|eN<|cT<|wp_skip<|nxt<|wp_seq<|wp_block<|reg<|rP 0 11 (.slice AA6 (nn1 + nn3 + nn5) nn6)<|rP 1 12 (.slice (some ⟨q, 0, none⟩) 4 4)<|rP 2 13 (vI 3)<|rq 3 14 (pt q 3) rfl (iS 1 q 0 4 4 3) ?_
 have kk6 := Chg.step (kA kk4 ch5) ch6 (newOr_blk (fun g hg => by have := ow6.lt g hg; omega))
 refine rL 4 15 3 (vU N4) (qT kk6 hq)<|rK 5 16 (RForm_any N4 W6 hN4) ?_
 rintro _ W7 ⟨AA7, nn7, cc4, rfl, ow10, ch7⟩
 have zz7 := ch7.size
 have hq16 := ow10.nc
 have hq17 := ow10.cm
 have hq18 := ow10.byt.1
 have hfl4 := formN_len hN4
 refine rX 6 17 rfl rfl (ap8 nn7 cc4 (oA ow9 ch7).own ow10.byt ow10.nil (nn1 + nn3 + nn5 + nn7) ((((formN N1) ++ (formN N2)) ++ (formN N3)) ++ (formN N4))) ?_
 rintro _ W8 ⟨AA8, nn8, rfl, ow12, ch8, ha4⟩
 have zz8 := ch8.size
 have hq19 := ow12.nc
 have hq20 := ow12.cm
 exact rP 7 3 (.slice AA8 (nn1 + nn3 + nn5 + nn7) nn8)<|rE<|inN<|nxt<|reg<|rP 0 9 (vI 3)<|rI 1 10 (3 + 1) (4)<|rP 2 4 (vI 4)<|eN<|Wk.rdS<|wp_seq<|sR<|rP 0 5 (vI 4)<|rP 1 6 (.slice (some ⟨q, 0, none⟩) 4 4)<|rP 2 7 (vI 4)<|bF 3 8 ((4 : Int) < (4 : Int))<|eN<|cF<|xX<|nxt<|sR<|rP 0 18 (.slice AA8 (nn1 + nn3 + nn5 + nn7) nn8)<|rP 1 2 (.slice AA8 (nn1 + nn3 + nn5 + nn7) nn8)<|eN<|wp_ret<|rt (.slice AA8 (nn1 + nn3 + nn5 + nn7) nn8) ⟨_, _, _, rfl, own8_low ow12 (by omega), by omega, (Chg.step (kA kk6 ch7) ch8 (newOr_blk (fun g hg => by have := ow9.lt g hg; omega)))⟩
theorem RFlag_any (b : Bool) (w : World) : Calls Tryz.prog 65 #[.bool b] w fun e w' => e = .returned (vU (Mur.flagN b : Nat)) ∧ Chg [] w w' := by
 refine calls_of_wp Tryz.func65 rfl ?_
 refine sR<|rP 0 2 (vU 0)<|eN<|wp_seq<|sR<|rP 0 3 (.bool b)<|eN<|?_
 cases b
 ·exact cF<|wp_skip<|nxt<|sR<|rP 0 2 (vU 0)<|eN<|wp_ret<|rt (vU 0) ⟨rfl, (Chg.refl _)⟩
 exact cT<|sR<|rP 0 2 (vU 1)<|eN<|tR<|rt (vU 1) ⟨rfl, (Chg.refl _)⟩
theorem RTagged_any (b : List UInt8) (A : Option Addr) (n c : Nat) (w : World) (hb : Byt w A n b) (hnc : n ≤ c ∧ c ≤ 9223372036854775807) (hnil : A = none → c = 0) (hn : n ≤ 1000000) : Calls Tryz.prog 36 #[.slice A n c] w fun e w' => ∃ A1 n1 c1, e = .returned (.slice A1 n1 c1) ∧ Own8 w' w.heap.size 5 A1 n1 c1 (18 :: b) ∧ Chg [] w w' := by
 have hnc_ := hnc
 have hbl_ := hb.1
 refine calls_of_wp Tryz.func36 rfl ?_
 refine sR<|rP 0 2 (.slice none 0 0)<|eN<|sR<|nS 0 3 1 #[vB 18] 5 fun W1 hb1 ch1 sz1 => rP 1 4 (.slice A n c) ?_
 have ow1 : Mur.Own8 W1 w.heap.size 5 (some ⟨w.heap.size, 0, none⟩) 1 1 [18] := own8_lit hb1 (Nat.le_refl _) rfl (by omega)
 have kk1 : Chg [] w W1 := zA ch1
 refine rX 2 5 rfl rfl (ap8 n c ow1.own (Mur.byt_chg hb kk1 (fun g off e hl => trivial)) hnil (1 + n) (([18]) ++ b)) ?_
 rintro _ W2 ⟨AA1, nn1, rfl, ow2, ch2, ha1⟩
 have zz2 := ch2.size
 have hq1 := ow2.nc
 have hq2 := ow2.cm
 exact rP 3 2 (.slice AA1 (1 + n) nn1)<|eN<|wp_ret<|rt (.slice AA1 (1 + n) nn1) ⟨_, _, _, rfl, own8_low ow2 (by omega), (Chg.step kk1 ch2 (newOr_blk (fun g hg => by have := ow1.lt g hg; omega)))⟩
end Go.Proofs.YtgbadghjnpbiaaaGreatDoor
