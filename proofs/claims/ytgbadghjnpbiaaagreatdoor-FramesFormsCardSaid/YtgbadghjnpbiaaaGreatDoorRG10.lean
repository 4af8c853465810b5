/- What the row rests on, part 10. -/
import Derived.Test.YtgbadghjnpbiaaaGreatDoorRG9
import Derived.Test.YtgbadghjnpbiaaaGreatDoorRG6
import Derived.Test.YtgbadghjnpbiaaaGreatDoorRG7
namespace Go.Proofs.YtgbadghjnpbiaaaGreatDoor
open Go.RowKit Wk
open Mur (b8s Byt Own8 Seg Segs flat cutA attC Att SlA OwnA rowA msgC Frm Zs FrmIn frmP segs_cell frmL_sz frmL_size frmL_all segs_rng store_segs frmL sl0 z32 bareM_1 bareZ_1 msgC_length bareM_2 bareZ_2 claimC_length bareM_3 bareZ_3 attC_length frmL_att bareM_4 bareZ_4 b8s_length segs_row b8s_one store_seg1 bareM_5 bareZ_5 bareM_6 bareZ_6 bareM_0 bareZ_0 LiesF msgC_size msgC_all msg_kind msg_pre byt_chg msg_sum run_eql_yes msg_cnt msg_items msg_ans run_eql_no)
set_option maxRecDepth 100000
set_option maxHeartbeats 4000000
def SameF_J1_1 (b : Array Value) (u2 u3 u5 u6 : Value) : Act := sg 155 [(2, u2), (3, u3), (5, u5), (6, u6)] b
def SameF_J2_2 (b : Array Value) (u2 u3 u5 u6 u7 u8 : Value) : Act := sg 155 [(2, u2), (3, u3), (5, u5), (6, u6), (7, u7), (8, u8)] b
theorem Bare_any (f : Frm) (z : Zs) (w : World) (hI : FrmIn f) : Calls Tryz.prog 20 #[.agg (frmP f z).flatten.toArray] w fun e w' => e = .returned (.agg (frmP (Mur.bareM f) (Mur.bareZ f z)).flatten.toArray) ∧ Chg [] w w' := by
 refine calls_of_wp Tryz.func20 rfl ?_
 refine sR<|nW 0 1 ((frmP f z).flatten.toArray) 38 fun W1 hb1 ch1 sz1 => nW 1 2 ((frmh 0 0 0).flatten.toArray) 38 fun W2 hb2 ch2 sz2 => eN<|sR<|rP 0 4 (pw w 0)<|rF 1 5 0 (vB f.kind.toNat) hI.sz (qT ch2 hb1) 0<|rP 2 6 (pw w 1)<|rF 3 7 1 (vI f.frm) hI.sz (qT ch2 hb1) 1<|rP 4 8 (pw w 2)<|rF 5 9 2 (vI f.dst) hI.sz (qT ch2 hb1) 2<|rq 6 10 (.agg ((frmh f.kind f.frm f.dst).flatten.toArray)) rfl (Mur.run_built 38 _ rfl [(0, vB f.kind.toNat), (1, vI f.frm), (2, vI f.dst)] (by kernel_rfl) _ (built_head3 f.kind f.frm f.dst))<|nW 7 3 ((frmh 0 0 0).flatten.toArray) 38 fun W3 hb3 ch3 sz3 => rU 8 rfl (sA (frmh f.kind f.frm f.dst).flatten.toArray (frmL_size (frmL_sz rfl rfl rfl rfl rfl rfl)) hb3 (frmL_size (frmL_sz rfl rfl rfl rfl rfl rfl))) fun W4 hb4 ch4 zz4 => eN<|wp_seq<|sR<|rP 0 11 (pw w 0)<|rF 1 12 0 (vB f.kind.toNat) hI.sz (qO ch4 (qT ch3 (qT ch2 hb1))) 0<|eN<|wp_block<|sR<|?_
 by_cases hx1 : (f.kind.toNat : Int) = (1 : Int)
 ·refine eT 0 14 (f.kind.toNat : Int) (1 : Int)<|rP 1 13 vT<|eN<|cT<|reg<|rP 0 15 (pw w 3)<|rq 1 16 _ rfl (lR 3 [vI f.pTo, vB f.pKind.toNat, vU f.pSeq, vI f.pAbout, .slice z.u.A z.u.n z.u.c] (sgR hI.sz (qO ch4 (qT ch3 (qT ch2 hb1))) 3 5 rfl))<|rP 2 17 (pw W2 3)<|rU 3 rfl (store_segs 26 (.tmp 17) (.tmp 16) rfl 3 (by kernel_rfl) [vI f.pTo, vB f.pKind.toNat, vU f.pSeq, vI f.pAbout, .slice z.u.A z.u.n z.u.c] (by kernel_rfl) (by kernel_rfl) (by intro v hv; simp only [List.mem_cons, List.not_mem_nil, or_false] at hv; rcases hv with h | h | h | h | h <;> (subst h; rfl)) 38 (frmL_sz rfl rfl rfl rfl rfl rfl) hb4 3 [[vI f.pTo], [vB f.pKind.toNat], [vU f.pSeq], [vI f.pAbout], [.slice z.u.A z.u.n z.u.c]] rfl rfl rfl (frmL f.kind f.frm f.dst f.pTo f.pKind f.pSeq f.pAbout z.u 0 sl0 z32 0 sl0 false z32 0 0 0 false z32 z32 0 z32 z32 0 sl0 sl0) rfl) fun W5 hb5 ch5 zz5 => rE<|inN<|nxt<|sR<|rq 0 55 _ rfl (lA hb5 (frmL_size (frmL_sz rfl rfl rfl rfl rfl rfl)))<|rU 1 rfl (sA (frmL f.kind f.frm f.dst f.pTo f.pKind f.pSeq f.pAbout z.u 0 sl0 z32 0 sl0 false z32 0 0 0 false z32 z32 0 z32 z32 0 sl0 sl0).flatten.toArray (frmL_size (frmL_sz rfl rfl rfl rfl rfl rfl)) (qO ch5 (qO ch4 (qT ch3 hb2))) (frmL_size (frmL_sz rfl rfl rfl rfl rfl rfl))) fun W6 hb6 ch6 zz6 => eN<|wp_ret<|?_
  have hk_ : f.kind = 1 := kI 1
  exact retC rfl hb6 (by rw [(frmL_size (frmL_sz rfl rfl rfl rfl rfl rfl))]; kernel_rfl) ⟨(by first | (rw [bareM_1 hk_, bareZ_1 hk_]; done) | (rw [bareM_1 hk_, bareZ_1 hk_]; rfl)), (kB (kB (kB (kA (kA (zA ch1 : Chg [] w W1) ch2) ch3) ch4) ch5) ch6)⟩
 refine eF 0 14 (f.kind.toNat : Int) (1 : Int)<|rP 1 13 vF<|eN<|cF<|sR<|?_
 by_cases hx2 : (f.kind.toNat : Int) = (2 : Int)
 ·refine eT 0 19 (f.kind.toNat : Int) (2 : Int)<|rP 1 18 vT<|eN<|cT<|reg<|rP 0 20 (pw w 8)<|rq 1 21 _ rfl (lR 8 (Mur.msgC f.gos.kind z.p.A z.p.n z.p.c f.gos.sum f.gos.cnt z.i.A z.i.n z.i.c f.gos.ans) (sgR hI.sz (qO ch4 (qT ch3 (qT ch2 hb1))) 8 6 rfl) (by rw [msgC_length hI.ok.sum]; kernel_rfl))<|rP 2 22 (pw W2 8)<|rU 3 rfl (store_segs 31 (.tmp 22) (.tmp 21) rfl 8 (by kernel_rfl) (Mur.msgC f.gos.kind z.p.A z.p.n z.p.c f.gos.sum f.gos.cnt z.i.A z.i.n z.i.c f.gos.ans) (by kernel_rfl) (by rw [msgC_length hI.ok.sum]; kernel_rfl) Mur.msgC_one 38 (frmL_sz rfl rfl rfl rfl rfl rfl) hb4 8 [[vB f.gos.kind.toNat], [.slice z.p.A z.p.n z.p.c], b8s f.gos.sum, [vI f.gos.cnt], [.slice z.i.A z.i.n z.i.c], [.bool f.gos.ans]] rfl rfl (by rw [msgC_length hI.ok.sum]; rfl) (frmL f.kind f.frm f.dst 0 0 0 0 sl0 f.gos.kind z.p f.gos.sum f.gos.cnt z.i f.gos.ans z32 0 0 0 false z32 z32 0 z32 z32 0 sl0 sl0) rfl) fun W7 hb7 ch7 zz7 => rE<|inN<|nxt<|sR<|rq 0 55 _ rfl (lA hb7 (frmL_size (frmL_sz hI.ok.sum rfl rfl rfl rfl rfl)))<|rU 1 rfl (sA (frmL f.kind f.frm f.dst 0 0 0 0 sl0 f.gos.kind z.p f.gos.sum f.gos.cnt z.i f.gos.ans z32 0 0 0 false z32 z32 0 z32 z32 0 sl0 sl0).flatten.toArray (frmL_size (frmL_sz hI.ok.sum rfl rfl rfl rfl rfl)) (qO ch7 (qO ch4 (qT ch3 hb2))) (frmL_size (frmL_sz rfl rfl rfl rfl rfl rfl))) fun W8 hb8 ch8 zz8 => eN<|wp_ret<|?_
  have hk_ : f.kind = 2 := kI 2
  exact retC rfl hb8 (by rw [(frmL_size (frmL_sz hI.ok.sum rfl rfl rfl rfl rfl))]; kernel_rfl) ⟨(by first | (rw [bareM_2 hk_, bareZ_2 hk_]; done) | (rw [bareM_2 hk_, bareZ_2 hk_]; rfl)), (kB (kB (kB (kA (kA (zA ch1 : Chg [] w W1) ch2) ch3) ch4) ch7) ch8)⟩
 refine eF 0 19 (f.kind.toNat : Int) (2 : Int)<|rP 1 18 vF<|eN<|cF<|sR<|?_
 by_cases hx3 : (f.kind.toNat : Int) = (3 : Int)
 ·refine eT 0 24 (f.kind.toNat : Int) (3 : Int)<|rP 1 23 vT<|eN<|cT<|reg<|rP 0 25 (pw w 45)<|rq 1 26 _ rfl (lR 45 (Mur.claimC f.cKey f.cNode f.cInc f.cCnt f.cGone) (sgR hI.sz (qO ch4 (qT ch3 (qT ch2 hb1))) 14 5 rfl) (by rw [claimC_length hI.ok.key]; kernel_rfl))<|rP 2 27 (pw W2 45)<|rU 3 rfl (store_segs 33 (.tmp 27) (.tmp 26) rfl 45 (by kernel_rfl) (Mur.claimC f.cKey f.cNode f.cInc f.cCnt f.cGone) (by kernel_rfl) (by rw [claimC_length hI.ok.key]; kernel_rfl) Mur.claimC_one 38 (frmL_sz rfl rfl rfl rfl rfl rfl) hb4 14 [b8s f.cKey, [vI f.cNode], [vU f.cInc], [vU f.cCnt], [.bool f.cGone]] rfl rfl (by rw [claimC_length hI.ok.key]; rfl) (frmL f.kind f.frm f.dst 0 0 0 0 sl0 0 sl0 z32 0 sl0 false f.cKey f.cNode f.cInc f.cCnt f.cGone z32 z32 0 z32 z32 0 sl0 sl0) rfl) fun W10 hb9 ch9 zz9 => rE<|inN<|nxt<|sR<|rq 0 55 _ rfl (lA hb9 (frmL_size (frmL_sz rfl hI.ok.key rfl rfl rfl rfl)))<|rU 1 rfl (sA (frmL f.kind f.frm f.dst 0 0 0 0 sl0 0 sl0 z32 0 sl0 false f.cKey f.cNode f.cInc f.cCnt f.cGone z32 z32 0 z32 z32 0 sl0 sl0).flatten.toArray (frmL_size (frmL_sz rfl hI.ok.key rfl rfl rfl rfl)) (qO ch9 (qO ch4 (qT ch3 hb2))) (frmL_size (frmL_sz rfl rfl rfl rfl rfl rfl))) fun W11 hb10 ch10 zz10 => eN<|wp_ret<|?_
  have hk_ : f.kind = 3 := kI 3
  exact retC rfl hb10 (by rw [(frmL_size (frmL_sz rfl hI.ok.key rfl rfl rfl rfl))]; kernel_rfl) ⟨(by first | (rw [bareM_3 hk_, bareZ_3 hk_]; done) | (rw [bareM_3 hk_, bareZ_3 hk_]; rfl)), (kB (kB (kB (kA (kA (zA ch1 : Chg [] w W1) ch2) ch3) ch4) ch9) ch10)⟩
 refine eF 0 24 (f.kind.toNat : Int) (3 : Int)<|rP 1 23 vF<|eN<|cF<|sR<|?_
 by_cases hx4 : (f.kind.toNat : Int) = (4 : Int)
 ·refine eT 0 29 (f.kind.toNat : Int) (4 : Int)<|rP 1 28 vT<|eN<|cT<|reg<|rP 0 30 (pw w 81)<|rq 1 31 _ rfl (lR 81 (Mur.attC f.att.k f.att.r f.att.n f.att.t) (sgR hI.sz (qO ch4 (qT ch3 (qT ch2 hb1))) 19 4 frmL_att) (by rw [attC_length f.att.hk f.att.hr f.att.ht]; kernel_rfl))<|rP 2 32 (pw W2 81)<|rU 3 rfl (store_segs 35 (.tmp 32) (.tmp 31) rfl 81 (by kernel_rfl) (Mur.attC f.att.k f.att.r f.att.n f.att.t) (by kernel_rfl) (by rw [attC_length f.att.hk f.att.hr f.att.ht]; kernel_rfl) Mur.attC_one 38 (frmL_sz rfl rfl rfl rfl rfl rfl) hb4 19 [b8s f.att.k, b8s f.att.r, [vI f.att.n], b8s f.att.t] (Mur.att_parts _ _ _ _) rfl (by rw [attC_length f.att.hk f.att.hr f.att.ht]; rfl) (frmL f.kind f.frm f.dst 0 0 0 0 sl0 0 sl0 z32 0 sl0 false z32 0 0 0 false f.att.k f.att.r f.att.n f.att.t z32 0 sl0 sl0) rfl) fun W12 hb11 ch11 zz11 => rE<|inN<|nxt<|sR<|rq 0 55 _ rfl (lA hb11 (frmL_size (frmL_sz rfl rfl f.att.hk f.att.hr f.att.ht rfl)))<|rU 1 rfl (sA (frmL f.kind f.frm f.dst 0 0 0 0 sl0 0 sl0 z32 0 sl0 false z32 0 0 0 false f.att.k f.att.r f.att.n f.att.t z32 0 sl0 sl0).flatten.toArray (frmL_size (frmL_sz rfl rfl f.att.hk f.att.hr f.att.ht rfl)) (qO ch11 (qO ch4 (qT ch3 hb2))) (frmL_size (frmL_sz rfl rfl rfl rfl rfl rfl))) fun W13 hb12 ch12 zz12 => eN<|wp_ret<|?_
  have hk_ : f.kind = 4 := kI 4
  exact retC rfl hb12 (by rw [(frmL_size (frmL_sz rfl rfl f.att.hk f.att.hr f.att.ht rfl))]; kernel_rfl) ⟨(by first | (rw [bareM_4 hk_, bareZ_4 hk_]; done) | (rw [bareM_4 hk_, bareZ_4 hk_]; rfl)), (kB (kB (kB (kA (kA (zA ch1 : Chg [] w W1) ch2) ch3) ch4) ch11) ch12)⟩
 refine eF 0 29 (f.kind.toNat : Int) (4 : Int)<|rP 1 28 vF<|eN<|cF<|sR<|?_
 by_cases hx5 : (f.kind.toNat : Int) = (5 : Int)
 ·refine eT 0 34 (f.kind.toNat : Int) (5 : Int)<|rP 1 33 vT<|eN<|cT<|?_
  refine dReg ([W2.heap.size]) (by kernel_rfl) ?_
  intro W14 ch13 sz4
  have zz13 := ch13.size
  have sS1 : Chg ([W2.heap.size]) W14 W14 := (Chg.refl _).more (by simp)
  refine dW 0 35 (pw w 178) sS1<|dV 1 36 _ rfl rfl (fun w' hw' => lR 178 (b8s f.root) (sgW hI.sz (qO hw' (qT ch13 (qO ch4 (qT ch3 (qT ch2 hb1))))) 23) (by rw [b8s_length, hI.ok.root]; kernel_rfl)) sS1<|dW 2 37 (pw w 210) sS1<|dV 3 38 (vI f.chunk) rfl rfl (fun w' hw' => fl 3 37 w.heap.size 210 (vI f.chunk) hI.sz (qO hw' (qT ch13 (qO ch4 (qT ch3 (qT ch2 hb1))))) 24) sS1<|dW 4 39 (pw W2 178) sS1<|dO 5<|oU rfl (store_segs 28 (.tmp 39) (.tmp 36) rfl 178 (by kernel_rfl) (b8s f.root) (by kernel_rfl) (by rw [b8s_length, hI.ok.root]; kernel_rfl) (b8s_one f.root) 38 (frmL_sz rfl rfl rfl rfl rfl rfl) (qT ch13 hb4) 23 [b8s f.root] (by simp) rfl (by rw [b8s_length, hI.ok.root]; rfl) (frmL f.kind f.frm f.dst 0 0 0 0 sl0 0 sl0 z32 0 sl0 false z32 0 0 0 false z32 z32 0 z32 f.root 0 sl0 sl0) rfl) fun W15 hb13 ch14 zz14 => ?_
  have sS2 := kC sS1 ch14
  refine aN sS2<|dW 6 40 (pw W2 210) sS2<|dO 7<|oU rfl (sG 210 (vI f.chunk) (frmL_sz rfl rfl rfl rfl rfl hI.ok.root) hb13 24 (frmL f.kind f.frm f.dst 0 0 0 0 sl0 0 sl0 z32 0 sl0 false z32 0 0 0 false z32 z32 0 z32 f.root f.chunk sl0 sl0)) fun W16 hb14 ch15 zz15 => ?_
  have sS3 := kC sS2 ch15
  refine aN sS3<|dE<|inN<|nxt<|sR<|rq 0 55 _ rfl (lA hb14 (frmL_size (frmL_sz rfl rfl rfl rfl rfl hI.ok.root)))<|rU 1 rfl (sA (frmL f.kind f.frm f.dst 0 0 0 0 sl0 0 sl0 z32 0 sl0 false z32 0 0 0 false z32 z32 0 z32 f.root f.chunk sl0 sl0).flatten.toArray (frmL_size (frmL_sz rfl rfl rfl rfl rfl hI.ok.root)) (qO ch15 (qO ch14 (qT ch13 (qO ch4 (qT ch3 hb2))))) (frmL_size (frmL_sz rfl rfl rfl rfl rfl rfl))) fun W17 hb15 ch16 zz16 => eN<|wp_ret<|?_
  have hk_ : f.kind = 5 := kI 5
  exact retC rfl hb15 (by rw [(frmL_size (frmL_sz rfl rfl rfl rfl rfl hI.ok.root))]; kernel_rfl) ⟨(by first | (rw [bareM_5 hk_, bareZ_5 hk_]; done) | (rw [bareM_5 hk_, bareZ_5 hk_]; rfl)), (kB (kB (kB (kA (kB (kA (kA (zA ch1 : Chg [] w W1) ch2) ch3) ch4) ch13) ch14) ch15) ch16)⟩
 refine eF 0 34 (f.kind.toNat : Int) (5 : Int)<|rP 1 33 vF<|eN<|cF<|sR<|?_
 by_cases hx6 : (f.kind.toNat : Int) = (6 : Int)
 ·refine eT 0 42 (f.kind.toNat : Int) (6 : Int)<|rP 1 41 vT<|eN<|cT<|?_
  refine dReg ([W2.heap.size]) (by kernel_rfl) ?_
  intro W18 ch17 sz5
  have zz17 := ch17.size
  have sS4 : Chg ([W2.heap.size]) W18 W18 := (Chg.refl _).more (by simp)
  refine dW 0 43 (pw w 178) sS4<|dV 1 44 _ rfl rfl (fun w' hw' => lR 178 (b8s f.root) (sgW hI.sz (qO hw' (qT ch17 (qO ch4 (qT ch3 (qT ch2 hb1))))) 23) (by rw [b8s_length, hI.ok.root]; kernel_rfl)) sS4<|dW 2 45 (pw w 210) sS4<|dV 3 46 (vI f.chunk) rfl rfl (fun w' hw' => fl 3 45 w.heap.size 210 (vI f.chunk) hI.sz (qO hw' (qT ch17 (qO ch4 (qT ch3 (qT ch2 hb1))))) 24) sS4<|dW 4 47 (pw w 211) sS4<|dV 5 48 (.slice z.y.A z.y.n z.y.c) rfl rfl (fun w' hw' => fl 22 47 w.heap.size 211 (.slice z.y.A z.y.n z.y.c) hI.sz (qO hw' (qT ch17 (qO ch4 (qT ch3 (qT ch2 hb1))))) 25) sS4<|dW 6 49 (pw w 212) sS4<|dV 7 50 (.slice z.f.A z.f.n z.f.c) rfl rfl (fun w' hw' => fl 36 49 w.heap.size 212 (.slice z.f.A z.f.n z.f.c) hI.sz (qO hw' (qT ch17 (qO ch4 (qT ch3 (qT ch2 hb1))))) 26) sS4<|dW 8 51 (pw W2 178) sS4<|dO 9<|oU rfl (store_segs 28 (.tmp 51) (.tmp 44) rfl 178 (by kernel_rfl) (b8s f.root) (by kernel_rfl) (by rw [b8s_length, hI.ok.root]; kernel_rfl) (b8s_one f.root) 38 (frmL_sz rfl rfl rfl rfl rfl rfl) (qT ch17 hb4) 23 [b8s f.root] (by simp) rfl (by rw [b8s_length, hI.ok.root]; rfl) (frmL f.kind f.frm f.dst 0 0 0 0 sl0 0 sl0 z32 0 sl0 false z32 0 0 0 false z32 z32 0 z32 f.root 0 sl0 sl0) rfl) fun W19 hb16 ch18 zz18 => ?_
  have sS5 := kC sS4 ch18
  refine aN sS5<|dW 10 52 (pw W2 210) sS5<|dO 11<|oU rfl (sG 210 (vI f.chunk) (frmL_sz rfl rfl rfl rfl rfl hI.ok.root) hb16 24 (frmL f.kind f.frm f.dst 0 0 0 0 sl0 0 sl0 z32 0 sl0 false z32 0 0 0 false z32 z32 0 z32 f.root f.chunk sl0 sl0)) fun W20 hb17 ch19 zz19 => ?_
  have sS6 := kC sS5 ch19
  refine aN sS6<|dW 12 53 (pw W2 211) sS6<|dO 13<|oU rfl (sG 211 (.slice z.y.A z.y.n z.y.c) (frmL_sz rfl rfl rfl rfl rfl hI.ok.root) hb17 25 (frmL f.kind f.frm f.dst 0 0 0 0 sl0 0 sl0 z32 0 sl0 false z32 0 0 0 false z32 z32 0 z32 f.root f.chunk z.y sl0)) fun W21 hb18 ch20 zz20 => ?_
  have sS7 := kC sS6 ch20
  refine aN sS7<|dW 14 54 (pw W2 212) sS7<|dO 15<|oU rfl (sG 212 (.slice z.f.A z.f.n z.f.c) (frmL_sz rfl rfl rfl rfl rfl hI.ok.root) hb18 26 (frmL f.kind f.frm f.dst 0 0 0 0 sl0 0 sl0 z32 0 sl0 false z32 0 0 0 false z32 z32 0 z32 f.root f.chunk z.y z.f)) fun W22 hb19 ch21 zz21 => ?_
  have sS8 := kC sS7 ch21
  refine aN sS8<|dE<|inN<|nxt<|sR<|rq 0 55 _ rfl (lA hb19 (frmL_size (frmL_sz rfl rfl rfl rfl rfl hI.ok.root)))<|rU 1 rfl (sA (frmL f.kind f.frm f.dst 0 0 0 0 sl0 0 sl0 z32 0 sl0 false z32 0 0 0 false z32 z32 0 z32 f.root f.chunk z.y z.f).flatten.toArray (frmL_size (frmL_sz rfl rfl rfl rfl rfl hI.ok.root)) (qO ch21 (qO ch20 (qO ch19 (qO ch18 (qT ch17 (qO ch4 (qT ch3 hb2))))))) (frmL_size (frmL_sz rfl rfl rfl rfl rfl rfl))) fun W23 hb20 ch22 zz22 => eN<|wp_ret<|?_
  have hk_ : f.kind = 6 := kI 6
  exact retC rfl hb20 (by rw [(frmL_size (frmL_sz rfl rfl rfl rfl rfl hI.ok.root))]; kernel_rfl) ⟨(by first | (rw [bareM_6 hk_, bareZ_6 hk_]; done) | (rw [bareM_6 hk_, bareZ_6 hk_]; rfl)), (kB (kB (kB (kB (kB (kA (kB (kA (kA (zA ch1 : Chg [] w W1) ch2) ch3) ch4) ch17) ch18) ch19) ch20) ch21) ch22)⟩
 refine eF 0 42 (f.kind.toNat : Int) (6 : Int)<|rP 1 41 vF<|eN<|cF<|wp_skip<|inN<|nxt<|sR<|rq 0 55 _ rfl (lA hb4 (frmL_size (frmL_sz rfl rfl rfl rfl rfl rfl)))<|rU 1 rfl (sA (frmh f.kind f.frm f.dst).flatten.toArray (frmL_size (frmL_sz rfl rfl rfl rfl rfl rfl)) (qO ch4 (qT ch3 hb2)) (frmL_size (frmL_sz rfl rfl rfl rfl rfl rfl))) fun W24 hb21 ch23 zz23 => eN<|wp_ret<|?_
 exact retC rfl hb21 (by rw [(frmL_size (frmL_sz rfl rfl rfl rfl rfl rfl))]; kernel_rfl) ⟨(by first | (rw [bareM_0 (fun e_ => by have h_ : f.kind.toNat = 1 := congrArg UInt8.toNat e_; omega) (fun e_ => by have h_ : f.kind.toNat = 2 := congrArg UInt8.toNat e_; omega) (fun e_ => by have h_ : f.kind.toNat = 3 := congrArg UInt8.toNat e_; omega) (fun e_ => by have h_ : f.kind.toNat = 4 := congrArg UInt8.toNat e_; omega) (fun e_ => by have h_ : f.kind.toNat = 5 := congrArg UInt8.toNat e_; omega) (fun e_ => by have h_ : f.kind.toNat = 6 := congrArg UInt8.toNat e_; omega), bareZ_0 (fun e_ => by have h_ : f.kind.toNat = 1 := congrArg UInt8.toNat e_; omega) (fun e_ => by have h_ : f.kind.toNat = 2 := congrArg UInt8.toNat e_; omega) (fun e_ => by have h_ : f.kind.toNat = 6 := congrArg UInt8.toNat e_; omega)]; done) | (rw [bareM_0 (fun e_ => by have h_ : f.kind.toNat = 1 := congrArg UInt8.toNat e_; omega) (fun e_ => by have h_ : f.kind.toNat = 2 := congrArg UInt8.toNat e_; omega) (fun e_ => by have h_ : f.kind.toNat = 3 := congrArg UInt8.toNat e_; omega) (fun e_ => by have h_ : f.kind.toNat = 4 := congrArg UInt8.toNat e_; omega) (fun e_ => by have h_ : f.kind.toNat = 5 := congrArg UInt8.toNat e_; omega) (fun e_ => by have h_ : f.kind.toNat = 6 := congrArg UInt8.toNat e_; omega), bareZ_0 (fun e_ => by have h_ : f.kind.toNat = 1 := congrArg UInt8.toNat e_; omega) (fun e_ => by have h_ : f.kind.toNat = 2 := congrArg UInt8.toNat e_; omega) (fun e_ => by have h_ : f.kind.toNat = 6 := congrArg UInt8.toNat e_; omega)]; rfl)), (kB (kB (kA (kA (zA ch1 : Chg [] w W1) ch2) ch3) ch4) ch23)⟩
theorem Same_any (f : Frm) (z : Zs) (g : Frm) (y : Zs) (w : World) (hL : LiesF w z f) (hI : FrmIn f) (hM : LiesF w y g) (hJ : FrmIn g) : Calls Tryz.prog 11 #[.agg (frmP f z).flatten.toArray, .agg (frmP g y).flatten.toArray] w fun e w' => ∃ v, e = .returned (.bool v) ∧ (v = true ↔ f = g) ∧ Chg [] w w' := by
 have hLin_ : z.In fun g => g < w.heap.size → Wk.Off g [] := ⟨fun _ _ _ _ => trivial, fun _ _ _ _ => trivial, fun _ _ _ _ => trivial, fun _ _ _ _ => trivial, fun _ _ _ _ => trivial⟩
 have hLunc_ := hL.nu.nc
 have hLucm_ := hL.nu.cm
 have hLpnc_ := hL.np.nc
 have hLpcm_ := hL.np.cm
 have hLinc_ := hL.ni.nc
 have hLicm_ := hL.ni.cm
 have hLync_ := hL.ny.nc
 have hLycm_ := hL.ny.cm
 have hLfnc_ := hL.nf.nc
 have hLfcm_ := hL.nf.cm
 have hMin_ : y.In fun g => g < w.heap.size → Wk.Off g [] := ⟨fun _ _ _ _ => trivial, fun _ _ _ _ => trivial, fun _ _ _ _ => trivial, fun _ _ _ _ => trivial, fun _ _ _ _ => trivial⟩
 have hMunc_ := hM.nu.nc
 have hMucm_ := hM.nu.cm
 have hMpnc_ := hM.np.nc
 have hMpcm_ := hM.np.cm
 have hMinc_ := hM.ni.nc
 have hMicm_ := hM.ni.cm
 have hMync_ := hM.ny.nc
 have hMycm_ := hM.ny.cm
 have hMfnc_ := hM.nf.nc
 have hMfcm_ := hM.nf.cm
 refine calls_of_wp Tryz.func11 rfl ?_
 refine sR<|nW 0 2 ((frmP f z).flatten.toArray) 38 fun W1 hb1 ch1 sz1 => nW 1 3 ((frmP g y).flatten.toArray) 38 fun W2 hb2 ch2 sz2 => rP 2 4 vF<|eN<|wp_seq<|?_
 refine Wk.cut (fun a wj => ∃ (q5 : Nat) (q6 : Nat), a = SameF_J1_1 a.tmps (pw w 0) (pw W1 0) (pt q5 0) (pt q6 0) ∧ Chg [] W2 wj ∧ wj.heap[q5]? = some (.cells #[vI f.pTo, vB f.pKind.toNat, vU f.pSeq, vI f.pAbout, .slice z.u.A z.u.n z.u.c] 26 (0, 0)) ∧ wj.heap[q6]? = some (.cells #[vI g.pTo, vB g.pKind.toNat, vU g.pSeq, vI g.pAbout, .slice y.u.A y.u.n y.u.c] 26 (0, 0))) ?_ ?_
 ·refine dReg ([]) (by kernel_rfl) ?_
  intro W3 ch3 sz3
  have zz3 := ch3.size
  have sS1 : Chg ([]) W3 W3 := (Chg.refl _).more (by simp)
  refine dW 0 9 (pw w 3) sS1<|dV 1 10 _ rfl rfl (fun w' hw' => lR 3 [vI f.pTo, vB f.pKind.toNat, vU f.pSeq, vI f.pAbout, .slice z.u.A z.u.n z.u.c] (sgR hI.sz (qT hw' (qT ch3 (qT ch2 hb1))) 3 5 rfl)) sS1<|dW 2 11 (pw W1 3) sS1<|dV 3 12 _ rfl rfl (fun w' hw' => lR 3 [vI g.pTo, vB g.pKind.toNat, vU g.pSeq, vI g.pAbout, .slice y.u.A y.u.n y.u.c] (sgR hJ.sz (qT hw' (qT ch3 hb2)) 3 5 rfl)) sS1 ?_
  refine dOp2 4 5 (by kernel_rfl) ?_ ?_
  ·refine oN 5 #[vI 0, vB 0, vU 0, vI 0, .slice none 0 0] 26 fun W4 hb3 ch4 sz4 => ?_
   have sS2 := kA sS1 ch4
   refine aN sS2<|dO 5<|oN 6 #[vI 0, vB 0, vU 0, vI 0, .slice none 0 0] 26 fun W5 hb4 ch5 sz5 => ?_
   have sS3 := kA sS2 ch5
   refine aN sS3<|dO 6<|oU rfl (Wk.storeR 26 (.tmp 5) (.tmp 10) rfl W3.heap.size 0 (by kernel_rfl) ([vI f.pTo, vB f.pKind.toNat, vU f.pSeq, vI f.pAbout, .slice z.u.A z.u.n z.u.c]) (by kernel_rfl) (by kernel_rfl) (by intro v hv; simp at hv; rcases hv with h | h | h | h | h <;> (subst h; rfl)) 26 ([vI 0, vB 0, vU 0, vI 0, .slice none 0 0]) (qT ch5 hb3) (by simp)) fun W6 hb5 ch6 _ => ?_
   replace hb5 : W6.heap[W3.heap.size]? = some (.cells #[vI f.pTo, vB f.pKind.toNat, vU f.pSeq, vI f.pAbout, .slice z.u.A z.u.n z.u.c] 26 (0, 0)) := hb5
   have zz6 := ch6.size
   have sS4 := kB sS3 ch6
   refine aN sS4<|dO 7<|oU rfl (Wk.storeR 26 (.tmp 6) (.tmp 12) rfl W4.heap.size 0 (by kernel_rfl) ([vI g.pTo, vB g.pKind.toNat, vU g.pSeq, vI g.pAbout, .slice y.u.A y.u.n y.u.c]) (by kernel_rfl) (by kernel_rfl) (by intro v hv; simp at hv; rcases hv with h | h | h | h | h <;> (subst h; rfl)) 26 ([vI 0, vB 0, vU 0, vI 0, .slice none 0 0]) (qO ch6 hb4) (by simp)) fun W7 hb6 ch7 _ => ?_
   replace hb6 : W7.heap[W4.heap.size]? = some (.cells #[vI g.pTo, vB g.pKind.toNat, vU g.pSeq, vI g.pAbout, .slice y.u.A y.u.n y.u.c] 26 (0, 0)) := hb6
   have zz7 := ch7.size
   have sS5 := kB sS4 ch7
   refine aN sS5<|dN<|?_
   exact ⟨W3.heap.size, W4.heap.size, by kernel_rfl, (Chg.step (Chg.step (Chg.step (Chg.step (Chg.step ((Chg.refl _).more (by simp) : Chg [] W2 W2) ch3 trivial) ch4 trivial) ch5 trivial) ch6 ⟨.inr (by omega), trivial⟩) ch7 ⟨.inr (by omega), trivial⟩), (qO ch7 hb5), hb6⟩
  refine oN 6 #[vI 0, vB 0, vU 0, vI 0, .slice none 0 0] 26 fun W8 hb7 ch8 sz6 => ?_
  have sS6 := kA sS1 ch8
  refine aN sS6<|dO 4<|oN 5 #[vI 0, vB 0, vU 0, vI 0, .slice none 0 0] 26 fun W10 hb8 ch9 sz7 => ?_
  have sS7 := kA sS6 ch9
  refine aN sS7<|dO 6<|oU rfl (Wk.storeR 26 (.tmp 5) (.tmp 10) rfl W8.heap.size 0 (by kernel_rfl) ([vI f.pTo, vB f.pKind.toNat, vU f.pSeq, vI f.pAbout, .slice z.u.A z.u.n z.u.c]) (by kernel_rfl) (by kernel_rfl) (by intro v hv; simp at hv; rcases hv with h | h | h | h | h <;> (subst h; rfl)) 26 ([vI 0, vB 0, vU 0, vI 0, .slice none 0 0]) hb8 (by simp)) fun W11 hb9 ch10 _ => ?_
  replace hb9 : W11.heap[W8.heap.size]? = some (.cells #[vI f.pTo, vB f.pKind.toNat, vU f.pSeq, vI f.pAbout, .slice z.u.A z.u.n z.u.c] 26 (0, 0)) := hb9
  have zz10 := ch10.size
  have sS8 := kB sS7 ch10
  refine aN sS8<|dO 7<|oU rfl (Wk.storeR 26 (.tmp 6) (.tmp 12) rfl W3.heap.size 0 (by kernel_rfl) ([vI g.pTo, vB g.pKind.toNat, vU g.pSeq, vI g.pAbout, .slice y.u.A y.u.n y.u.c]) (by kernel_rfl) (by kernel_rfl) (by intro v hv; simp at hv; rcases hv with h | h | h | h | h <;> (subst h; rfl)) 26 ([vI 0, vB 0, vU 0, vI 0, .slice none 0 0]) (qO ch10 (qT ch9 hb7)) (by simp)) fun W12 hb10 ch11 _ => ?_
  replace hb10 : W12.heap[W3.heap.size]? = some (.cells #[vI g.pTo, vB g.pKind.toNat, vU g.pSeq, vI g.pAbout, .slice y.u.A y.u.n y.u.c] 26 (0, 0)) := hb10
  have zz11 := ch11.size
  have sS9 := kB sS8 ch11
  refine aN sS9<|dN<|?_
  exact ⟨W8.heap.size, W3.heap.size, by kernel_rfl, (Chg.step (Chg.step (Chg.step (Chg.step (Chg.step ((Chg.refl _).more (by simp) : Chg [] W2 W2) ch3 trivial) ch8 trivial) ch9 trivial) ch10 ⟨.inr (by omega), trivial⟩) ch11 ⟨.inr (by omega), trivial⟩), (qO ch11 hb9), hb10⟩
 rintro aa1 W13 ⟨q5, q6, hF1, ch12, hq5, hq6⟩
 have zz12 := ch12.size
 generalize aa1.tmps = bb1 at hF1
 subst hF1
 refine nxt<|wp_seq<|?_
 refine Wk.cut (fun a wj => ∃ (q7 : Nat) (q8 : Nat), a = SameF_J2_2 a.tmps (pw w 0) (pw W1 0) (pt q5 0) (pt q6 0) (pt q7 0) (pt q8 0) ∧ Chg [] W13 wj ∧ wj.heap[q7]? = some (.cells (Mur.msgC f.gos.kind z.p.A z.p.n z.p.c f.gos.sum f.gos.cnt z.i.A z.i.n z.i.c f.gos.ans).toArray 31 (0, 0)) ∧ wj.heap[q8]? = some (.cells (Mur.msgC g.gos.kind y.p.A y.p.n y.p.c g.gos.sum g.gos.cnt y.i.A y.i.n y.i.c g.gos.ans).toArray 31 (0, 0))) ?_ ?_
 ·refine dReg ([]) (by kernel_rfl) ?_
  intro W14 ch13 sz8
  have zz13 := ch13.size
  have sS10 : Chg ([]) W14 W14 := (Chg.refl _).more (by simp)
  refine dW 0 13 (pw w 8) sS10<|dV 1 14 _ rfl rfl (fun w' hw' => lR 8 (Mur.msgC f.gos.kind z.p.A z.p.n z.p.c f.gos.sum f.gos.cnt z.i.A z.i.n z.i.c f.gos.ans) (sgR hI.sz (qT hw' (qT ch13 (qT ch12 (qT ch2 hb1)))) 8 6 rfl) (by rw [msgC_length hI.ok.sum]; kernel_rfl)) sS10<|dW 2 15 (pw W1 8) sS10<|dV 3 16 _ rfl rfl (fun w' hw' => lR 8 (Mur.msgC g.gos.kind y.p.A y.p.n y.p.c g.gos.sum g.gos.cnt y.i.A y.i.n y.i.c g.gos.ans) (sgR hJ.sz (qT hw' (qT ch13 (qT ch12 hb2))) 8 6 rfl) (by rw [msgC_length hJ.ok.sum]; kernel_rfl)) sS10 ?_
  refine dOp2 4 5 (by kernel_rfl) ?_ ?_
  ·refine oN 7 ZM 31 fun W15 hb11 ch14 sz9 => ?_
   have sS11 := kA sS10 ch14
   refine aN sS11<|dO 5<|oN 8 ZM 31 fun W16 hb12 ch15 sz10 => ?_
   have sS12 := kA sS11 ch15
   refine aN sS12<|dO 6<|oU rfl (sB (Mur.msgC f.gos.kind z.p.A z.p.n z.p.c f.gos.sum f.gos.cnt z.i.A z.i.n z.i.c f.gos.ans).toArray (msgC_size hI.ok.sum) msgC_all (qT ch15 hb11) (by kernel_rfl)) fun W17 hb13 ch16 zz16 => ?_
   have sS13 := kB sS12 ch16
   refine aN sS13<|dO 7<|oU rfl (sB (Mur.msgC g.gos.kind y.p.A y.p.n y.p.c g.gos.sum g.gos.cnt y.i.A y.i.n y.i.c g.gos.ans).toArray (msgC_size hJ.ok.sum) msgC_all (qO ch16 hb12) (by kernel_rfl)) fun W18 hb14 ch17 zz17 => ?_
   have sS14 := kB sS13 ch17
   refine aN sS14<|dN<|?_
   exact ⟨W14.heap.size, W15.heap.size, by kernel_rfl, (Chg.step (Chg.step (Chg.step (Chg.step (Chg.step ((Chg.refl _).more (by simp) : Chg [] W13 W13) ch13 trivial) ch14 trivial) ch15 trivial) ch16 ⟨.inr (by omega), trivial⟩) ch17 ⟨.inr (by omega), trivial⟩), (qO ch17 hb13), hb14⟩
  refine oN 8 ZM 31 fun W19 hb15 ch18 sz11 => ?_
  have sS15 := kA sS10 ch18
  refine aN sS15<|dO 4<|oN 7 ZM 31 fun W20 hb16 ch19 sz12 => ?_
  have sS16 := kA sS15 ch19
  refine aN sS16<|dO 6<|oU rfl (sB (Mur.msgC f.gos.kind z.p.A z.p.n z.p.c f.gos.sum f.gos.cnt z.i.A z.i.n z.i.c f.gos.ans).toArray (msgC_size hI.ok.sum) msgC_all hb16 (by kernel_rfl)) fun W21 hb17 ch20 zz20 => ?_
  have sS17 := kB sS16 ch20
  refine aN sS17<|dO 7<|oU rfl (sB (Mur.msgC g.gos.kind y.p.A y.p.n y.p.c g.gos.sum g.gos.cnt y.i.A y.i.n y.i.c g.gos.ans).toArray (msgC_size hJ.ok.sum) msgC_all (qO ch20 (qT ch19 hb15)) (by kernel_rfl)) fun W22 hb18 ch21 zz21 => ?_
  have sS18 := kB sS17 ch21
  refine aN sS18<|dN<|?_
  exact ⟨W19.heap.size, W14.heap.size, by kernel_rfl, (Chg.step (Chg.step (Chg.step (Chg.step (Chg.step ((Chg.refl _).more (by simp) : Chg [] W13 W13) ch13 trivial) ch18 trivial) ch19 trivial) ch20 ⟨.inr (by omega), trivial⟩) ch21 ⟨.inr (by omega), trivial⟩), (qO ch21 hb17), hb18⟩
 rintro aa2 W23 ⟨q7, q8, hF2, ch22, hq7, hq8⟩
 have zz22 := ch22.size
 generalize aa2.tmps = bb2 at hF2
 subst hF2
 refine nxt<|sR<|rP 0 17 (pw w 0)<|rF 1 18 0 (vB f.kind.toNat) hI.sz (qT ch22 (qT ch12 (qT ch2 hb1))) 0<|rP 2 19 (pw W1 0)<|rF 3 20 0 (vB g.kind.toNat) hJ.sz (qT ch22 (qT ch12 hb2)) 0 ?_
 by_cases hx1 : (f.kind.toNat : Int) = (g.kind.toNat : Int)
 ·refine eT 4 21 (f.kind.toNat : Int) (g.kind.toNat : Int)<|rP 5 22 vT<|rP 6 23 (pw w 1)<|rF 7 24 1 (vI f.frm) hI.sz (qT ch22 (qT ch12 (qT ch2 hb1))) 1<|rP 8 25 (pw W1 1)<|rF 9 26 1 (vI g.frm) hJ.sz (qT ch22 (qT ch12 hb2)) 1 ?_
  by_cases hx2 : f.frm = g.frm
  ·refine eT 10 27 f.frm g.frm<|rP 11 28 vT<|rP 12 29 vT<|rP 13 30 (pw w 2)<|mN 155 [(2, pw w 0), (3, pw W1 0), (5, pt q5 0), (6, pt q6 0), (7, pt q7 0), (8, pt q8 0), (29, vT), (30, pw w 2)] fun _ => rF 14 31 2 (vI f.dst) hI.sz (qT ch22 (qT ch12 (qT ch2 hb1))) 2<|rP 15 32 (pw W1 2)<|rF 16 33 2 (vI g.dst) hJ.sz (qT ch22 (qT ch12 hb2)) 2 ?_
   by_cases hx3 : f.dst = g.dst
   ·refine eT 17 34 f.dst g.dst<|rP 18 35 vT<|rP 19 36 vT<|rP 20 37 (pt q5 0)<|rL 21 38 0 (vI f.pTo) (qT ch22 hq5)<|rP 22 39 (pt q6 0)<|rL 23 40 0 (vI g.pTo) (qT ch22 hq6) ?_
    by_cases hx4 : f.pTo = g.pTo
    ·refine eT 24 41 f.pTo g.pTo<|rP 25 42 vT<|rP 26 43 vT<|rP 27 44 (pt q5 1)<|mN 155 [(2, pw w 0), (3, pw W1 0), (5, pt q5 0), (6, pt q6 0), (7, pt q7 0), (8, pt q8 0), (43, vT), (44, pt q5 1)] fun _ => rL 28 45 1 (vB f.pKind.toNat) (qT ch22 hq5)<|rP 29 46 (pt q6 1)<|rL 30 47 1 (vB g.pKind.toNat) (qT ch22 hq6) ?_
     by_cases hx5 : (f.pKind.toNat : Int) = (g.pKind.toNat : Int)
     ·refine eT 31 48 (f.pKind.toNat : Int) (g.pKind.toNat : Int)<|rP 32 49 vT<|rP 33 50 vT<|rP 34 51 (pt q5 2)<|rL 35 52 2 (vU f.pSeq) (qT ch22 hq5)<|rP 36 53 (pt q6 2)<|rL 37 54 2 (vU g.pSeq) (qT ch22 hq6) ?_
      by_cases hx6 : (f.pSeq : Int) = (g.pSeq : Int)
      ·refine eT 38 55 (f.pSeq : Int) (g.pSeq : Int)<|rP 39 56 vT<|rP 40 57 vT<|rP 41 58 (pt q5 3)<|mN 155 [(2, pw w 0), (3, pw W1 0), (5, pt q5 0), (6, pt q6 0), (7, pt q7 0), (8, pt q8 0), (57, vT), (58, pt q5 3)] fun _ => rL 42 59 3 (vI f.pAbout) (qT ch22 hq5)<|rP 43 60 (pt q6 3)<|rL 44 61 3 (vI g.pAbout) (qT ch22 hq6) ?_
       by_cases hx7 : f.pAbout = g.pAbout
       ·refine eT 45 62 f.pAbout g.pAbout<|rP 46 63 vT<|rP 47 64 vT<|rP 48 65 (pt q5 4)<|rL 49 66 4 (.slice z.u.A z.u.n z.u.c) (qT ch22 hq5)<|rP 50 67 (pt q6 4)<|rL 51 68 4 (.slice y.u.A y.u.n y.u.c) (qT ch22 hq6) ?_
        have kk4 := kA (kA (kA (zA ch1 : Chg [] w W1) ch2) ch12) ch22
        refine rK 52 69 (EqualU_any z.u.A z.u.n z.u.c y.u.A y.u.n y.u.c f.pUpd g.pUpd W23 (LiesF.chg hL kk4 hLin_).upd (LiesF.chg hM kk4 hMin_).upd (fun x_ h_ => ⟨hI.upd x_ h_, hI.ok.upd x_ h_⟩) (fun x_ h_ => ⟨hJ.upd x_ h_, hJ.ok.upd x_ h_⟩) (by omega)) ?_
        by_cases hpr1 : f.pUpd = g.pUpd
        ·rw [decide_eq_true hpr1]
         rintro _ W24 ⟨rfl, ch23⟩
         have zz23 := ch23.size
         refine rP 53 70 vT<|rP 54 71 vT<|rP 55 72 (pt q7 0)<|mN 155 [(2, pw w 0), (3, pw W1 0), (7, pt q7 0), (8, pt q8 0), (71, vT), (72, pt q7 0)] fun _ => rq 56 73 _ rfl (ld 5 72 q7 0 (vB f.gos.kind.toNat) (show World.cell? _ ⟨_, 0 + 0, _⟩ = _ from msg_kind (range_row (qT ch23 hq7))))<|rP 57 74 (pt q8 0)<|rq 58 75 _ rfl (ld 5 74 q8 0 (vB g.gos.kind.toNat) (show World.cell? _ ⟨_, 0 + 0, _⟩ = _ from msg_kind (range_row (qT ch23 hq8)))) ?_
         by_cases hx8 : (f.gos.kind.toNat : Int) = (g.gos.kind.toNat : Int)
         ·refine eT 59 76 (f.gos.kind.toNat : Int) (g.gos.kind.toNat : Int)<|rP 60 77 vT<|rP 61 78 vT<|rP 62 79 (pt q7 1)<|rq 63 80 _ rfl (ld 22 79 q7 1 (.slice z.p.A z.p.n z.p.c) (show World.cell? _ ⟨_, 0 + 1, _⟩ = _ from msg_pre (range_row (qT ch23 hq7))))<|rP 64 81 (pt q8 1)<|rq 65 82 _ rfl (ld 22 81 q8 1 (.slice y.p.A y.p.n y.p.c) (show World.cell? _ ⟨_, 0 + 1, _⟩ = _ from msg_pre (range_row (qT ch23 hq8)))) ?_
          have kk5 := kA kk4 ch23
          refine rK 66 83 (BEqual_any z.p.A z.p.n z.p.c y.p.A y.p.n y.p.c f.gos.pre g.gos.pre W24 (byt_chg hL.pre kk5 (fun g off e hl => trivial)) (byt_chg hM.pre kk5 (fun g off e hl => trivial))) ?_
          by_cases hpr2 : f.gos.pre = g.gos.pre
          ·rw [decide_eq_true hpr2]
           rintro _ W25 ⟨rfl, ch24⟩
           have zz24 := ch24.size
           refine rP 67 84 vT<|rP 68 85 vT<|rP 69 86 (pt q7 2)<|mN 155 [(2, pw w 0), (3, pw W1 0), (7, pt q7 0), (8, pt q8 0), (85, vT), (86, pt q7 2)] fun _ => rq 70 87 _ rfl (lR 2 (b8s f.gos.sum) (show World.rangeAt _ _ (0 + 2) _ from msg_sum (range_row (qT ch24 (qT ch23 hq7)))) (by rw [b8s_length, hI.ok.sum]; kernel_rfl))<|rP 71 88 (pt q8 2)<|rq 72 89 _ rfl (lR 2 (b8s g.gos.sum) (show World.rangeAt _ _ (0 + 2) _ from msg_sum (range_row (qT ch24 (qT ch23 hq8)))) (by rw [b8s_length, hJ.ok.sum]; kernel_rfl)) ?_
           by_cases hpr3 : f.gos.sum = g.gos.sum
           ·refine rq 73 90 vT rfl (run_eql_yes digT f.gos.sum g.gos.sum hI.ok.sum hJ.ok.sum hpr3 _ (.tmp 87) (.tmp 89) 28 rfl (by kernel_rfl) (by kernel_rfl))<|rP 74 91 vT<|rP 75 92 vT<|rP 76 93 (pt q7 34)<|rq 77 94 _ rfl (ld 3 93 q7 34 (vI f.gos.cnt) (show World.cell? _ ⟨_, 0 + 34, _⟩ = _ from msg_cnt hI.ok.sum (range_row (qT ch24 (qT ch23 hq7)))))<|rP 78 95 (pt q8 34)<|rq 79 96 _ rfl (ld 3 95 q8 34 (vI g.gos.cnt) (show World.cell? _ ⟨_, 0 + 34, _⟩ = _ from msg_cnt hJ.ok.sum (range_row (qT ch24 (qT ch23 hq8))))) ?_
            by_cases hx9 : f.gos.cnt = g.gos.cnt
            ·refine eT 80 97 f.gos.cnt g.gos.cnt<|rP 81 98 vT<|rP 82 99 vT<|rP 83 100 (pt q7 35)<|mN 155 [(2, pw w 0), (3, pw W1 0), (7, pt q7 0), (8, pt q8 0), (99, vT), (100, pt q7 35)] fun _ => rq 84 101 _ rfl (ld 29 100 q7 35 (.slice z.i.A z.i.n z.i.c) (show World.cell? _ ⟨_, 0 + 35, _⟩ = _ from msg_items hI.ok.sum (range_row (qT ch24 (qT ch23 hq7)))))<|rP 85 102 (pt q8 35)<|rq 86 103 _ rfl (ld 29 102 q8 35 (.slice y.i.A y.i.n y.i.c) (show World.cell? _ ⟨_, 0 + 35, _⟩ = _ from msg_items hJ.ok.sum (range_row (qT ch24 (qT ch23 hq8))))) ?_
             have kk6 := kA kk5 ch24
             refine rK 87 104 (EqualA_any z.i.A z.i.n z.i.c y.i.A y.i.n y.i.c f.gos.items g.gos.items W25 (LiesF.chg hL kk6 hLin_).its.slR (LiesF.chg hM kk6 hMin_).its.slR (fun _ _ => trivial) (fun _ _ => trivial) (by omega)) ?_
             by_cases hpr4 : f.gos.items = g.gos.items
             ·rw [decide_eq_true hpr4]
              rintro _ W26 ⟨rfl, ch25⟩
              have zz25 := ch25.size
              refine rP 88 105 vT<|rP 89 106 vT<|rP 90 107 (pt q7 36)<|rq 91 108 _ rfl (ld 4 107 q7 36 (.bool f.gos.ans) (show World.cell? _ ⟨_, 0 + 36, _⟩ = _ from msg_ans hI.ok.sum (range_row (qT ch25 (qT ch24 (qT ch23 hq7))))))<|rP 92 109 (pt q8 36)<|rq 93 110 _ rfl (ld 4 109 q8 36 (.bool g.gos.ans) (show World.cell? _ ⟨_, 0 + 36, _⟩ = _ from msg_ans hJ.ok.sum (range_row (qT ch25 (qT ch24 (qT ch23 hq8)))))) ?_
              by_cases hpr5 : f.gos.ans = g.gos.ans
              ·refine rq 94 111 _ rfl (dqT hpr5 (run_eql_bool (.tmp 108) (.tmp 110) 4 rfl f.gos.ans g.gos.ans (by kernel_rfl) (by kernel_rfl)))<|rP 95 112 vT<|rP 96 113 vT<|rP 97 114 (pw w 45)<|mN 155 [(2, pw w 0), (3, pw W1 0), (113, vT), (114, pw w 45)] fun _ => rq 98 115 _ rfl (lR 45 (Mur.claimC f.cKey f.cNode f.cInc f.cCnt f.cGone) (sgR hI.sz (qT ch25 (qT ch24 (qT ch23 (qT ch22 (qT ch12 (qT ch2 hb1)))))) 14 5 rfl) (by rw [claimC_length hI.ok.key]; kernel_rfl))<|rP 99 116 (pw W1 45)<|rq 100 117 _ rfl (lR 45 (Mur.claimC g.cKey g.cNode g.cInc g.cCnt g.cGone) (sgR hJ.sz (qT ch25 (qT ch24 (qT ch23 (qT ch22 (qT ch12 hb2))))) 14 5 rfl) (by rw [claimC_length hJ.ok.key]; kernel_rfl)) ?_
               by_cases hpr6 : f.cKey = g.cKey ∧ f.cNode = g.cNode ∧ f.cInc = g.cInc ∧ f.cCnt = g.cCnt ∧ f.cGone = g.cGone
               ·refine rq 101 118 _ rfl (dqT hpr6 (run_eql_claim (.tmp 115) (.tmp 117) 33 rfl hI.ok.key hJ.ok.key (wf64 hI.cNo.1 hI.cNo.2) (wf64 hJ.cNo.1 hJ.cNo.2) hI.ok.inc hJ.ok.inc hI.ok.cnt hJ.ok.cnt (by kernel_rfl) (by kernel_rfl)))<|rP 102 119 vT<|rP 103 120 vT<|rP 104 121 (pw w 81)<|rq 105 122 _ rfl (lR 81 (Mur.attC f.att.k f.att.r f.att.n f.att.t) (sgR hI.sz (qT ch25 (qT ch24 (qT ch23 (qT ch22 (qT ch12 (qT ch2 hb1)))))) 19 4 frmL_att) (by rw [attC_length f.att.hk f.att.hr f.att.ht]; kernel_rfl))<|rP 106 123 (pw W1 81)<|rq 107 124 _ rfl (lR 81 (Mur.attC g.att.k g.att.r g.att.n g.att.t) (sgR hJ.sz (qT ch25 (qT ch24 (qT ch23 (qT ch22 (qT ch12 hb2))))) 19 4 frmL_att) (by rw [attC_length g.att.hk g.att.hr g.att.ht]; kernel_rfl)) ?_
                by_cases hpr7 : f.att = g.att
                ·refine rq 108 125 _ rfl (dqT ((Mur.Att.eq_iff f.att g.att).1 hpr7) (run_eql_att (.tmp 122) (.tmp 124) 35 rfl f.att.hk f.att.hr f.att.ht g.att.hk g.att.hr g.att.ht f.att.hn g.att.hn (by kernel_rfl) (by kernel_rfl)))<|rP 109 126 vT<|rP 110 127 vT<|rP 111 128 (pw w 178)<|mN 155 [(2, pw w 0), (3, pw W1 0), (127, vT), (128, pw w 178)] fun _ => rq 112 129 _ rfl (lR 178 (b8s f.root) (sgW hI.sz (qT ch25 (qT ch24 (qT ch23 (qT ch22 (qT ch12 (qT ch2 hb1)))))) 23) (by rw [b8s_length, hI.ok.root]; kernel_rfl))<|rP 113 130 (pw W1 178)<|rq 114 131 _ rfl (lR 178 (b8s g.root) (sgW hJ.sz (qT ch25 (qT ch24 (qT ch23 (qT ch22 (qT ch12 hb2))))) 23) (by rw [b8s_length, hJ.ok.root]; kernel_rfl)) ?_
                 by_cases hpr8 : f.root = g.root
                 ·refine rq 115 132 vT rfl (run_eql_yes digT f.root g.root hI.ok.root hJ.ok.root hpr8 _ (.tmp 129) (.tmp 131) 28 rfl (by kernel_rfl) (by kernel_rfl))<|rP 116 133 vT<|rP 117 134 vT<|rP 118 135 (pw w 210)<|rF 119 136 210 (vI f.chunk) hI.sz (qT ch25 (qT ch24 (qT ch23 (qT ch22 (qT ch12 (qT ch2 hb1)))))) 24<|rP 120 137 (pw W1 210)<|rF 121 138 210 (vI g.chunk) hJ.sz (qT ch25 (qT ch24 (qT ch23 (qT ch22 (qT ch12 hb2))))) 24 ?_
                  by_cases hx10 : f.chunk = g.chunk
                  ·refine eT 122 139 f.chunk g.chunk<|rP 123 140 vT<|rP 124 141 vT<|rP 125 142 (pw w 211)<|mN 155 [(2, pw w 0), (3, pw W1 0), (141, vT), (142, pw w 211)] fun _ => rF 126 143 211 (.slice z.y.A z.y.n z.y.c) hI.sz (qT ch25 (qT ch24 (qT ch23 (qT ch22 (qT ch12 (qT ch2 hb1)))))) 25<|rP 127 144 (pw W1 211)<|rF 128 145 211 (.slice y.y.A y.y.n y.y.c) hJ.sz (qT ch25 (qT ch24 (qT ch23 (qT ch22 (qT ch12 hb2))))) 25 ?_
                   have kk7 := kA kk6 ch25
                   refine rK 129 146 (BEqual_any z.y.A z.y.n z.y.c y.y.A y.y.n y.y.c f.byt g.byt W26 (byt_chg hL.byt kk7 (fun g off e hl => trivial)) (byt_chg hM.byt kk7 (fun g off e hl => trivial))) ?_
                   by_cases hpr9 : f.byt = g.byt
                   ·rw [decide_eq_true hpr9]
                    rintro _ W27 ⟨rfl, ch26⟩
                    have zz26 := ch26.size
                    refine rP 130 147 vT<|rP 131 148 vT<|rP 132 149 (pw w 212)<|rF 133 150 212 (.slice z.f.A z.f.n z.f.c) hI.sz (qT ch26 (qT ch25 (qT ch24 (qT ch23 (qT ch22 (qT ch12 (qT ch2 hb1))))))) 26<|rP 134 151 (pw W1 212)<|rF 135 152 212 (.slice y.f.A y.f.n y.f.c) hJ.sz (qT ch26 (qT ch25 (qT ch24 (qT ch23 (qT ch22 (qT ch12 hb2)))))) 26 ?_
                    have kk8 := kA kk7 ch26
                    refine rK 136 153 (EqualD_any z.f.A z.f.n z.f.c y.f.A y.f.n y.f.c f.prf g.prf W27 (LiesF.chg hL kk8 hLin_).prf (LiesF.chg hM kk8 hMin_).prf hI.ok.prf hJ.ok.prf (by omega)) ?_
                    by_cases hpr10 : f.prf = g.prf
                    ·rw [decide_eq_true hpr10]
                     rintro _ W28 ⟨rfl, ch27⟩
                     have zz27 := ch27.size
                     exact rP 137 154 vT<|rP 138 4 vT<|eN<|wp_ret<|rt vT (yesB (Mur.frm_eq (by first | exact hx1 | omega) (by first | exact hx2 | omega) (by first | exact hx3 | omega) (by first | exact hx4 | omega) (by first | exact hx5 | omega) (by first | exact hx6 | omega) (by first | exact hx7 | omega) (hpr1) (by first | exact hx8 | omega) (hpr2) (hpr3) (by first | exact hx9 | omega) (hpr4) (hpr5) (hpr6) (hpr7) (hpr8) (by first | exact hx10 | omega) (hpr9) (hpr10)) (kA kk8 ch27))
                    rw [decide_eq_false hpr10]
                    rintro _ W29 ⟨rfl, ch28⟩
                    have zz28 := ch28.size
                    exact rP 137 154 vF<|rP 138 4 vF<|eN<|wp_ret<|rt vF (noB (fun e_ => absurd (congrArg (fun x_ : Frm => x_.prf) e_) (hpr10)) (kA kk8 ch28))
                   rw [decide_eq_false hpr9]
                   rintro _ W30 ⟨rfl, ch29⟩
                   have zz29 := ch29.size
                   exact mV 155 8 130 [(141, vT), (146, vF)] 154 vF fun _ => rP 138 4 vF<|eN<|wp_ret<|rt vF (noB (fun e_ => absurd (congrArg (fun x_ : Frm => x_.byt) e_) (hpr9)) (kA kk7 ch29))
                  exact eF 122 139 f.chunk g.chunk<|mV 155 15 123 [(134, vT), (139, vF)] 154 vF fun _ => rP 138 4 vF<|eN<|wp_ret<|rt vF (noB (fun e_ => absurd (congrArg (fun x_ : Frm => x_.chunk) e_) (by first | exact hx10 | omega)) (kA kk6 ch25))
                 exact rq 115 132 vF rfl (run_eql_no digT f.root g.root hI.ok.root hJ.ok.root hpr8 _ (.tmp 129) (.tmp 131) 28 rfl (by kernel_rfl) (by kernel_rfl))<|mV 155 22 116 [(127, vT), (132, vF)] 154 vF fun _ => rP 138 4 vF<|eN<|wp_ret<|rt vF (noB (fun e_ => absurd (congrArg (fun x_ : Frm => x_.root) e_) (hpr8)) (kA kk6 ch25))
                exact rq 108 125 _ rfl (dqF (fun q_ => hpr7 ((Mur.Att.eq_iff f.att g.att).2 q_)) (run_eql_att (.tmp 122) (.tmp 124) 35 rfl f.att.hk f.att.hr f.att.ht g.att.hk g.att.hr g.att.ht f.att.hn g.att.hn (by kernel_rfl) (by kernel_rfl)))<|mV 155 29 109 [(120, vT), (125, vF)] 154 vF fun _ => rP 138 4 vF<|eN<|wp_ret<|rt vF (noB (fun e_ => absurd (congrArg (fun x_ : Frm => x_.att) e_) (hpr7)) (kA kk6 ch25))
               exact rq 101 118 _ rfl (dqF hpr6 (run_eql_claim (.tmp 115) (.tmp 117) 33 rfl hI.ok.key hJ.ok.key (wf64 hI.cNo.1 hI.cNo.2) (wf64 hJ.cNo.1 hJ.cNo.2) hI.ok.inc hJ.ok.inc hI.ok.cnt hJ.ok.cnt (by kernel_rfl) (by kernel_rfl)))<|mV 155 36 102 [(113, vT), (118, vF)] 154 vF fun _ => rP 138 4 vF<|eN<|wp_ret<|rt vF (noB (fun e_ => absurd ⟨(congrArg (fun x_ : Frm => x_.cKey) e_), (congrArg (fun x_ : Frm => x_.cNode) e_), (congrArg (fun x_ : Frm => x_.cInc) e_), (congrArg (fun x_ : Frm => x_.cCnt) e_), (congrArg (fun x_ : Frm => x_.cGone) e_)⟩ (hpr6)) (kA kk6 ch25))
              exact rq 94 111 _ rfl (dqF hpr5 (run_eql_bool (.tmp 108) (.tmp 110) 4 rfl f.gos.ans g.gos.ans (by kernel_rfl) (by kernel_rfl)))<|mV 155 43 95 [(106, vT), (111, vF)] 154 vF fun _ => rP 138 4 vF<|eN<|wp_ret<|rt vF (noB (fun e_ => absurd (congrArg (fun x_ : Frm => x_.gos.ans) e_) (hpr5)) (kA kk6 ch25))
             rw [decide_eq_false hpr4]
             rintro _ W31 ⟨rfl, ch30⟩
             have zz30 := ch30.size
             exact mV 155 50 88 [(99, vT), (104, vF)] 154 vF fun _ => rP 138 4 vF<|eN<|wp_ret<|rt vF (noB (fun e_ => absurd (congrArg (fun x_ : Frm => x_.gos.items) e_) (hpr4)) (kA kk6 ch30))
            exact eF 80 97 f.gos.cnt g.gos.cnt<|mV 155 57 81 [(92, vT), (97, vF)] 154 vF fun _ => rP 138 4 vF<|eN<|wp_ret<|rt vF (noB (fun e_ => absurd (congrArg (fun x_ : Frm => x_.gos.cnt) e_) (by first | exact hx9 | omega)) (kA kk5 ch24))
           exact rq 73 90 vF rfl (run_eql_no digT f.gos.sum g.gos.sum hI.ok.sum hJ.ok.sum hpr3 _ (.tmp 87) (.tmp 89) 28 rfl (by kernel_rfl) (by kernel_rfl))<|mV 155 64 74 [(85, vT), (90, vF)] 154 vF fun _ => rP 138 4 vF<|eN<|wp_ret<|rt vF (noB (fun e_ => absurd (congrArg (fun x_ : Frm => x_.gos.sum) e_) (hpr3)) (kA kk5 ch24))
          rw [decide_eq_false hpr2]
          rintro _ W32 ⟨rfl, ch31⟩
          have zz31 := ch31.size
          exact mV 155 71 67 [(78, vT), (83, vF)] 154 vF fun _ => rP 138 4 vF<|eN<|wp_ret<|rt vF (noB (fun e_ => absurd (congrArg (fun x_ : Frm => x_.gos.pre) e_) (hpr2)) (kA kk5 ch31))
         exact eF 59 76 (f.gos.kind.toNat : Int) (g.gos.kind.toNat : Int)<|mV 155 78 60 [(71, vT), (76, vF)] 154 vF fun _ => rP 138 4 vF<|eN<|wp_ret<|rt vF (noB (fun e_ => absurd (congrArg (fun x_ : Frm => (x_.gos.kind.toNat : Int)) e_) (by first | exact hx8 | omega)) (kA kk4 ch23))
        rw [decide_eq_false hpr1]
        rintro _ W33 ⟨rfl, ch32⟩
        have zz32 := ch32.size
        exact mV 155 85 53 [(64, vT), (69, vF)] 154 vF fun _ => rP 138 4 vF<|eN<|wp_ret<|rt vF (noB (fun e_ => absurd (congrArg (fun x_ : Frm => x_.pUpd) e_) (hpr1)) (kA kk4 ch32))
       exact eF 45 62 f.pAbout g.pAbout<|mV 155 92 46 [(57, vT), (62, vF)] 154 vF fun _ => rP 138 4 vF<|eN<|wp_ret<|rt vF (noB (fun e_ => absurd (congrArg (fun x_ : Frm => x_.pAbout) e_) (by first | exact hx7 | omega)) (kA (kA (kA (zA ch1 : Chg [] w W1) ch2) ch12) ch22))
      exact eF 38 55 (f.pSeq : Int) (g.pSeq : Int)<|mV 155 99 39 [(50, vT), (55, vF)] 154 vF fun _ => rP 138 4 vF<|eN<|wp_ret<|rt vF (noB (fun e_ => absurd (congrArg (fun x_ : Frm => (x_.pSeq : Int)) e_) (by first | exact hx6 | omega)) (kA (kA (kA (zA ch1 : Chg [] w W1) ch2) ch12) ch22))
     exact eF 31 48 (f.pKind.toNat : Int) (g.pKind.toNat : Int)<|mV 155 106 32 [(43, vT), (48, vF)] 154 vF fun _ => rP 138 4 vF<|eN<|wp_ret<|rt vF (noB (fun e_ => absurd (congrArg (fun x_ : Frm => (x_.pKind.toNat : Int)) e_) (by first | exact hx5 | omega)) (kA (kA (kA (zA ch1 : Chg [] w W1) ch2) ch12) ch22))
    exact eF 24 41 f.pTo g.pTo<|mV 155 113 25 [(36, vT), (41, vF)] 154 vF fun _ => rP 138 4 vF<|eN<|wp_ret<|rt vF (noB (fun e_ => absurd (congrArg (fun x_ : Frm => x_.pTo) e_) (by first | exact hx4 | omega)) (kA (kA (kA (zA ch1 : Chg [] w W1) ch2) ch12) ch22))
   exact eF 17 34 f.dst g.dst<|mV 155 120 18 [(29, vT), (34, vF)] 154 vF fun _ => rP 138 4 vF<|eN<|wp_ret<|rt vF (noB (fun e_ => absurd (congrArg (fun x_ : Frm => x_.dst) e_) (by first | exact hx3 | omega)) (kA (kA (kA (zA ch1 : Chg [] w W1) ch2) ch12) ch22))
  exact eF 10 27 f.frm g.frm<|mV 155 127 11 [(22, vT), (27, vF)] 154 vF fun _ => rP 138 4 vF<|eN<|wp_ret<|rt vF (noB (fun e_ => absurd (congrArg (fun x_ : Frm => x_.frm) e_) (by first | exact hx2 | omega)) (kA (kA (kA (zA ch1 : Chg [] w W1) ch2) ch12) ch22))
 exact eF 4 21 (f.kind.toNat : Int) (g.kind.toNat : Int)<|mV 155 133 5 [(21, vF)] 154 vF fun _ => rP 138 4 vF<|eN<|wp_ret<|rt vF (noB (fun e_ => absurd (congrArg (fun x_ : Frm => (x_.kind.toNat : Int)) e_) (by first | exact hx1 | omega)) (kA (kA (kA (zA ch1 : Chg [] w W1) ch2) ch12) ch22))
end Go.Proofs.YtgbadghjnpbiaaaGreatDoor
namespace Go.Proofs.YtgbadghjnpbiaaaGreatDoor
open Go.RowKit Wk
open Mur (b8s Byt Own8 Seg Segs flat cutA attC Att SlA OwnA rowA)
set_option maxRecDepth 100000
set_option maxHeartbeats 4000000
def Idx15_F1 (b : Array Value) (u0 u1 u7 u8 : Value) : Act := sg 19 [(0, u0), (1, u1), (7, u7), (8, u8)] b
theorem over_any (x : UInt8) (w : World) : Calls Tryz.prog 83 #[vB x.toNat] w fun e w' => e = .returned (.bool (decide (15 < x))) ∧ w = w' := by
 refine calls_of_wp Tryz.func83 rfl ?_
 refine sR<|rP 0 2 vF<|eN<|sR<|rP 0 3 (vB x.toNat) ?_
 by_cases hx1 : (x.toNat : Int) > (15 : Int)
 ·exact bT 1 4 ((x.toNat : Int) > (15 : Int))<|rP 2 2 vT<|eN<|wp_ret<|rt vT ⟨by rw [decide_eq_true (show 15 < x by rw [UInt8.lt_iff_toNat_lt]; show 15 < x.toNat; omega)], rfl⟩
 exact bF 1 4 ((x.toNat : Int) > (15 : Int))<|rP 2 2 vF<|eN<|wp_ret<|rt vF ⟨by rw [decide_eq_false (show ¬ 15 < x by rw [UInt8.lt_iff_toNat_lt]; show ¬ 15 < x.toNat; omega)], rfl⟩
theorem index15_any (l : List UInt8) (A : Option Addr) (n c : Nat) (w : World) (hb : Byt w A n l) (hn : n ≤ 9223372036854775807) : Calls Tryz.prog 99 #[.slice A n c, .func (.func 83) #[] #[]] w fun e w' => ∃ r : Int, e = .returned (vI r) ∧ (0 ≤ r ↔ (l.all fun x => decide (x ≤ 15)) = false) ∧ w = w' := by
 have HB := Go.Lib.hid hb
 clear hb
 refine calls_of_wp Tryz.func99 rfl ?_
 refine sR<|rP 0 4 (vI 0)<|eN<|wp_seq<|sR<|rP 0 6 (.slice A n c)<|rP 1 7 (vI n)<|rP 2 8 (vI 0)<|eN<|wp_block<|?_
 refine Wk.loop (fun m_ a wr => ∃ (i : Nat), m_ = n - i ∧ a = Idx15_F1 a.tmps (.slice A n c) (.func (.func 83) #[] #[]) (vI n) (vI i) ∧ i ≤ n ∧ (∀ j, j < i → (l.getD j 0) ≤ 15) ∧ wr = w) (n - 0) ?_ ?_
 ·refine ⟨0, rfl, by kernel_rfl, Nat.zero_le _, (fun j h => by omega), rfl⟩
 rintro mm1 aa1 W1 ⟨i, hmm1, hF1, hi, hall, hw⟩
 generalize aa1.tmps = bb1 at hF1
 subst hF1
 subst hw
 by_cases hlt : i < n
 ·obtain ⟨q, off, rfl, hcc⟩ := HB.out.2 (by omega)
  refine sR<|bT 0 9 ((i : Int) < (n : Int))<|eN<|wp_seq<|cT<|wp_skip<|nxt<|wp_seq<|wp_block<|sR<|rP 0 10 (vI i)<|rP 1 5 (vI i)<|eN<|sR<|rP 0 11 (.func (.func 83) #[] #[])<|rP 1 12 (.slice (some ⟨q, off, none⟩) n c)<|rP 2 13 (vI i)<|rq 3 14 (pt q (off + i * 1)) rfl (iS 1 q off n c i)<|rq 4 15 _ rfl (ld 5 14 q (off + i * 1) (vB ((l.getD i 0).toNat : Nat)) (Mur.byt_cell HB.out i (by omega))) ?_
  refine Wk.rCallV 5 (some 16) (.tmp 11) 83 #[] [.tmp 15] #[5] [vB ((l.getD i 0).toNat : Nat)] rfl rfl (by kernel_rfl) rfl (by kernel_rfl) (by kernel_rfl) (by kernel_rfl) ?_
  refine (over_any (l.getD i 0) W1).mono ?_
  by_cases hov1 : 15 < (l.getD i 0)
  ·rw [decide_eq_true hov1]
   rintro _ _ ⟨rfl, rfl⟩
   refine ⟨_, rfl, ?_⟩
   exact eN<|cT<|sR<|rP 0 17 (vI i)<|rP 1 4 (vI i)<|eN<|tI<|thR<|inR<|thR<|rt (vI i) ⟨_, rfl, by rw [show (l.all fun x => decide (x ≤ 15)) = false from Mur.some15 HB.out.1 hlt hov1]; simp, rfl⟩
  rw [decide_eq_false hov1]
  rintro _ _ ⟨rfl, rfl⟩
  refine ⟨_, rfl, ?_⟩
  refine eN<|cF<|wp_skip<|inN<|nxt<|reg<|rI 0 18 ((i : Int) + 1) (((i + 1 : Nat) : Int))<|rP 1 8 (vI (i + 1 : Nat))<|eN<|?_
  refine ⟨_, ?_, i + 1, rfl, by kernel_rfl, (by omega), (fun j hj => by rcases Nat.lt_or_ge j i with h1 | h1 <;> first | exact hall j h1 | (obtain rfl : j = i := (by omega); exact UInt8.not_lt.1 hov1)), rfl⟩
  omega
 exact sR<|bF 0 9 ((i : Int) < (n : Int))<|eN<|wp_seq<|cF<|xX<|nxt<|sR<|rP 0 4 (vI (-1))<|eN<|wp_ret<|rt (vI (-1)) ⟨_, rfl, by rw [show (l.all fun x => decide (x ≤ 15)) = true from Mur.all15 HB.out.1 (fun j hj => hall j (by omega))]; simp, rfl⟩
theorem contains15_any (l : List UInt8) (A : Option Addr) (n c : Nat) (w : World) (hb : Byt w A n l) (hn : n ≤ 9223372036854775807) : Calls Tryz.prog 82 #[.slice A n c, .func (.func 83) #[] #[]] w fun e w' => e = .returned (.bool (!(l.all fun x => decide (x ≤ 15)))) ∧ w = w' := by
 refine calls_of_wp Tryz.func82 rfl ?_
 refine sR<|rP 0 4 vF<|eN<|sR<|rP 0 5 (.slice A n c)<|rP 1 6 (.func (.func 83) #[] #[])<|rK 2 7 (index15_any l A n c w hb (by omega)) ?_
 rintro _ _ ⟨r_1, rfl, hr1, rfl⟩
 by_cases hx1 : r_1 ≥ (0 : Int)
 ·exact bT 3 8 (r_1 ≥ (0 : Int))<|rP 4 4 vT<|eN<|wp_ret<|rt vT ⟨by rw [show (l.all fun x => decide (x ≤ 15)) = false from by first | exact hr1.1 (by omega) | (cases hq : (l.all fun x => decide (x ≤ 15)) <;> first | rfl | exact absurd (hr1.2 hq) (by omega))]; rfl, rfl⟩
 exact bF 3 8 (r_1 ≥ (0 : Int))<|rP 4 4 vF<|eN<|wp_ret<|rt vF ⟨by rw [show (l.all fun x => decide (x ≤ 15)) = true from by first | exact hr1.1 (by omega) | (cases hq : (l.all fun x => decide (x ≤ 15)) <;> first | rfl | exact absurd (hr1.2 hq) (by omega))]; rfl, rfl⟩
theorem IsPrefix_any (l : List UInt8) (A : Option Addr) (n c : Nat) (w : World) (hb : Byt w A n l) (hn : n ≤ 9223372036854775807) : Calls Tryz.prog 54 #[.slice A n c] w fun e w' => e = .returned (.bool (Mur.isPre l)) ∧ w = w' := by
 refine calls_of_wp Tryz.func54 rfl ?_
 refine sR<|rP 0 2 vF<|eN<|sR<|rP 0 3 (.slice A n c)<|rP 1 4 (vI n) ?_
 by_cases hx1 : (n : Int) ≤ (8 : Int)
 ·refine bT 2 5 ((n : Int) ≤ (8 : Int))<|rP 3 6 vT<|rP 4 7 (.slice A n c)<|rK 5 8 (contains15_any l A n c w hb (by omega)) ?_
  cases hal1 : (l.all fun x => decide (x ≤ 15))
  ·rintro _ _ ⟨rfl, rfl⟩
   exact rP 6 9 vF<|rP 7 10 vF<|rP 8 2 vF<|eN<|wp_ret<|rt vF ⟨by rw [show Mur.isPre l = false from by unfold Mur.isPre; rw [hal1]; rfl], rfl⟩
  rintro _ _ ⟨rfl, rfl⟩
  exact rP 6 9 vT<|rP 7 10 vT<|rP 8 2 vT<|eN<|wp_ret<|rt vT ⟨by rw [show Mur.isPre l = true from by unfold Mur.isPre; rw [hal1]; have := hb.1; simp; omega], rfl⟩
 exact bF 2 5 ((n : Int) ≤ (8 : Int))<|rP 3 6 vF<|rZ 4 7<|rZ 5 8<|rZ 6 9<|rP 7 10 vF<|rP 8 2 vF<|eN<|wp_ret<|rt vF ⟨by rw [show Mur.isPre l = false from by unfold Mur.isPre; have := hb.1; simp; omega], rfl⟩
end Go.Proofs.YtgbadghjnpbiaaaGreatDoor
namespace Go.Proofs.YtgbadghjnpbiaaaGreatDoor
open Go.RowKit Wk
open Mur (b8s Byt Own8 Seg Segs flat cutA attC Att SlA OwnA rowA msgC nib_shn)
set_option maxRecDepth 100000
set_option maxHeartbeats 4000000
def Within_F1 (b : Array Value) (u2 u7 u8 u9 : Value) : Act := sg 28 [(2, u2), (7, u7), (8, u8), (9, u9)] b
theorem within_any (x : Att) (p : List UInt8) (PA : Option Addr) (pn pc : Nat) (w : World) (hb : Byt w PA pn p) (hn : pn ≤ 64) : Calls Tryz.prog 55 #[.agg (attC x.k x.r x.n x.t).toArray, .slice PA pn pc] w fun e w' => e = .returned (.bool (Mur.under p x.k)) ∧ Chg [] w w' := by
 have hpl_ := hb.1
 refine calls_of_wp Tryz.func55 rfl ?_
 refine sR<|nW 0 2 ((Mur.attC x.k x.r x.n x.t).toArray) 35 fun W1 hb1 ch1 sz1 => rP 1 4 vF<|eN<|wp_seq<|sR<|rP 0 7 (.slice PA pn pc)<|rP 1 8 (vI pn)<|rP 2 9 (vI 0)<|eN<|wp_block<|?_
 refine Wk.loop (fun m_ a wr => ∃ (i : Nat), m_ = pn - i ∧ a = Within_F1 a.tmps (pw w 0) (.slice PA pn pc) (vI pn) (vI i) ∧ i ≤ pn ∧ (∀ j, j < i → Mur.nib x.k j = p.getD j 0) ∧ wr.heap[w.heap.size]? = some (.cells (Mur.attC x.k x.r x.n x.t).toArray 35 (0, 0)) ∧ Chg [] w wr) (pn - 0) ?_ ?_
 ·have kk1 : Chg [] w W1 := zA ch1
  refine ⟨0, rfl, by kernel_rfl, Nat.zero_le _, (fun j hj => by omega), hb1, kk1⟩
 rintro mm1 aa1 W2 ⟨i, hmm1, hF1, hi, hall, hX, HB⟩
 generalize aa1.tmps = bb1 at hF1
 subst hF1
 have hzB := HB.size
 by_cases hlt : i < pn
 ·obtain ⟨q2, off2, hA2, _⟩ := hb.2 (by omega)
  subst hA2
  refine sR<|bT 0 10 ((i : Int) < (pn : Int))<|eN<|wp_seq<|cT<|wp_skip<|nxt<|wp_seq<|wp_block<|sR<|rP 0 11 (vI i)<|rq 1 12 (pt q2 (off2 + i * 1)) rfl (iS 1 q2 off2 pn pc i)<|rq 2 13 _ rfl (ld 5 12 q2 (off2 + i * 1) (vB ((p.getD i 0).toNat : Nat)) (Mur.byt_cell (Mur.byt_chg hb HB (fun g off e hl => trivial)) i (by omega)))<|rP 3 5 (vI i)<|rP 4 6 (vB ((p.getD i 0).toNat : Nat))<|eN<|sR<|rP 0 14 (vI i)<|rq 1 15 (vI (i / 2 : Nat)) rfl (Mur.quo_nat 3 3 (.tmp 14) (.const (vI 2)) rfl i 2 (by kernel_rfl) (by kernel_rfl) (by omega) (by omega))<|rP 2 16 (pw w 0)<|rq 3 17 (.pointer (some ⟨w.heap.size, 0 + (i / 2) * 1, none⟩)) rfl (Wk.index_arr 28 5 (.tmp 16) (.tmp 15) rfl 32 Tryz.underlying28 1 (by kernel_rfl) w.heap.size 0 (i / 2) .i64 (by kernel_rfl) (by kernel_rfl) (by omega))<|rq 4 18 _ rfl (load1 5 (.tmp 17) rfl (by kernel_rfl) ⟨w.heap.size, 0 + (i / 2) * 1, none⟩ (by kernel_rfl) (vB ((x.k.getD (i / 2) 0).toNat : Nat)) (show World.cell? _ ⟨_, 0 + 0 * 97 + i / 2 * 1, _⟩ = _ from Mur.SlA.kcell (Mur.slA_box x hX) (i := 0) rfl (j := i / 2) (by omega)))<|rP 5 19 (vI i)<|rq 6 20 (vI (i % 2 : Nat)) rfl (Wk.rem_nat 3 3 (.tmp 19) (.const (vI 2)) rfl i 2 (by kernel_rfl) (by kernel_rfl) (by omega))<|rI 7 21 ((4 : Int) * ((i % 2 : Nat) : Int)) (((4 * (i % 2) : Nat) : Int))<|rI 8 22 ((4 : Int) - ((4 * (i % 2) : Nat) : Int)) (((4 - 4 * (i % 2) : Nat) : Int))<|rq 9 23 (vB ((Mur.shn (x.k.getD (i / 2) 0) i).toNat : Nat)) rfl (Mur.shr8_n 5 3 (.tmp 18) (.tmp 22) rfl (x.k.getD (i / 2) 0) i (by kernel_rfl) (by kernel_rfl)) ?_
  refine rq 10 24 (vB ((Mur.shn (x.k.getD (i / 2) 0) i &&& 15).toNat : Nat)) rfl (Mur.and8_15 5 5 (.tmp 23) (.const (vB 15)) rfl (Mur.shn (x.k.getD (i / 2) 0) i) (by kernel_rfl) (by kernel_rfl))<|rP 11 25 (vB ((p.getD i 0).toNat : Nat)) ?_
  by_cases hx1 : (((Mur.shn (x.k.getD (i / 2) 0) i &&& 15).toNat : Nat) : Int) ≠ (((p.getD i 0).toNat : Nat) : Int)
  ·exact nT 12 26 (((Mur.shn (x.k.getD (i / 2) 0) i &&& 15).toNat : Nat) : Int) (((p.getD i 0).toNat : Nat) : Int)<|eN<|cT<|sR<|rP 0 4 vF<|eN<|tI<|thR<|inR<|thR<|rt vF ⟨by rw [Mur.under_false (p := p) (k := x.k) (i := i) (by have := hb.1; omega) (fun q_ => hx1 (by rw [nib_shn] at q_; rw [q_]))], HB⟩
  refine nF 12 26 (((Mur.shn (x.k.getD (i / 2) 0) i &&& 15).toNat : Nat) : Int) (((p.getD i 0).toNat : Nat) : Int)<|eN<|cF<|wp_skip<|inN<|nxt<|reg<|rI 0 27 ((i : Int) + 1) (((i + 1 : Nat) : Int))<|rP 1 9 (vI (i + 1 : Nat))<|eN<|?_
  refine ⟨_, ?_, i + 1, rfl, by kernel_rfl, (by omega), (Mur.nib_step hall (by rw [nib_shn]; exact Mur.u8_cast_inj (Decidable.not_not.1 hx1))), hX, HB⟩
  omega
 have hun : Mur.under p x.k = true := Mur.under_all hb.1 (show pn ≤ i by omega) hall
 exact sR<|bF 0 10 ((i : Int) < (pn : Int))<|eN<|wp_seq<|cF<|xX<|nxt<|sR<|rP 0 4 vT<|eN<|wp_ret<|rt vT ⟨by rw [hun], HB⟩
end Go.Proofs.YtgbadghjnpbiaaaGreatDoor
namespace Go.Proofs.YtgbadghjnpbiaaaGreatDoor
open Go.RowKit Wk
open Mur (b8s Byt Own8 Seg Segs flat cutA attC Att SlA OwnA rowA msgC msg_pre byt_chg mayM_iff msg_cnt msg_items msg_ans u8_cast_inj attC_length z32 attC_size take_snoc)
set_option maxRecDepth 100000
set_option maxHeartbeats 4000000
def MayG_F1 (b : Array Value) (u1 u43 u44 u45 : Value) : Act := sg 89 [(1, u1), (43, u43), (44, u44), (45, u45)] b
theorem May_any (kd : UInt8) (p : List UInt8) (PA : Option Addr) (pn pc : Nat) (s : List UInt8) (m : Int) (I : List Att) (A : Option Addr) (n c : Nat) (b : Bool) (w : World) (hs : s.length = 32) (hb : Byt w PA pn p) (hl : SlA w A n I) (hpn : pn ≤ 9223372036854775807) (hn : n ≤ 9223372036854775807) : Calls Tryz.prog 22 #[.agg (msgC kd PA pn pc s m A n c b).toArray] w fun e w' => ∃ v, e = .returned (.bool v) ∧ (v = true ↔ Mur.mayM ⟨kd, p, s, m, I, b⟩) ∧ Chg [] w w' := by
 have hlI0 := hl.len
 have hkd_ := kd.toNat_lt
 refine calls_of_wp Tryz.func22 rfl ?_
 refine sR<|nW 0 1 ((Mur.msgC kd PA pn pc s m A n c b).toArray) 31 fun W1 hb1 ch1 sz1 => rP 1 2 vF<|eN<|wp_seq<|sR<|rP 0 7 (pw w 1)<|rq 1 8 _ rfl (ld 22 7 w.heap.size 1 (.slice PA pn pc) (show World.cell? _ ⟨_, 0 + 1, _⟩ = _ from msg_pre (range_row hb1))) ?_
 have kk1 : Chg [] w W1 := zA ch1
 refine rK 2 9 (IsPrefix_any p PA pn pc W1 (byt_chg hb kk1 (fun g off e hl => trivial)) (by omega)) ?_
 cases hpre1 : Mur.isPre p
 ·rintro _ _ ⟨rfl, rfl⟩
  refine rP 3 10 vT<|rP 4 11 vT<|rZ 5 12<|rZ 6 13<|rZ 7 14<|rP 8 15 vT<|rP 9 16 vT<|rZ 10 17<|rZ 11 18<|rZ 12 19<|rP 13 20 vT<|rP 14 21 vT<|rZ 15 22<|rZ 16 23<|rZ 17 24<|rZ 18 25<|rP 19 26 vT<|eN<|cT<|sR<|rP 0 2 vF<|eN<|tR<|?_
  have hlI_ := hl.len
  refine rt vF ?_
  refine ⟨_, rfl, ⟨fun h_ => (by cases h_), fun h_ => ?_⟩, kk1⟩
  exfalso
  obtain ⟨h1_, h2_, h3_, h4_, h5_⟩ := mayM_iff.1 h_
  exact absurd (h1_.symm.trans hpre1) (by decide)
 rintro _ _ ⟨rfl, rfl⟩
 refine rP 3 10 vF<|rP 4 11 vF<|rP 5 12 (pw w 34)<|rq 6 13 _ rfl (ld 3 12 w.heap.size 34 (vI m) (show World.cell? _ ⟨_, 0 + 34, _⟩ = _ from msg_cnt hs (range_row hb1))) ?_
 by_cases hx1 : m < (0 : Int)
 ·refine bT 7 14 (m < (0 : Int))<|rP 8 15 vT<|rP 9 16 vT<|rZ 10 17<|rZ 11 18<|rZ 12 19<|rP 13 20 vT<|rP 14 21 vT<|rZ 15 22<|rZ 16 23<|rZ 17 24<|rZ 18 25<|rP 19 26 vT<|eN<|cT<|sR<|rP 0 2 vF<|eN<|tR<|?_
  have hlI_ := hl.len
  refine rt vF ?_
  refine ⟨_, rfl, ⟨fun h_ => (by cases h_), fun h_ => ?_⟩, kk1⟩
  exfalso
  obtain ⟨h1_, h2_, h3_, h4_, h5_⟩ := mayM_iff.1 h_
  have h1k_ : ((1 : UInt8).toNat : Int) = 1 := rfl
  have h2k_ : ((2 : UInt8).toNat : Int) = 2 := rfl
  rcases h5_ with ⟨hk_, hi_, hb_⟩ | ⟨hk_, hi_, hso_, hz_, hc_⟩
  ·have hk2_ : (kd.toNat : Int) = _ := congrArg (fun z : UInt8 => (z.toNat : Int)) hk_
   have hi2_ := congrArg List.length hi_
   rw [List.length_nil] at hi2_
   first | omega | cases hb_ | (subst hb_; omega)
  have hk2_ : (kd.toNat : Int) = _ := congrArg (fun z : UInt8 => (z.toNat : Int)) hk_
  omega
 refine bF 7 14 (m < (0 : Int))<|rP 8 15 vF<|rP 9 16 vF<|rP 10 17 (pw w 34)<|rq 11 18 _ rfl (ld 3 17 w.heap.size 34 (vI m) (show World.cell? _ ⟨_, 0 + 34, _⟩ = _ from msg_cnt hs (range_row hb1))) ?_
 by_cases hx2 : m > (200 : Int)
 ·refine bT 12 19 (m > (200 : Int))<|rP 13 20 vT<|rP 14 21 vT<|rZ 15 22<|rZ 16 23<|rZ 17 24<|rZ 18 25<|rP 19 26 vT<|eN<|cT<|sR<|rP 0 2 vF<|eN<|tR<|?_
  have hlI_ := hl.len
  refine rt vF ?_
  refine ⟨_, rfl, ⟨fun h_ => (by cases h_), fun h_ => ?_⟩, kk1⟩
  exfalso
  obtain ⟨h1_, h2_, h3_, h4_, h5_⟩ := mayM_iff.1 h_
  have h1k_ : ((1 : UInt8).toNat : Int) = 1 := rfl
  have h2k_ : ((2 : UInt8).toNat : Int) = 2 := rfl
  rcases h5_ with ⟨hk_, hi_, hb_⟩ | ⟨hk_, hi_, hso_, hz_, hc_⟩
  ·have hk2_ : (kd.toNat : Int) = _ := congrArg (fun z : UInt8 => (z.toNat : Int)) hk_
   have hi2_ := congrArg List.length hi_
   rw [List.length_nil] at hi2_
   first | omega | cases hb_ | (subst hb_; omega)
  have hk2_ : (kd.toNat : Int) = _ := congrArg (fun z : UInt8 => (z.toNat : Int)) hk_
  omega
 refine bF 12 19 (m > (200 : Int))<|rP 13 20 vF<|rP 14 21 vF<|rP 15 22 (pw w 35)<|rq 16 23 _ rfl (ld 29 22 w.heap.size 35 (.slice A n c) (show World.cell? _ ⟨_, 0 + 35, _⟩ = _ from msg_items hs (range_row hb1)))<|rP 17 24 (vI n) ?_
 by_cases hx3 : (n : Int) > (8 : Int)
 ·refine bT 18 25 ((n : Int) > (8 : Int))<|rP 19 26 vT<|eN<|cT<|sR<|rP 0 2 vF<|eN<|tR<|?_
  have hlI_ := hl.len
  refine rt vF ?_
  refine ⟨_, rfl, ⟨fun h_ => (by cases h_), fun h_ => ?_⟩, kk1⟩
  exfalso
  obtain ⟨h1_, h2_, h3_, h4_, h5_⟩ := mayM_iff.1 h_
  have h1k_ : ((1 : UInt8).toNat : Int) = 1 := rfl
  have h2k_ : ((2 : UInt8).toNat : Int) = 2 := rfl
  rcases h5_ with ⟨hk_, hi_, hb_⟩ | ⟨hk_, hi_, hso_, hz_, hc_⟩
  ·have hk2_ : (kd.toNat : Int) = _ := congrArg (fun z : UInt8 => (z.toNat : Int)) hk_
   have hi2_ := congrArg List.length hi_
   rw [List.length_nil] at hi2_
   first | omega | cases hb_ | (subst hb_; omega)
  have hk2_ : (kd.toNat : Int) = _ := congrArg (fun z : UInt8 => (z.toNat : Int)) hk_
  omega
 refine bF 18 25 ((n : Int) > (8 : Int))<|rP 19 26 vF<|eN<|cF<|wp_skip<|nxt<|wp_seq<|sR<|?_
 have hpreT_ := hpre1
 have hp8_ := Mur.pre_len hpreT_
 have hpl_ := hb.1
 refine rP 0 27 (pw w 0)<|rq 1 28 _ rfl (ld 5 27 w.heap.size 0 (vB kd.toNat) (show World.cell? _ ⟨_, 0 + 0, _⟩ = _ from Mur.msg_kind (range_row hb1)))<|eN<|wp_block<|sR<|?_
 by_cases hx4 : (kd.toNat : Int) = (1 : Int)
 ·refine eT 0 30 (kd.toNat : Int) (1 : Int)<|rP 1 29 vT<|eN<|cT<|sR<|?_
  cases b
  ·refine rP 0 31 (pw w 35)<|rq 1 32 _ rfl (ld 29 31 w.heap.size 35 (.slice A n c) (show World.cell? _ ⟨_, 0 + 35, _⟩ = _ from msg_items hs (range_row hb1)))<|rP 2 33 (vI n) ?_
   by_cases hx5 : (n : Int) = (0 : Int)
   ·refine eT 3 34 (n : Int) (0 : Int)<|rP 4 35 vT<|rP 5 36 (pw w 36)<|rq 6 37 _ rfl (ld 4 36 w.heap.size 36 vF (show World.cell? _ ⟨_, 0 + 36, _⟩ = _ from msg_ans hs (range_row hb1)))<|rP 7 38 vT<|rP 8 39 vT<|rP 9 2 vT<|eN<|tI<|?_
    have hlI_ := hl.len
    exact rt vT (yesB (mayM_iff.2 ⟨hpreT_, by omega, by omega, by omega, .inl ⟨u8_cast_inj (by have h_ : ((1 : UInt8).toNat : Int) = 1 := rfl; omega), List.eq_nil_of_length_eq_zero (by omega), rfl⟩⟩) kk1)
   refine eF 3 34 (n : Int) (0 : Int)<|rP 4 35 vF<|rZ 5 36<|rZ 6 37<|rZ 7 38<|rP 8 39 vF<|rP 9 2 vF<|eN<|tI<|?_
   have hlI_ := hl.len
   refine rt vF ?_
   refine ⟨_, rfl, ⟨fun h_ => (by cases h_), fun h_ => ?_⟩, kk1⟩
   exfalso
   obtain ⟨h1_, h2_, h3_, h4_, h5_⟩ := mayM_iff.1 h_
   have h1k_ : ((1 : UInt8).toNat : Int) = 1 := rfl
   have h2k_ : ((2 : UInt8).toNat : Int) = 2 := rfl
   rcases h5_ with ⟨hk_, hi_, hb_⟩ | ⟨hk_, hi_, hso_, hz_, hc_⟩
   ·have hk2_ : (kd.toNat : Int) = _ := congrArg (fun z : UInt8 => (z.toNat : Int)) hk_
    have hi2_ := congrArg List.length hi_
    rw [List.length_nil] at hi2_
    first | omega | cases hb_ | (subst hb_; omega)
   have hk2_ : (kd.toNat : Int) = _ := congrArg (fun z : UInt8 => (z.toNat : Int)) hk_
   omega
  refine rP 0 31 (pw w 35)<|rq 1 32 _ rfl (ld 29 31 w.heap.size 35 (.slice A n c) (show World.cell? _ ⟨_, 0 + 35, _⟩ = _ from msg_items hs (range_row hb1)))<|rP 2 33 (vI n) ?_
  by_cases hx6 : (n : Int) = (0 : Int)
  ·refine eT 3 34 (n : Int) (0 : Int)<|rP 4 35 vT<|rP 5 36 (pw w 36)<|rq 6 37 _ rfl (ld 4 36 w.heap.size 36 vT (show World.cell? _ ⟨_, 0 + 36, _⟩ = _ from msg_ans hs (range_row hb1)))<|rP 7 38 vF<|rP 8 39 vF<|rP 9 2 vF<|eN<|tI<|?_
   have hlI_ := hl.len
   refine rt vF ?_
   refine ⟨_, rfl, ⟨fun h_ => (by cases h_), fun h_ => ?_⟩, kk1⟩
   exfalso
   obtain ⟨h1_, h2_, h3_, h4_, h5_⟩ := mayM_iff.1 h_
   have h1k_ : ((1 : UInt8).toNat : Int) = 1 := rfl
   have h2k_ : ((2 : UInt8).toNat : Int) = 2 := rfl
   rcases h5_ with ⟨hk_, hi_, hb_⟩ | ⟨hk_, hi_, hso_, hz_, hc_⟩
   ·have hk2_ : (kd.toNat : Int) = _ := congrArg (fun z : UInt8 => (z.toNat : Int)) hk_
    have hi2_ := congrArg List.length hi_
    rw [List.length_nil] at hi2_
    first | omega | cases hb_ | (subst hb_; omega)
   have hk2_ : (kd.toNat : Int) = _ := congrArg (fun z : UInt8 => (z.toNat : Int)) hk_
   omega
  refine eF 3 34 (n : Int) (0 : Int)<|rP 4 35 vF<|rZ 5 36<|rZ 6 37<|rZ 7 38<|rP 8 39 vF<|rP 9 2 vF<|eN<|tI<|?_
  have hlI_ := hl.len
  refine rt vF ?_
  refine ⟨_, rfl, ⟨fun h_ => (by cases h_), fun h_ => ?_⟩, kk1⟩
  exfalso
  obtain ⟨h1_, h2_, h3_, h4_, h5_⟩ := mayM_iff.1 h_
  have h1k_ : ((1 : UInt8).toNat : Int) = 1 := rfl
  have h2k_ : ((2 : UInt8).toNat : Int) = 2 := rfl
  rcases h5_ with ⟨hk_, hi_, hb_⟩ | ⟨hk_, hi_, hso_, hz_, hc_⟩
  ·have hk2_ : (kd.toNat : Int) = _ := congrArg (fun z : UInt8 => (z.toNat : Int)) hk_
   have hi2_ := congrArg List.length hi_
   rw [List.length_nil] at hi2_
   first | omega | cases hb_ | (subst hb_; omega)
  have hk2_ : (kd.toNat : Int) = _ := congrArg (fun z : UInt8 => (z.toNat : Int)) hk_
  omega
 refine eF 0 30 (kd.toNat : Int) (1 : Int)<|rP 1 29 vF<|eN<|cF<|sR<|?_
 by_cases hx7 : (kd.toNat : Int) = (2 : Int)
 ·refine eT 0 41 (kd.toNat : Int) (2 : Int)<|rP 1 40 vT<|eN<|cT<|wp_seq<|sR<|rP 0 42 (pw w 35)<|rq 1 43 _ rfl (ld 29 42 w.heap.size 35 (.slice A n c) (show World.cell? _ ⟨_, 0 + 35, _⟩ = _ from msg_items hs (range_row hb1)))<|rP 2 44 (vI n)<|rP 3 45 (vI 0)<|eN<|wp_block<|?_
  refine Wk.loop (fun m_ a wr => ∃ (i : Nat), m_ = n - i ∧ a = MayG_F1 a.tmps (pw w 0) (.slice A n c) (vI n) (vI i) ∧ i ≤ n ∧ (∀ x, x ∈ I.take i → Mur.may x.n ∧ Mur.under p x.k = true) ∧ Mur.Sorted (I.take i) ∧ wr.heap[w.heap.size]? = some (.cells (Mur.msgC kd PA pn pc s m A n c b).toArray 31 (0, 0)) ∧ Chg [] w wr) (n - 0) ?_ ?_
  ·refine ⟨0, rfl, by kernel_rfl, (by omega), (by simp), List.Pairwise.nil, hb1, kk1⟩
  rintro mm1 aa1 W2 ⟨i, hmm1, hF1, hi, hall, hsr, hX, HB⟩
  generalize aa1.tmps = bb1 at hF1
  subst hF1
  have hzB := HB.size
  have hxl_ := (Array.getElem?_eq_some_iff.1 hX).1
  have hlI := hl.len
  by_cases hlt : i < n
  ·obtain ⟨g_x, o_x, rfl, _⟩ := hl.ex (by omega)
   obtain ⟨x, hx⟩ : ∃ x, I[i]? = some x := ⟨_, List.getElem?_eq_getElem (by have := hl.len; omega)⟩
   refine sR<|bT 0 46 ((i : Int) < (n : Int))<|eN<|wp_seq<|cT<|wp_skip<|nxt<|wp_seq<|wp_block<|sR<|rP 0 47 (vI i)<|rq 1 48 (pt g_x (o_x + i * 97)) rfl (iS 97 g_x o_x n c i)<|rq 2 49 _ rfl (lR (o_x + i * 97) (Mur.attC x.k x.r x.n x.t) ((Mur.SlA.chg hl HB (fun g off e hl => trivial)).elem hx) (by rw [attC_length x.hk x.hr x.ht]; kernel_rfl))<|nW 3 4 (Mur.attC z32 z32 0 z32).toArray 35 fun W3 hb2 ch2 sz2 => rP 4 3 (vI i)<|rU 5 rfl (sB (Mur.attC x.k x.r x.n x.t).toArray (attC_size x.hk x.hr x.ht) Mur.attC_all hb2 (attC_size rfl rfl rfl)) fun W4 hb3 ch3 zz3 => eN<|sR<|rq 0 51 _ rfl (lA hb3 (attC_size x.hk x.hr x.ht)) ?_
   refine rC 1 52 23 [.tmp 51] #[35] [.agg ((Mur.attC x.k x.r x.n x.t).toArray)] ?_
   by_cases hmay1 : Mur.may x.n
   ·have hmay1u : (1 ≤ x.n ∧ x.n ≤ 5000) := hmay1
    refine (Bytes_ok x.k x.r x.t x.n x.hk x.hr x.ht W4 hmay1).mono ?_
    rintro _ W5 ⟨qr1, cr1, RB1, hRB1, rfl, hbr1, hq1, hq2, ch4⟩
    have zz4 := ch4.size
    have hBt1 : ∀ g off, (some ⟨qr1, 0, none⟩ : Option Addr) = some ⟨g, off, none⟩ → W4.heap.size ≤ g ∧ g < W5.heap.size := fun g off e => by cases e; exact hq1
    refine ⟨_, rfl, ?_⟩
    refine rP 2 50 (.tuple #[.slice (some ⟨qr1, 0, none⟩) 104 cr1, vI 0])<|rP 3 53 (.slice (some ⟨qr1, 0, none⟩) 104 cr1)<|rP 4 54 (vI 0)<|rP 5 5 (.slice (some ⟨qr1, 0, none⟩) 104 cr1)<|rP 6 6 (vI 0)<|eN<|wp_seq<|?_
    refine dReg ([]) (by kernel_rfl) ?_
    intro W6 ch5 sz3
    have zz5 := ch5.size
    have sS1 : Chg ([]) W6 W6 := (Chg.refl _).more (by simp)
    refine dW 0 55 (vI 0) sS1<|dV 1 56 vF rfl rfl (fun w' hw' => boolF (b := ((0 : Int) != (0 : Int))) (bne_eq_false_iff_eq.2 (by decide)) (by kernel_rfl)) sS1<|dW 2 57 vF sS1<|dV 3 58 _ rfl rfl (fun w' hw' => lA (qT hw' (qT ch5 (qT ch4 hb3))) (attC_size x.hk x.hr x.ht)) sS1<|dW 4 59 (pw w 1) sS1<|dV 5 60 (.slice PA pn pc) rfl rfl (fun w' hw' => ld 22 59 w.heap.size 1 (.slice PA pn pc) (show World.cell? _ ⟨_, 0 + 1, _⟩ = _ from msg_pre (range_row (qT hw' (qT ch5 (qT ch4 (qO ch3 (qT ch2 hX)))))))) sS1<|dO 6 ?_
    have kk5 := kA (kA (kB (kA HB ch2) ch3) ch4) ch5
    refine oK 61 (within_any x p PA pn pc W6 (byt_chg hb kk5 (fun g off e hl => trivial)) (by omega)) ?_
    cases hun1 : Mur.under p x.k
    ·rintro _ W7 ⟨rfl, ch6⟩
     have zz6 := ch6.size
     have sS2 := kA sS1 ch6
     refine aN sS2<|dW 7 62 vT sS2<|dW 8 63 vT sS2<|dW 9 64 vT sS2<|dZ 10 65 sS2<|dZ 11 66 sS2<|dZ 12 67 sS2<|dZ 13 68 sS2<|dZ 14 69 sS2<|dZ 15 70 sS2<|dZ 16 71 sS2<|dZ 17 72 sS2<|dZ 18 73 sS2<|dZ 19 74 sS2<|dZ 20 75 sS2<|dZ 21 76 sS2<|dZ 22 77 sS2<|dW 23 78 vT sS2<|dN<|cT<|sR<|rP 0 2 vF<|eN<|tI<|thR<|inR<|thR<|inR<|thR<|?_
     have hlI_ := hl.len
     refine rt vF ?_
     refine ⟨_, rfl, ⟨fun h_ => (by cases h_), fun h_ => ?_⟩, (kA kk5 ch6)⟩
     exfalso
     obtain ⟨h1_, h2_, h3_, h4_, h5_⟩ := mayM_iff.1 h_
     have h1k_ : ((1 : UInt8).toNat : Int) = 1 := rfl
     have h2k_ : ((2 : UInt8).toNat : Int) = 2 := rfl
     rcases h5_ with ⟨hk_, hi_, hb_⟩ | ⟨hk_, hi_, hso_, hz_, hc_⟩
     ·have hk2_ : (kd.toNat : Int) = _ := congrArg (fun z : UInt8 => (z.toNat : Int)) hk_
      have hi2_ := congrArg List.length hi_
      rw [List.length_nil] at hi2_
      first | omega | cases hb_ | (subst hb_; omega)
     have hk2_ : (kd.toNat : Int) = _ := congrArg (fun z : UInt8 => (z.toNat : Int)) hk_
     have hu_ := (hi_ x (List.mem_of_getElem? hx)).2
     rw [hun1] at hu_
     cases hu_
    rintro _ W7 ⟨rfl, ch6⟩
    have zz7 := ch6.size
    have sS3 := kA sS1 ch6
    refine aN sS3<|dW 7 62 vF sS3<|dW 8 63 vF sS3<|dW 9 64 vF sS3<|dW 10 65 (vI i) sS3 ?_
    by_cases hx8 : (i : Int) > (0 : Int)
    ·refine dV 11 66 vT rfl rfl (fun w' hw' => boolT (b := decide ((i : Int) > (0 : Int))) (decide_eq_true (by first | exact hx8 | omega)) (by kernel_rfl)) sS3<|dW 12 67 vT sS3<|dW 13 68 (pw w 35) sS3<|dV 14 69 (.slice (some ⟨g_x, o_x, none⟩) n c) rfl rfl (fun w' hw' => ld 29 68 w.heap.size 35 (.slice (some ⟨g_x, o_x, none⟩) n c) (show World.cell? _ ⟨_, 0 + 35, _⟩ = _ from msg_items hs (range_row (qT hw' (qT ch5 (qT ch4 (qO ch3 (qT ch2 hX)))))))) sS3<|dW 15 70 (vI i) sS3 ?_
     obtain ⟨z, hz⟩ : ∃ z, I[i - 1]? = some z := ⟨_, List.getElem?_eq_getElem (by omega)⟩
     refine dV 16 71 (vI (i - 1 : Nat)) rfl rfl (fun w' hw' => int64 (n := (i : Int) - 1) (z := ((i - 1 : Nat) : Int)) (by omega) (by omega) (by omega) (by kernel_rfl)) sS3<|dV 17 72 (.pointer (some ⟨g_x, o_x + (i - 1) * 97, none⟩)) rfl rfl (fun w' hw' => iS 97 g_x o_x n c (i - 1)) sS3<|dV 18 73 _ rfl rfl (fun w' hw' => lR (o_x + (i - 1) * 97) (Mur.attC z.k z.r z.n z.t) ((Mur.SlA.chg (Mur.SlA.chg hl kk5 (fun g off e hl => trivial)) hw' (fun g off e hl => trivial)).elem hz) (by rw [attC_length z.hk z.hr z.ht]; kernel_rfl)) sS3<|dV 19 74 _ rfl rfl (fun w' hw' => lA (qT hw' (qT ch5 (qT ch4 hb3))) (attC_size x.hk x.hr x.ht)) sS3<|dO 20<|oK 75 (Less_any z.k z.r z.t z.n z.hk z.hr z.ht x.k x.r x.t x.n x.hk x.hr x.ht W7) ?_
     by_cases hls1 : Go.Lib.compareBytes (Mur.rawL z.k z.r z.n z.t) (Mur.rawL x.k x.r x.n x.t) < 0
     ·rw [decide_eq_true (hls1 : Go.Lib.compareBytes (Mur.rawL z.k z.r z.n z.t) (Mur.rawL x.k x.r x.n x.t) < 0)]
      rintro _ W8 ⟨rfl, ch7⟩
      have zz8 := ch7.size
      have sS4 := kA sS3 ch7
      refine aN sS4<|dW 21 76 vF sS4<|dW 22 77 vF sS4<|dW 23 78 vF sS4<|dN<|cF<|wp_skip<|inN<|nxt<|reg<|rI 0 79 ((i : Int) + 1) (((i + 1 : Nat) : Int))<|rP 1 45 (vI (i + 1 : Nat))<|eN<|?_
      refine ⟨_, ?_, i + 1, rfl, by kernel_rfl, (by omega), (fun y_ hy_ => by rw [take_snoc hx] at hy_; rcases List.mem_append.1 hy_ with h1_ | h1_ <;> first | exact hall y_ h1_ | (rw [List.mem_singleton.1 h1_]; exact ⟨hmay1, hun1⟩)), (Mur.sorted_more hsr hx hz (by omega) hls1), (qT ch7 (qT ch6 (qT ch5 (qT ch4 (qO ch3 (qT ch2 hX)))))), (kA (kA kk5 ch6) ch7)⟩
      omega
     rw [decide_eq_false (hls1 : ¬ Go.Lib.compareBytes (Mur.rawL z.k z.r z.n z.t) (Mur.rawL x.k x.r x.n x.t) < 0)]
     rintro _ W8 ⟨rfl, ch7⟩
     have zz9 := ch7.size
     have sS5 := kA sS3 ch7
     refine aN sS5<|dW 21 76 vT sS5<|dW 22 77 vT sS5<|dW 23 78 vT sS5<|dN<|cT<|sR<|rP 0 2 vF<|eN<|tI<|thR<|inR<|thR<|inR<|thR<|?_
     have hlI_ := hl.len
     refine rt vF ?_
     refine ⟨_, rfl, ⟨fun h_ => (by cases h_), fun h_ => ?_⟩, (kA (kA kk5 ch6) ch7)⟩
     exfalso
     obtain ⟨h1_, h2_, h3_, h4_, h5_⟩ := mayM_iff.1 h_
     have h1k_ : ((1 : UInt8).toNat : Int) = 1 := rfl
     have h2k_ : ((2 : UInt8).toNat : Int) = 2 := rfl
     rcases h5_ with ⟨hk_, hi_, hb_⟩ | ⟨hk_, hi_, hso_, hz_, hc_⟩
     ·have hk2_ : (kd.toNat : Int) = _ := congrArg (fun z : UInt8 => (z.toNat : Int)) hk_
      have hi2_ := congrArg List.length hi_
      rw [List.length_nil] at hi2_
      first | omega | cases hb_ | (subst hb_; omega)
     have hk2_ : (kd.toNat : Int) = _ := congrArg (fun z : UInt8 => (z.toNat : Int)) hk_
     exact Mur.not_sorted hx hz (by omega) hls1 hso_
    refine dV 11 66 vF rfl rfl (fun w' hw' => boolF (b := decide ((i : Int) > (0 : Int))) (decide_eq_false (by first | exact hx8 | omega)) (by kernel_rfl)) sS3<|dW 12 67 vF sS3<|dZ 13 68 sS3<|dZ 14 69 sS3<|dZ 15 70 sS3<|dZ 16 71 sS3<|dZ 17 72 sS3<|dZ 18 73 sS3<|dZ 19 74 sS3<|dZ 20 75 sS3<|dZ 21 76 sS3<|dW 22 77 vF sS3<|dW 23 78 vF sS3<|dN<|cF<|wp_skip<|inN<|nxt<|reg<|rI 0 79 ((i : Int) + 1) (((i + 1 : Nat) : Int))<|rP 1 45 (vI (i + 1 : Nat))<|eN<|?_
    refine ⟨_, ?_, i + 1, rfl, by kernel_rfl, (by omega), (fun y_ hy_ => by rw [take_snoc hx] at hy_; rcases List.mem_append.1 hy_ with h1_ | h1_ <;> first | exact hall y_ h1_ | (rw [List.mem_singleton.1 h1_]; exact ⟨hmay1, hun1⟩)), (by have h0_ : i = 0 := (by omega); subst h0_; exact Mur.sorted_one hx), (qT ch6 (qT ch5 (qT ch4 (qO ch3 (qT ch2 hX))))), (kA kk5 ch6)⟩
    omega
   have hmay1u : ¬ (1 ≤ x.n ∧ x.n ≤ 5000) := hmay1
   refine (Bytes_no x.k x.r x.t x.n x.hk x.hr x.ht W4 hmay1).mono ?_
   rintro _ W10 ⟨rfl, ch8⟩
   have zz10 := ch8.size
   refine ⟨_, rfl, ?_⟩
   refine rP 2 50 (.tuple #[.slice none 0 0, vI 2])<|rP 3 53 (.slice none 0 0)<|rP 4 54 (vI 2)<|rP 5 5 (.slice none 0 0)<|rP 6 6 (vI 2)<|eN<|wp_seq<|?_
   refine dReg ([]) (by kernel_rfl) ?_
   intro W11 ch9 sz4
   have zz11 := ch9.size
   have sS6 : Chg ([]) W11 W11 := (Chg.refl _).more (by simp)
   refine dW 0 55 (vI 2) sS6<|dV 1 56 vT rfl rfl (fun w' hw' => boolT (b := ((2 : Int) != (0 : Int))) (bne_iff_ne.2 (by decide)) (by kernel_rfl)) sS6<|dW 2 57 vT sS6<|dZ 3 58 sS6<|dZ 4 59 sS6<|dZ 5 60 sS6<|dZ 6 61 sS6<|dZ 7 62 sS6<|dW 8 63 vT sS6<|dW 9 64 vT sS6<|dZ 10 65 sS6<|dZ 11 66 sS6<|dZ 12 67 sS6<|dZ 13 68 sS6<|dZ 14 69 sS6<|dZ 15 70 sS6<|dZ 16 71 sS6<|dZ 17 72 sS6<|dZ 18 73 sS6<|dZ 19 74 sS6<|dZ 20 75 sS6<|dZ 21 76 sS6<|dZ 22 77 sS6<|dW 23 78 vT sS6<|dN<|cT<|sR<|rP 0 2 vF<|eN<|tI<|thR<|inR<|thR<|inR<|thR<|?_
   have hlI_ := hl.len
   refine rt vF ?_
   refine ⟨_, rfl, ⟨fun h_ => (by cases h_), fun h_ => ?_⟩, (kA (kA (kB (kA HB ch2) ch3) ch8) ch9)⟩
   exfalso
   obtain ⟨h1_, h2_, h3_, h4_, h5_⟩ := mayM_iff.1 h_
   have h1k_ : ((1 : UInt8).toNat : Int) = 1 := rfl
   have h2k_ : ((2 : UInt8).toNat : Int) = 2 := rfl
   rcases h5_ with ⟨hk_, hi_, hb_⟩ | ⟨hk_, hi_, hso_, hz_, hc_⟩
   ·have hk2_ : (kd.toNat : Int) = _ := congrArg (fun z : UInt8 => (z.toNat : Int)) hk_
    have hi2_ := congrArg List.length hi_
    rw [List.length_nil] at hi2_
    first | omega | cases hb_ | (subst hb_; omega)
   have hk2_ : (kd.toNat : Int) = _ := congrArg (fun z : UInt8 => (z.toNat : Int)) hk_
   exact hmay1 (hi_ x (List.mem_of_getElem? hx)).1
  rw [List.take_of_length_le (show I.length ≤ i by omega)] at hall hsr
  refine sR<|bF 0 46 ((i : Int) < (n : Int))<|eN<|wp_seq<|cF<|xX<|nxt<|sR<|rP 0 80 (pw w 2)<|rq 1 81 _ rfl (lR 2 (b8s s) (show World.rangeAt _ _ (0 + 2) _ from Mur.msg_sum (range_row hX)) (by rw [Mur.b8s_length, hs]; kernel_rfl))<|rP 2 82 (.agg ((b8s [0, 0, 0, 0, 0, 0, 0, 0, 0, 0, 0, 0, 0, 0, 0, 0, 0, 0, 0, 0, 0, 0, 0, 0, 0, 0, 0, 0, 0, 0, 0, 0]).toArray)) ?_
  by_cases hzs : s = z32
  ·refine rq 3 83 vT rfl (Mur.run_eql_yes digT s z32 hs rfl hzs _ (.tmp 81) (.tmp 82) 28 rfl (by kernel_rfl) (by kernel_rfl))<|rP 4 84 vT<|rP 5 85 (pw w 34)<|rq 6 86 _ rfl (ld 3 85 w.heap.size 34 (vI m) (show World.cell? _ ⟨_, 0 + 34, _⟩ = _ from msg_cnt hs (range_row hX))) ?_
   by_cases hx9 : m = (0 : Int)
   ·refine eT 7 87 m (0 : Int)<|rP 8 88 vT<|rP 9 2 vT<|eN<|tI<|?_
    have hlI_ := hl.len
    exact rt vT (yesB (mayM_iff.2 ⟨hpreT_, by omega, by omega, by omega, .inr ⟨u8_cast_inj (by have h_ : ((2 : UInt8).toNat : Int) = 2 := rfl; omega), hall, hsr, hzs, by omega⟩⟩) HB)
   refine eF 7 87 m (0 : Int)<|rP 8 88 vF<|rP 9 2 vF<|eN<|tI<|?_
   have hlI_ := hl.len
   refine rt vF ?_
   refine ⟨_, rfl, ⟨fun h_ => (by cases h_), fun h_ => ?_⟩, HB⟩
   exfalso
   obtain ⟨h1_, h2_, h3_, h4_, h5_⟩ := mayM_iff.1 h_
   have h1k_ : ((1 : UInt8).toNat : Int) = 1 := rfl
   have h2k_ : ((2 : UInt8).toNat : Int) = 2 := rfl
   rcases h5_ with ⟨hk_, hi_, hb_⟩ | ⟨hk_, hi_, hso_, hz_, hc_⟩
   ·have hk2_ : (kd.toNat : Int) = _ := congrArg (fun z : UInt8 => (z.toNat : Int)) hk_
    have hi2_ := congrArg List.length hi_
    rw [List.length_nil] at hi2_
    first | omega | cases hb_ | (subst hb_; omega)
   have hk2_ : (kd.toNat : Int) = _ := congrArg (fun z : UInt8 => (z.toNat : Int)) hk_
   omega
  refine rq 3 83 vF rfl (Mur.run_eql_no digT s z32 hs rfl hzs _ (.tmp 81) (.tmp 82) 28 rfl (by kernel_rfl) (by kernel_rfl))<|rP 4 84 vF<|rZ 5 85<|rZ 6 86<|rZ 7 87<|rP 8 88 vF<|rP 9 2 vF<|eN<|tI<|?_
  have hlI_ := hl.len
  refine rt vF ?_
  refine ⟨_, rfl, ⟨fun h_ => (by cases h_), fun h_ => ?_⟩, HB⟩
  exfalso
  obtain ⟨h1_, h2_, h3_, h4_, h5_⟩ := mayM_iff.1 h_
  have h1k_ : ((1 : UInt8).toNat : Int) = 1 := rfl
  have h2k_ : ((2 : UInt8).toNat : Int) = 2 := rfl
  rcases h5_ with ⟨hk_, hi_, hb_⟩ | ⟨hk_, hi_, hso_, hz_, hc_⟩
  ·have hk2_ : (kd.toNat : Int) = _ := congrArg (fun z : UInt8 => (z.toNat : Int)) hk_
   have hi2_ := congrArg List.length hi_
   rw [List.length_nil] at hi2_
   first | omega | cases hb_ | (subst hb_; omega)
  have hk2_ : (kd.toNat : Int) = _ := congrArg (fun z : UInt8 => (z.toNat : Int)) hk_
  exact hzs hz_
 refine eF 0 41 (kd.toNat : Int) (2 : Int)<|rP 1 40 vF<|eN<|cF<|wp_skip<|inN<|nxt<|sR<|rP 0 2 vF<|eN<|wp_ret<|?_
 have hlI_ := hl.len
 refine rt vF ?_
 refine ⟨_, rfl, ⟨fun h_ => (by cases h_), fun h_ => ?_⟩, kk1⟩
 exfalso
 obtain ⟨h1_, h2_, h3_, h4_, h5_⟩ := mayM_iff.1 h_
 have h1k_ : ((1 : UInt8).toNat : Int) = 1 := rfl
 have h2k_ : ((2 : UInt8).toNat : Int) = 2 := rfl
 rcases h5_ with ⟨hk_, hi_, hb_⟩ | ⟨hk_, hi_, hso_, hz_, hc_⟩
 ·have hk2_ : (kd.toNat : Int) = _ := congrArg (fun z : UInt8 => (z.toNat : Int)) hk_
  have hi2_ := congrArg List.length hi_
  rw [List.length_nil] at hi2_
  first | omega | cases hb_ | (subst hb_; omega)
 have hk2_ : (kd.toNat : Int) = _ := congrArg (fun z : UInt8 => (z.toNat : Int)) hk_
 omega
end Go.Proofs.YtgbadghjnpbiaaaGreatDoor
namespace Go.Proofs.YtgbadghjnpbiaaaGreatDoor
open Go.RowKit Wk
open Mur (b8s Byt Own8 Seg Segs flat cutA attC Att SlA OwnA rowA msgC Frm Zs LiesF FrmIn frmP segs_rng frmL_sz segs_cell mayFM frmL_size bareM bareZ mayFM_1 mayFM_2 mayFM_3 mayFM_4 mayFM_6)
set_option maxRecDepth 100000
set_option maxHeartbeats 4000000
def MayF_J3_1 (b : Array Value) (u1 u3 : Value) : Act := sg 97 [(1, u1), (3, u3)] b
theorem Probe_any (f : Frm) (z : Zs) (w : World) (hL : LiesF w z f) (hI : FrmIn f) : Calls Tryz.prog 21 #[.agg (frmP f z).flatten.toArray] w fun e w' => ∃ v, e = .returned (.bool v) ∧ (v = true ↔ (f.pTo = f.dst ∧ (1 ≤ f.pKind.toNat ∧ f.pKind.toNat ≤ 3) ∧ (0 ≤ f.pAbout ∧ f.pAbout < 16) ∧ f.pUpd.length ≤ 8 ∧ ∀ u, u ∈ f.pUpd → Mur.goodU u)) ∧ Chg [] w w' := by
 have hLin_ : z.In fun g => g < w.heap.size → Wk.Off g [] := ⟨fun _ _ _ _ => trivial, fun _ _ _ _ => trivial, fun _ _ _ _ => trivial, fun _ _ _ _ => trivial, fun _ _ _ _ => trivial⟩
 have hLunc_ := hL.nu.nc
 have hLucm_ := hL.nu.cm
 have hLpnc_ := hL.np.nc
 have hLpcm_ := hL.np.cm
 have hLinc_ := hL.ni.nc
 have hLicm_ := hL.ni.cm
 have hLync_ := hL.ny.nc
 have hLycm_ := hL.ny.cm
 have hLfnc_ := hL.nf.nc
 have hLfcm_ := hL.nf.cm
 have hul_ := hL.upd.len
 rw [List.length_map] at hul_
 have hk8_ := f.pKind.toNat_lt
 refine calls_of_wp Tryz.func21 rfl ?_
 refine sR<|nW 0 1 ((frmP f z).flatten.toArray) 38 fun W1 hb1 ch1 sz1 => rP 1 2 vF<|eN<|sR<|rP 0 5 (pw w 3)<|rq 1 6 _ rfl (lR 3 [vI f.pTo, vB f.pKind.toNat, vU f.pSeq, vI f.pAbout, .slice z.u.A z.u.n z.u.c] (sgR hI.sz hb1 3 5 rfl))<|nW 2 3 #[vI 0, vB 0, vU 0, vI 0, .slice none 0 0] 26 fun W2 hb2 ch2 sz2 => rU 3 rfl (Wk.storeR 26 (.tmp 3) (.tmp 6) rfl W1.heap.size 0 (by kernel_rfl) ([vI f.pTo, vB f.pKind.toNat, vU f.pSeq, vI f.pAbout, .slice z.u.A z.u.n z.u.c]) (by kernel_rfl) (by kernel_rfl) (by intro v hv; simp at hv; rcases hv with h | h | h | h | h <;> (subst h; rfl)) 26 ([vI 0, vB 0, vU 0, vI 0, .slice none 0 0]) hb2 (by simp)) fun W3 hb3 ch3 _ => ?_
 replace hb3 : W3.heap[W1.heap.size]? = some (.cells #[vI f.pTo, vB f.pKind.toNat, vU f.pSeq, vI f.pAbout, .slice z.u.A z.u.n z.u.c] 26 (0, 0)) := hb3
 have zz3 := ch3.size
 refine eN<|sR<|rP 0 4 (.func (.func 52) #[] #[])<|eN<|sR<|rP 0 7 (pw W1 0)<|rL 1 8 0 (vI f.pTo) hb3<|rP 2 9 (pw w 2)<|rF 3 10 2 (vI f.dst) hI.sz (qO ch3 (qT ch2 hb1)) 2 ?_
 by_cases hx1 : f.pTo = f.dst
 ·refine eT 4 11 f.pTo f.dst<|rP 5 12 vT<|rP 6 13 (pw W1 1)<|rL 7 14 1 (vB f.pKind.toNat) hb3 ?_
  by_cases hx2 : (f.pKind.toNat : Int) ≥ (1 : Int)
  ·refine bT 8 15 ((f.pKind.toNat : Int) ≥ (1 : Int))<|rP 9 16 vT<|rP 10 17 vT<|rP 11 18 (pw W1 1)<|rL 12 19 1 (vB f.pKind.toNat) hb3 ?_
   by_cases hx3 : (f.pKind.toNat : Int) ≤ (3 : Int)
   ·refine bT 13 20 ((f.pKind.toNat : Int) ≤ (3 : Int))<|rP 14 21 vT<|rP 15 22 vT<|rP 16 23 (pw W1 3)<|rL 17 24 3 (vI f.pAbout) hb3<|rK 18 25 (Node_any f.pAbout W3) ?_
    by_cases hpr1 : (0 : Int) ≤ f.pAbout ∧ f.pAbout < (16 : Int)
    ·rw [decide_eq_true hpr1]
     rintro _ W4 ⟨rfl, ch4⟩
     have zz4 := ch4.size
     refine rP 19 26 vT<|rP 20 27 vT<|rP 21 28 (pw W1 4)<|rL 22 29 4 (.slice z.u.A z.u.n z.u.c) (qT ch4 hb3)<|rP 23 30 (vI z.u.n) ?_
     by_cases hx4 : (z.u.n : Int) ≤ (8 : Int)
     ·refine bT 24 31 ((z.u.n : Int) ≤ (8 : Int))<|rP 25 32 vT<|rP 26 33 vT<|rP 27 34 (pw W1 4)<|rL 28 35 4 (.slice z.u.A z.u.n z.u.c) (qT ch4 hb3)<|rP 29 36 (.func (.func 52) #[] #[]) ?_
      have kk4 := kA (kB (kA (zA ch1 : Chg [] w W1) ch2) ch3) ch4
      refine rK 30 37 (ContU_any z.u.A z.u.n z.u.c f.pUpd W4 (LiesF.chg hL kk4 hLin_).upd (by omega)) ?_
      rintro _ W5 ⟨bv1, rfl, hif1, ch5⟩
      have zz5 := ch5.size
      cases bv1
      ·exact rP 31 38 vT<|rP 32 39 vT<|rP 33 2 vT<|eN<|wp_ret<|rt vT (yesB ⟨by omega, by omega, by omega, by omega, fun u_ h_ => Classical.byContradiction fun q_ => (fun q_ => Bool.noConfusion (hif1.2 q_)) ⟨u_, h_, q_⟩⟩ (kA kk4 ch5))
      exact rP 31 38 vF<|rP 32 39 vF<|rP 33 2 vF<|eN<|wp_ret<|rt vF (noB (fun h_ => absurd h_ (fun ⟨h1_, h2_, h3_, h4_, h5_⟩ => by obtain ⟨y_, q1_, q2_⟩ := (hif1.1 rfl); exact q2_ (h5_ y_ q1_))) (kA kk4 ch5))
     exact bF 24 31 ((z.u.n : Int) ≤ (8 : Int))<|mV 40 8 25 [(27, vT), (31, vF)] 39 vF fun _ => rP 33 2 vF<|eN<|wp_ret<|rt vF (noB (fun h_ => absurd h_ (fun ⟨h1_, h2_, h3_, h4_, h5_⟩ => by omega)) (kA (kB (kA (zA ch1 : Chg [] w W1) ch2) ch3) ch4))
    rw [decide_eq_false hpr1]
    rintro _ W6 ⟨rfl, ch6⟩
    have zz6 := ch6.size
    exact mV 40 14 19 [(22, vT), (25, vF)] 39 vF fun _ => rP 33 2 vF<|eN<|wp_ret<|rt vF (noB (fun h_ => absurd h_ (fun ⟨h1_, h2_, h3_, h4_, h5_⟩ => by omega)) (kA (kB (kA (zA ch1 : Chg [] w W1) ch2) ch3) ch6))
   exact bF 13 20 ((f.pKind.toNat : Int) ≤ (3 : Int))<|mV 40 19 14 [(17, vT), (20, vF)] 39 vF fun _ => rP 33 2 vF<|eN<|wp_ret<|rt vF (noB (fun h_ => absurd h_ (fun ⟨h1_, h2_, h3_, h4_, h5_⟩ => by omega)) (kB (kA (zA ch1 : Chg [] w W1) ch2) ch3))
  exact bF 8 15 ((f.pKind.toNat : Int) ≥ (1 : Int))<|mV 40 24 9 [(12, vT), (15, vF)] 39 vF fun _ => rP 33 2 vF<|eN<|wp_ret<|rt vF (noB (fun h_ => absurd h_ (fun ⟨h1_, h2_, h3_, h4_, h5_⟩ => by omega)) (kB (kA (zA ch1 : Chg [] w W1) ch2) ch3))
 exact eF 4 11 f.pTo f.dst<|mV 40 28 5 [(11, vF)] 39 vF fun _ => rP 33 2 vF<|eN<|wp_ret<|rt vF (noB (fun h_ => absurd h_ (fun ⟨h1_, h2_, h3_, h4_, h5_⟩ => by omega)) (kB (kA (zA ch1 : Chg [] w W1) ch2) ch3))
theorem MayF_any (f : Frm) (z : Zs) (w : World) (hL : LiesF w z f) (hI : FrmIn f) : Calls Tryz.prog 9 #[.agg (frmP f z).flatten.toArray] w fun e w' => ∃ v, e = .returned (.bool v) ∧ (v = true ↔ mayFM f) ∧ Chg [] w w' := by
 have hLin_ : z.In fun g => g < w.heap.size → Wk.Off g [] := ⟨fun _ _ _ _ => trivial, fun _ _ _ _ => trivial, fun _ _ _ _ => trivial, fun _ _ _ _ => trivial, fun _ _ _ _ => trivial⟩
 have hLunc_ := hL.nu.nc
 have hLucm_ := hL.nu.cm
 have hLpnc_ := hL.np.nc
 have hLpcm_ := hL.np.cm
 have hLinc_ := hL.ni.nc
 have hLicm_ := hL.ni.cm
 have hLync_ := hL.ny.nc
 have hLycm_ := hL.ny.cm
 have hLfnc_ := hL.nf.nc
 have hLfcm_ := hL.nf.cm
 have hbl_ := hL.byt.1
 have hfl_ := hL.prf.len
 rw [List.length_map] at hfl_
 refine calls_of_wp Tryz.func9 rfl ?_
 refine sR<|nW 0 1 ((frmP f z).flatten.toArray) 38 fun W1 hb1 ch1 sz1 => rP 1 2 vF<|eN<|wp_seq<|wp_seq<|?_
 refine dReg ([]) (by kernel_rfl) ?_
 intro W2 ch2 sz2
 have zz2 := ch2.size
 have sS1 : Chg ([]) W2 W2 := (Chg.refl _).more (by simp)
 refine dW 0 6 (pw w 1) sS1<|dV 1 7 (vI f.frm) rfl rfl (fun w' hw' => fl 3 6 w.heap.size 1 (vI f.frm) hI.sz (qT hw' (qT ch2 hb1)) 1) sS1<|dO 2<|oK 8 (Node_any f.frm W2) ?_
 by_cases hpr1 : (0 : Int) ≤ f.frm ∧ f.frm < (16 : Int)
 ·rw [decide_eq_true hpr1]
  rintro _ W3 ⟨rfl, ch3⟩
  have zz3 := ch3.size
  have sS2 := kA sS1 ch3
  refine aN sS2<|dW 3 9 vF sS2<|dW 4 10 vF sS2<|dW 5 11 (pw w 2) sS2<|dV 6 12 (vI f.dst) rfl rfl (fun w' hw' => fl 3 11 w.heap.size 2 (vI f.dst) hI.sz (qT hw' (qT ch2 hb1)) 2) sS2<|dO 7<|oK 13 (Node_any f.dst W3) ?_
  by_cases hpr2 : (0 : Int) ≤ f.dst ∧ f.dst < (16 : Int)
  ·rw [decide_eq_true hpr2]
   rintro _ W4 ⟨rfl, ch4⟩
   have zz4 := ch4.size
   have sS3 := kA sS2 ch4
   refine aN sS3<|dW 8 14 vF sS3<|dW 9 15 vF sS3<|dW 10 16 vF sS3<|dW 11 17 (pw w 1) sS3<|dV 12 18 (vI f.frm) rfl rfl (fun w' hw' => fl 3 17 w.heap.size 1 (vI f.frm) hI.sz (qT hw' (qT ch2 hb1)) 1) sS3<|dW 13 19 (pw w 2) sS3<|dV 14 20 (vI f.dst) rfl rfl (fun w' hw' => fl 3 19 w.heap.size 2 (vI f.dst) hI.sz (qT hw' (qT ch2 hb1)) 2) sS3 ?_
   by_cases hx1 : f.frm = f.dst
   ·exact dV 15 21 vT rfl rfl (fun w' hw' => boolT (b := (f.frm == f.dst)) (beq_iff_eq.2 (by first | exact hx1 | omega)) (by kernel_rfl)) sS3<|dW 16 22 vT sS3<|dW 17 23 vT sS3<|dZ 18 24 sS3<|dZ 19 25 sS3<|dZ 20 26 sS3<|dZ 21 27 sS3<|dZ 22 28 sS3<|dW 23 29 vT sS3<|dN<|cT<|sR<|rP 0 2 vF<|eN<|tR<|rt vF (noB (fun h_ => absurd h_ (fun ⟨h1_, h2_, h3_, h4_, h5_⟩ => h3_ (by omega))) (kA (kA (kA (zA ch1 : Chg [] w W1) ch2) ch3) ch4))
   refine dV 15 21 vF rfl rfl (fun w' hw' => boolF (b := (f.frm == f.dst)) (beq_eq_false_iff_ne.2 (by first | exact hx1 | omega)) (by kernel_rfl)) sS3<|dW 16 22 vF sS3<|dW 17 23 vF sS3<|dV 18 24 _ rfl rfl (fun w' hw' => lA (qT hw' (qT ch2 hb1)) (frmL_size hI.sz)) sS3<|dV 19 25 _ rfl rfl (fun w' hw' => lA (qT hw' (qT ch2 hb1)) (frmL_size hI.sz)) sS3<|dO 20<|oK 26 (Bare_any f z W4 hI) ?_
   rintro _ W5 ⟨rfl, ch5⟩
   have zz5 := ch5.size
   have sS4 := kA sS3 ch5
   refine aN sS4<|dO 21 ?_
   have kk9 := kA (kA (kA (kA (zA ch1 : Chg [] w W1) ch2) ch3) ch4) ch5
   refine oK 27 (Same_any f z (bareM f) (bareZ f z) W5 (LiesF.chg hL kk9 hLin_) hI (Mur.lies_bare (LiesF.chg hL kk9 hLin_)) (Mur.frmIn_bare hI)) ?_
   rintro _ W6 ⟨bv1, rfl, hif1, ch6⟩
   have zz6 := ch6.size
   cases bv1
   ·have sS5 := kA sS4 ch6
    exact aN sS5<|dW 22 28 vT sS5<|dW 23 29 vT sS5<|dN<|cT<|sR<|rP 0 2 vF<|eN<|tR<|rt vF (noB (fun h_ => absurd h_ (fun ⟨h1_, h2_, h3_, h4_, h5_⟩ => (fun q_ => Bool.noConfusion (hif1.2 q_)) h4_)) (kA kk9 ch6))
   have sS6 := kA sS4 ch6
   refine aN sS6<|dW 22 28 vF sS6<|dW 23 29 vF sS6<|dN<|cF<|wp_skip<|nxt<|wp_seq<|?_
   refine Wk.cut (fun a wj => ∃ (cb : Bool), a = MayF_J3_1 a.tmps (pw w 0) (.bool cb) ∧ W6 = wj ∧ (cb = true ↔ 0 ≤ f.chunk ∧ f.chunk < 100)) ?_ ?_
   ·refine reg<|rP 0 30 (pw w 210)<|rF 1 31 210 (vI f.chunk) hI.sz (qT ch6 (qT ch5 (qT ch4 (qT ch3 (qT ch2 hb1))))) 24 ?_
    by_cases hx2 : f.chunk ≥ (0 : Int)
    ·refine bT 2 32 (f.chunk ≥ (0 : Int))<|rP 3 33 vT<|rP 4 34 (pw w 210)<|rF 5 35 210 (vI f.chunk) hI.sz (qT ch6 (qT ch5 (qT ch4 (qT ch3 (qT ch2 hb1))))) 24 ?_
     by_cases hx3 : f.chunk < (100 : Int)
     ·refine bT 6 36 (f.chunk < (100 : Int))<|rP 7 37 vT<|rP 8 3 vT<|eN<|?_
      exact ⟨true, by kernel_rfl, rfl, ⟨fun _ => by omega, fun _ => rfl⟩⟩
     refine bF 6 36 (f.chunk < (100 : Int))<|rP 7 37 vF<|rP 8 3 vF<|eN<|?_
     exact ⟨false, by kernel_rfl, rfl, ⟨fun h_ => (by cases h_), fun h_ => (by omega)⟩⟩
    refine bF 2 32 (f.chunk ≥ (0 : Int))<|rP 3 33 vF<|rZ 4 34<|rZ 5 35<|rZ 6 36<|rP 7 37 vF<|rP 8 3 vF<|eN<|?_
    exact ⟨false, by kernel_rfl, rfl, ⟨fun h_ => (by cases h_), fun h_ => (by omega)⟩⟩
   rintro aa1 _ ⟨cb, hF1, rfl, hcb⟩
   generalize aa1.tmps = bb1 at hF1
   subst hF1
   refine nxt<|wp_seq<|sR<|rP 0 38 (pw w 0)<|rF 1 39 0 (vB f.kind.toNat) hI.sz (qT ch6 (qT ch5 (qT ch4 (qT ch3 (qT ch2 hb1))))) 0<|eN<|wp_block<|sR<|?_
   by_cases hx4 : (f.kind.toNat : Int) = (1 : Int)
   ·refine eT 0 41 (f.kind.toNat : Int) (1 : Int)<|rP 1 40 vT<|eN<|cT<|sR<|rq 0 42 _ rfl (lA (qT ch6 (qT ch5 (qT ch4 (qT ch3 (qT ch2 hb1))))) (frmL_size hI.sz)) ?_
    have kk11 := kA kk9 ch6
    refine rK 1 43 (Probe_any f z W6 (LiesF.chg hL kk11 hLin_) hI) ?_
    rintro _ W7 ⟨bv2, rfl, hif2, ch7⟩
    have zz7 := ch7.size
    cases bv2
    ·refine rP 2 2 vF<|eN<|tI<|?_
     have hHd_ : Mur.nodeM f.frm ∧ Mur.nodeM f.dst ∧ f.frm ≠ f.dst ∧ f = bareM f := ⟨hpr1, hpr2, by omega, (hif1.1 rfl)⟩
     have hk_ : f.kind = 1 := kI 1
     have hM_ : mayFM f ↔ Mur.mayK1 f := mayFM_1 hHd_ hk_
     exact rt vF (noB (fun h_ => absurd (hM_.1 h_) (fun q_ => Bool.noConfusion (hif2.2 q_))) (kA kk11 ch7))
    refine rP 2 2 vT<|eN<|tI<|?_
    have hHd_ : Mur.nodeM f.frm ∧ Mur.nodeM f.dst ∧ f.frm ≠ f.dst ∧ f = bareM f := ⟨hpr1, hpr2, by omega, (hif1.1 rfl)⟩
    have hk_ : f.kind = 1 := kI 1
    have hM_ : mayFM f ↔ Mur.mayK1 f := mayFM_1 hHd_ hk_
    exact rt vT (yesB (hM_.2 (hif2.1 rfl)) (kA kk11 ch7))
   refine eF 0 41 (f.kind.toNat : Int) (1 : Int)<|rP 1 40 vF<|eN<|cF<|sR<|?_
   by_cases hx5 : (f.kind.toNat : Int) = (2 : Int)
   ·refine eT 0 45 (f.kind.toNat : Int) (2 : Int)<|rP 1 44 vT<|eN<|cT<|sR<|rP 0 46 (pw w 8)<|rq 1 47 _ rfl (lR 8 (Mur.msgC f.gos.kind z.p.A z.p.n z.p.c f.gos.sum f.gos.cnt z.i.A z.i.n z.i.c f.gos.ans) (sgR hI.sz (qT ch6 (qT ch5 (qT ch4 (qT ch3 (qT ch2 hb1))))) 8 6 rfl) (by rw [Mur.msgC_length hI.ok.sum]; kernel_rfl)) ?_
    have kk14 := kA kk9 ch6
    refine rK 2 48 (May_any f.gos.kind f.gos.pre z.p.A z.p.n z.p.c f.gos.sum f.gos.cnt f.gos.items z.i.A z.i.n z.i.c f.gos.ans W6 hI.ok.sum (LiesF.chg hL kk14 hLin_).pre (LiesF.chg hL kk14 hLin_).its (by omega) (by omega)) ?_
    rintro _ W8 ⟨bv3, rfl, hif3, ch8⟩
    have zz8 := ch8.size
    cases bv3
    ·refine rP 3 2 vF<|eN<|tI<|?_
     have hHd_ : Mur.nodeM f.frm ∧ Mur.nodeM f.dst ∧ f.frm ≠ f.dst ∧ f = bareM f := ⟨hpr1, hpr2, by omega, (hif1.1 rfl)⟩
     have hk_ : f.kind = 2 := kI 2
     have hM_ : mayFM f ↔ Mur.mayK2 f := mayFM_2 hHd_ hk_
     exact rt vF (noB (fun h_ => absurd (hM_.1 h_) (fun q_ => Bool.noConfusion (hif3.2 q_))) (kA kk14 ch8))
    refine rP 3 2 vT<|eN<|tI<|?_
    have hHd_ : Mur.nodeM f.frm ∧ Mur.nodeM f.dst ∧ f.frm ≠ f.dst ∧ f = bareM f := ⟨hpr1, hpr2, by omega, (hif1.1 rfl)⟩
    have hk_ : f.kind = 2 := kI 2
    have hM_ : mayFM f ↔ Mur.mayK2 f := mayFM_2 hHd_ hk_
    exact rt vT (yesB (hM_.2 (hif3.1 rfl)) (kA kk14 ch8))
   refine eF 0 45 (f.kind.toNat : Int) (2 : Int)<|rP 1 44 vF<|eN<|cF<|sR<|?_
   by_cases hx6 : (f.kind.toNat : Int) = (3 : Int)
   ·refine eT 0 50 (f.kind.toNat : Int) (3 : Int)<|rP 1 49 vT<|eN<|cT<|sR<|rP 0 51 (pw w 45)<|rP 1 52 (pw w 77)<|rF 2 53 77 (vI f.cNode) hI.sz (qT ch6 (qT ch5 (qT ch4 (qT ch3 (qT ch2 hb1))))) 15<|rP 3 54 (pw w 1)<|rF 4 55 1 (vI f.frm) hI.sz (qT ch6 (qT ch5 (qT ch4 (qT ch3 (qT ch2 hb1))))) 1 ?_
    by_cases hx7 : f.cNode = f.frm
    ·refine eT 5 56 f.cNode f.frm<|rP 6 57 vT<|rP 7 58 (pw w 45)<|rP 8 59 (pw w 78)<|rF 9 60 78 (vU f.cInc) hI.sz (qT ch6 (qT ch5 (qT ch4 (qT ch3 (qT ch2 hb1))))) 16 ?_
     by_cases hx8 : (f.cInc : Int) ≤ (1099511627776 : Int)
     ·refine bT 10 61 ((f.cInc : Int) ≤ (1099511627776 : Int))<|rP 11 62 vT<|rP 12 63 vT<|rP 13 64 (pw w 45)<|rP 14 65 (pw w 79)<|rF 15 66 79 (vU f.cCnt) hI.sz (qT ch6 (qT ch5 (qT ch4 (qT ch3 (qT ch2 hb1))))) 17 ?_
      by_cases hx9 : (f.cCnt : Int) ≤ (1099511627776 : Int)
      ·refine bT 16 67 ((f.cCnt : Int) ≤ (1099511627776 : Int))<|rP 17 68 vT<|rP 18 2 vT<|eN<|tI<|?_
       have hHd_ : Mur.nodeM f.frm ∧ Mur.nodeM f.dst ∧ f.frm ≠ f.dst ∧ f = bareM f := ⟨hpr1, hpr2, by omega, (hif1.1 rfl)⟩
       have hk_ : f.kind = 3 := kI 3
       have hM_ : mayFM f ↔ Mur.mayK3 f := mayFM_3 hHd_ hk_
       exact rt vT (yesB (hM_.2 (show _ ∧ _ ∧ _ from ⟨by omega, by omega, by omega⟩)) (kA kk9 ch6))
      refine bF 16 67 ((f.cCnt : Int) ≤ (1099511627776 : Int))<|rP 17 68 vF<|rP 18 2 vF<|eN<|tI<|?_
      have hHd_ : Mur.nodeM f.frm ∧ Mur.nodeM f.dst ∧ f.frm ≠ f.dst ∧ f = bareM f := ⟨hpr1, hpr2, by omega, (hif1.1 rfl)⟩
      have hk_ : f.kind = 3 := kI 3
      have hM_ : mayFM f ↔ Mur.mayK3 f := mayFM_3 hHd_ hk_
      exact rt vF (noB (fun h_ => absurd (hM_.1 h_) (fun ⟨q1_, q2_, q3_⟩ => by omega)) (kA kk9 ch6))
     refine bF 10 61 ((f.cInc : Int) ≤ (1099511627776 : Int))<|rP 11 62 vF<|rP 12 63 vF<|rZ 13 64<|rZ 14 65<|rZ 15 66<|rZ 16 67<|rP 17 68 vF<|rP 18 2 vF<|eN<|tI<|?_
     have hHd_ : Mur.nodeM f.frm ∧ Mur.nodeM f.dst ∧ f.frm ≠ f.dst ∧ f = bareM f := ⟨hpr1, hpr2, by omega, (hif1.1 rfl)⟩
     have hk_ : f.kind = 3 := kI 3
     have hM_ : mayFM f ↔ Mur.mayK3 f := mayFM_3 hHd_ hk_
     exact rt vF (noB (fun h_ => absurd (hM_.1 h_) (fun ⟨q1_, q2_, q3_⟩ => by omega)) (kA kk9 ch6))
    refine eF 5 56 f.cNode f.frm<|rP 6 57 vF<|rZ 7 58<|rZ 8 59<|rZ 9 60<|rZ 10 61<|rP 11 62 vF<|rP 12 63 vF<|rZ 13 64<|rZ 14 65<|rZ 15 66<|rZ 16 67<|rP 17 68 vF<|rP 18 2 vF<|eN<|tI<|?_
    have hHd_ : Mur.nodeM f.frm ∧ Mur.nodeM f.dst ∧ f.frm ≠ f.dst ∧ f = bareM f := ⟨hpr1, hpr2, by omega, (hif1.1 rfl)⟩
    have hk_ : f.kind = 3 := kI 3
    have hM_ : mayFM f ↔ Mur.mayK3 f := mayFM_3 hHd_ hk_
    exact rt vF (noB (fun h_ => absurd (hM_.1 h_) (fun ⟨q1_, q2_, q3_⟩ => by omega)) (kA kk9 ch6))
   refine eF 0 50 (f.kind.toNat : Int) (3 : Int)<|rP 1 49 vF<|eN<|cF<|sR<|?_
   by_cases hx10 : (f.kind.toNat : Int) = (4 : Int)
   ·refine eT 0 70 (f.kind.toNat : Int) (4 : Int)<|rP 1 69 vT<|eN<|cT<|sR<|rP 0 72 (pw w 81)<|rq 1 73 _ rfl (lR 81 (Mur.attC f.att.k f.att.r f.att.n f.att.t) (sgR hI.sz (qT ch6 (qT ch5 (qT ch4 (qT ch3 (qT ch2 hb1))))) 19 4 Mur.frmL_att) (by rw [Mur.attC_length f.att.hk f.att.hr f.att.ht]; kernel_rfl)) ?_
    refine rC 2 74 23 [.tmp 73] #[35] [.agg ((Mur.attC f.att.k f.att.r f.att.n f.att.t).toArray)] ?_
    by_cases hmay1 : Mur.may f.att.n
    ·have hmay1u : (1 ≤ f.att.n ∧ f.att.n ≤ 5000) := hmay1
     refine (Bytes_ok f.att.k f.att.r f.att.t f.att.n f.att.hk f.att.hr f.att.ht W6 hmay1).mono ?_
     rintro _ W10 ⟨qr1, cr1, RB1, hRB1, rfl, hbr1, hq1, hq2, ch9⟩
     have zz9 := ch9.size
     have hBt1 : ∀ g off, (some ⟨qr1, 0, none⟩ : Option Addr) = some ⟨g, off, none⟩ → W6.heap.size ≤ g ∧ g < W10.heap.size := fun g off e => by cases e; exact hq1
     refine ⟨_, rfl, ?_⟩
     refine rP 3 71 (.tuple #[.slice (some ⟨qr1, 0, none⟩) 104 cr1, vI 0])<|rP 4 75 (.slice (some ⟨qr1, 0, none⟩) 104 cr1)<|rP 5 76 (vI 0)<|rP 6 4 (.slice (some ⟨qr1, 0, none⟩) 104 cr1)<|rP 7 5 (vI 0)<|eN<|sR<|rP 0 77 (vI 0)<|eT 1 78 (0 : Int) (0 : Int)<|rP 2 2 vT<|eN<|tI<|?_
     have hHd_ : Mur.nodeM f.frm ∧ Mur.nodeM f.dst ∧ f.frm ≠ f.dst ∧ f = bareM f := ⟨hpr1, hpr2, by omega, (hif1.1 rfl)⟩
     have hk_ : f.kind = 4 := kI 4
     have hM_ : mayFM f ↔ Mur.mayK4 f := mayFM_4 hHd_ hk_
     exact rt vT (yesB (hM_.2 hmay1) (kA (kA kk9 ch6) ch9))
    have hmay1u : ¬ (1 ≤ f.att.n ∧ f.att.n ≤ 5000) := hmay1
    refine (Bytes_no f.att.k f.att.r f.att.t f.att.n f.att.hk f.att.hr f.att.ht W6 hmay1).mono ?_
    rintro _ W11 ⟨rfl, ch10⟩
    have zz10 := ch10.size
    refine ⟨_, rfl, ?_⟩
    refine rP 3 71 (.tuple #[.slice none 0 0, vI 2])<|rP 4 75 (.slice none 0 0)<|rP 5 76 (vI 2)<|rP 6 4 (.slice none 0 0)<|rP 7 5 (vI 2)<|eN<|sR<|rP 0 77 (vI 2)<|eF 1 78 (2 : Int) (0 : Int)<|rP 2 2 vF<|eN<|tI<|?_
    have hHd_ : Mur.nodeM f.frm ∧ Mur.nodeM f.dst ∧ f.frm ≠ f.dst ∧ f = bareM f := ⟨hpr1, hpr2, by omega, (hif1.1 rfl)⟩
    have hk_ : f.kind = 4 := kI 4
    have hM_ : mayFM f ↔ Mur.mayK4 f := mayFM_4 hHd_ hk_
    exact rt vF (noB (fun h_ => absurd (hM_.1 h_) hmay1) (kA (kA kk9 ch6) ch10))
   refine eF 0 70 (f.kind.toNat : Int) (4 : Int)<|rP 1 69 vF<|eN<|cF<|sR<|?_
   by_cases hx11 : (f.kind.toNat : Int) = (5 : Int)
   ·refine eT 0 80 (f.kind.toNat : Int) (5 : Int)<|rP 1 79 vT<|eN<|cT<|sR<|rP 0 81 (.bool cb)<|rP 1 2 (.bool cb)<|eN<|tI<|?_
    have hHd_ : Mur.nodeM f.frm ∧ Mur.nodeM f.dst ∧ f.frm ≠ f.dst ∧ f = bareM f := ⟨hpr1, hpr2, by omega, (hif1.1 rfl)⟩
    have hk_ : f.kind = 5 := kI 5
    have hM_ : mayFM f ↔ Mur.mayK5 f := Mur.mayFM_5 hHd_ hk_
    exact rt (.bool cb) ⟨_, rfl, hcb.trans hM_.symm, (kA kk9 ch6)⟩
   refine eF 0 80 (f.kind.toNat : Int) (5 : Int)<|rP 1 79 vF<|eN<|cF<|sR<|?_
   by_cases hx12 : (f.kind.toNat : Int) = (6 : Int)
   ·refine eT 0 83 (f.kind.toNat : Int) (6 : Int)<|rP 1 82 vT<|eN<|cT<|sR<|rP 0 84 (.bool cb)<|rP 1 85 (.bool cb) ?_
    cases cb
    ·refine rZ 2 86<|rZ 3 87<|rZ 4 88<|rZ 5 89<|rP 6 90 vF<|rP 7 91 vF<|rZ 8 92<|rZ 9 93<|rZ 10 94<|rZ 11 95<|rP 12 96 vF<|rP 13 2 vF<|eN<|tI<|?_
     have hHd_ : Mur.nodeM f.frm ∧ Mur.nodeM f.dst ∧ f.frm ≠ f.dst ∧ f = bareM f := ⟨hpr1, hpr2, by omega, (hif1.1 rfl)⟩
     have hk_ : f.kind = 6 := kI 6
     have hM_ : mayFM f ↔ Mur.mayK6 f := mayFM_6 hHd_ hk_
     exact rt vF (noB (fun h_ => absurd (hM_.1 h_) (fun ⟨q1_, q2_, q3_⟩ => by first | omega | exact Bool.noConfusion (hcb.2 q1_))) (kA kk9 ch6))
    refine rP 2 86 (pw w 211)<|rF 3 87 211 (.slice z.y.A z.y.n z.y.c) hI.sz (qT ch6 (qT ch5 (qT ch4 (qT ch3 (qT ch2 hb1))))) 25<|rP 4 88 (vI z.y.n) ?_
    by_cases hx13 : (z.y.n : Int) ≤ (64 : Int)
    ·refine bT 5 89 ((z.y.n : Int) ≤ (64 : Int))<|rP 6 90 vT<|rP 7 91 vT<|rP 8 92 (pw w 212)<|rF 9 93 212 (.slice z.f.A z.f.n z.f.c) hI.sz (qT ch6 (qT ch5 (qT ch4 (qT ch3 (qT ch2 hb1))))) 26<|rP 10 94 (vI z.f.n) ?_
     by_cases hx14 : (z.f.n : Int) ≤ (10 : Int)
     ·refine bT 11 95 ((z.f.n : Int) ≤ (10 : Int))<|rP 12 96 vT<|rP 13 2 vT<|eN<|tI<|?_
      have hHd_ : Mur.nodeM f.frm ∧ Mur.nodeM f.dst ∧ f.frm ≠ f.dst ∧ f = bareM f := ⟨hpr1, hpr2, by omega, (hif1.1 rfl)⟩
      have hk_ : f.kind = 6 := kI 6
      have hM_ : mayFM f ↔ Mur.mayK6 f := mayFM_6 hHd_ hk_
      exact rt vT (yesB (hM_.2 ⟨hcb.1 rfl, by omega, by omega⟩) (kA kk9 ch6))
     refine bF 11 95 ((z.f.n : Int) ≤ (10 : Int))<|rP 12 96 vF<|rP 13 2 vF<|eN<|tI<|?_
     have hHd_ : Mur.nodeM f.frm ∧ Mur.nodeM f.dst ∧ f.frm ≠ f.dst ∧ f = bareM f := ⟨hpr1, hpr2, by omega, (hif1.1 rfl)⟩
     have hk_ : f.kind = 6 := kI 6
     have hM_ : mayFM f ↔ Mur.mayK6 f := mayFM_6 hHd_ hk_
     exact rt vF (noB (fun h_ => absurd (hM_.1 h_) (fun ⟨q1_, q2_, q3_⟩ => by first | omega | exact Bool.noConfusion (hcb.2 q1_))) (kA kk9 ch6))
    refine bF 5 89 ((z.y.n : Int) ≤ (64 : Int))<|rP 6 90 vF<|rP 7 91 vF<|rZ 8 92<|rZ 9 93<|rZ 10 94<|rZ 11 95<|rP 12 96 vF<|rP 13 2 vF<|eN<|tI<|?_
    have hHd_ : Mur.nodeM f.frm ∧ Mur.nodeM f.dst ∧ f.frm ≠ f.dst ∧ f = bareM f := ⟨hpr1, hpr2, by omega, (hif1.1 rfl)⟩
    have hk_ : f.kind = 6 := kI 6
    have hM_ : mayFM f ↔ Mur.mayK6 f := mayFM_6 hHd_ hk_
    exact rt vF (noB (fun h_ => absurd (hM_.1 h_) (fun ⟨q1_, q2_, q3_⟩ => by first | omega | exact Bool.noConfusion (hcb.2 q1_))) (kA kk9 ch6))
   refine eF 0 83 (f.kind.toNat : Int) (6 : Int)<|rP 1 82 vF<|eN<|cF<|wp_skip<|inN<|nxt<|sR<|rP 0 2 vF<|eN<|wp_ret<|?_
   have hHd_ : Mur.nodeM f.frm ∧ Mur.nodeM f.dst ∧ f.frm ≠ f.dst ∧ f = bareM f := ⟨hpr1, hpr2, by omega, (hif1.1 rfl)⟩
   exact rt vF (noB (fun h_ => absurd h_.2.2.2.2 (by rintro (h_ | h_ | h_ | h_ | h_ | h_) <;> (have q_ := congrArg UInt8.toNat h_.1; have q1_ : (1 : UInt8).toNat = 1 := rfl; have q2_ : (2 : UInt8).toNat = 2 := rfl; have q3_ : (3 : UInt8).toNat = 3 := rfl; have q4_ : (4 : UInt8).toNat = 4 := rfl; have q5_ : (5 : UInt8).toNat = 5 := rfl; have q6_ : (6 : UInt8).toNat = 6 := rfl; omega))) (kA kk9 ch6))
  rw [decide_eq_false hpr2]
  rintro _ W12 ⟨rfl, ch11⟩
  have zz11 := ch11.size
  have sS7 := kA sS2 ch11
  exact aN sS7<|dW 8 14 vT sS7<|dW 9 15 vT sS7<|dW 10 16 vT sS7<|dZ 11 17 sS7<|dZ 12 18 sS7<|dZ 13 19 sS7<|dZ 14 20 sS7<|dZ 15 21 sS7<|dW 16 22 vT sS7<|dW 17 23 vT sS7<|dZ 18 24 sS7<|dZ 19 25 sS7<|dZ 20 26 sS7<|dZ 21 27 sS7<|dZ 22 28 sS7<|dW 23 29 vT sS7<|dN<|cT<|sR<|rP 0 2 vF<|eN<|tR<|rt vF (noB (fun h_ => absurd h_ (fun ⟨h1_, h2_, h3_, h4_, h5_⟩ => by have q1_ : 0 ≤ f.frm ∧ f.frm < 16 := h1_; have q2_ : 0 ≤ f.dst ∧ f.dst < 16 := h2_; first | exact hpr2 q1_ | exact hpr2 q2_)) (kA (kA (kA (zA ch1 : Chg [] w W1) ch2) ch3) ch11))
 rw [decide_eq_false hpr1]
 rintro _ W13 ⟨rfl, ch12⟩
 have zz12 := ch12.size
 have sS8 := kA sS1 ch12
 exact aN sS8<|dW 3 9 vT sS8<|dW 4 10 vT sS8<|dZ 5 11 sS8<|dZ 6 12 sS8<|dZ 7 13 sS8<|dZ 8 14 sS8<|dW 9 15 vT sS8<|dW 10 16 vT sS8<|dZ 11 17 sS8<|dZ 12 18 sS8<|dZ 13 19 sS8<|dZ 14 20 sS8<|dZ 15 21 sS8<|dW 16 22 vT sS8<|dW 17 23 vT sS8<|dZ 18 24 sS8<|dZ 19 25 sS8<|dZ 20 26 sS8<|dZ 21 27 sS8<|dZ 22 28 sS8<|dW 23 29 vT sS8<|dN<|cT<|sR<|rP 0 2 vF<|eN<|tR<|rt vF (noB (fun h_ => absurd h_ (fun ⟨h1_, h2_, h3_, h4_, h5_⟩ => by have q1_ : 0 ≤ f.frm ∧ f.frm < 16 := h1_; have q2_ : 0 ≤ f.dst ∧ f.dst < 16 := h2_; first | exact hpr1 q1_ | exact hpr1 q2_)) (kA (kA (zA ch1 : Chg [] w W1) ch2) ch12))
end Go.Proofs.YtgbadghjnpbiaaaGreatDoor
