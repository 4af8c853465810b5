/- What the row rests on, part 10. -/
import Derived.Test.YtgbadghjnpbiaaaDoorRA9
import Derived.Test.YtgbadghjnpbiaaaDoorRA8
import Derived.Test.YtgbadghjnpbiaaaDoorRA5
namespace Go.Proofs.YtgbadghjnpbiaaaDoor
open Go.RowKit Wk
open Mur (b8s Byt Own8 Seg Segs flat cutA attC Att SlA OwnA rowA msgC Frm Zs FrmIn frmP segs_cell frmL_sz frmL_size frmL_all segs_rng store_segs frmL sl0 z32 bareM_1 bareZ_1 msgC_length bareM_2 bareZ_2 claimC_length bareM_3 bareZ_3 attC_length frmL_att bareM_4 bareZ_4 b8s_length segs_row b8s_one store_seg1 bareM_5 bareZ_5 bareM_6 bareZ_6 bareM_0 bareZ_0 LiesF msgC_size msgC_all msg_kind msg_pre byt_chg msg_sum run_eql_yes msg_cnt msg_items msg_ans run_eql_no)
set_option maxRecDepth 100000
set_option maxHeartbeats 4000000
def SameF_J1_1 (b : Array Value) (u2 : Value) (u3 : Value) (u5 : Value) (u6 : Value) : Act := ⟨#[gd b 0, gd b 1, u2, u3, gd b 4, u5, u6, gd b 7, gd b 8, gd b 9, gd b 10, gd b 11, gd b 12, gd b 13, gd b 14, gd b 15, gd b 16, gd b 17, gd b 18, gd b 19, gd b 20, gd b 21, gd b 22, gd b 23, gd b 24, gd b 25, gd b 26, gd b 27, gd b 28, gd b 29, gd b 30, gd b 31, gd b 32, gd b 33, gd b 34, gd b 35, gd b 36, gd b 37, gd b 38, gd b 39, gd b 40, gd b 41, gd b 42, gd b 43, gd b 44, gd b 45, gd b 46, gd b 47, gd b 48, gd b 49, gd b 50, gd b 51, gd b 52, gd b 53, gd b 54, gd b 55, gd b 56, gd b 57, gd b 58, gd b 59, gd b 60, gd b 61, gd b 62, gd b 63, gd b 64, gd b 65, gd b 66, gd b 67, gd b 68, gd b 69, gd b 70, gd b 71, gd b 72, gd b 73, gd b 74, gd b 75, gd b 76, gd b 77, gd b 78, gd b 79, gd b 80, gd b 81, gd b 82, gd b 83, gd b 84, gd b 85, gd b 86, gd b 87, gd b 88, gd b 89, gd b 90, gd b 91, gd b 92, gd b 93, gd b 94, gd b 95, gd b 96, gd b 97, gd b 98, gd b 99, gd b 100, gd b 101, gd b 102, gd b 103, gd b 104, gd b 105, gd b 106, gd b 107, gd b 108, gd b 109, gd b 110, gd b 111, gd b 112, gd b 113, gd b 114, gd b 115, gd b 116, gd b 117, gd b 118, gd b 119, gd b 120, gd b 121, gd b 122, gd b 123, gd b 124, gd b 125, gd b 126, gd b 127, gd b 128, gd b 129, gd b 130, gd b 131, gd b 132, gd b 133, gd b 134, gd b 135, gd b 136, gd b 137, gd b 138, gd b 139, gd b 140, gd b 141, gd b 142, gd b 143, gd b 144, gd b 145, gd b 146, gd b 147, gd b 148, gd b 149, gd b 150, gd b 151, gd b 152, gd b 153, gd b 154], []⟩
def SameF_J2_2 (b : Array Value) (u2 : Value) (u3 : Value) (u5 : Value) (u6 : Value) (u7 : Value) (u8 : Value) : Act := ⟨#[gd b 0, gd b 1, u2, u3, gd b 4, u5, u6, u7, u8, gd b 9, gd b 10, gd b 11, gd b 12, gd b 13, gd b 14, gd b 15, gd b 16, gd b 17, gd b 18, gd b 19, gd b 20, gd b 21, gd b 22, gd b 23, gd b 24, gd b 25, gd b 26, gd b 27, gd b 28, gd b 29, gd b 30, gd b 31, gd b 32, gd b 33, gd b 34, gd b 35, gd b 36, gd b 37, gd b 38, gd b 39, gd b 40, gd b 41, gd b 42, gd b 43, gd b 44, gd b 45, gd b 46, gd b 47, gd b 48, gd b 49, gd b 50, gd b 51, gd b 52, gd b 53, gd b 54, gd b 55, gd b 56, gd b 57, gd b 58, gd b 59, gd b 60, gd b 61, gd b 62, gd b 63, gd b 64, gd b 65, gd b 66, gd b 67, gd b 68, gd b 69, gd b 70, gd b 71, gd b 72, gd b 73, gd b 74, gd b 75, gd b 76, gd b 77, gd b 78, gd b 79, gd b 80, gd b 81, gd b 82, gd b 83, gd b 84, gd b 85, gd b 86, gd b 87, gd b 88, gd b 89, gd b 90, gd b 91, gd b 92, gd b 93, gd b 94, gd b 95, gd b 96, gd b 97, gd b 98, gd b 99, gd b 100, gd b 101, gd b 102, gd b 103, gd b 104, gd b 105, gd b 106, gd b 107, gd b 108, gd b 109, gd b 110, gd b 111, gd b 112, gd b 113, gd b 114, gd b 115, gd b 116, gd b 117, gd b 118, gd b 119, gd b 120, gd b 121, gd b 122, gd b 123, gd b 124, gd b 125, gd b 126, gd b 127, gd b 128, gd b 129, gd b 130, gd b 131, gd b 132, gd b 133, gd b 134, gd b 135, gd b 136, gd b 137, gd b 138, gd b 139, gd b 140, gd b 141, gd b 142, gd b 143, gd b 144, gd b 145, gd b 146, gd b 147, gd b 148, gd b 149, gd b 150, gd b 151, gd b 152, gd b 153, gd b 154], []⟩
theorem Bare_any (f : Frm) (z : Zs) (w : World) (hI : FrmIn f) : Calls Tryd.prog 44 #[.agg (frmP f z).flatten.toArray] w fun e w' => e = .returned (.agg (frmP (Mur.bareM f) (Mur.bareZ f z)).flatten.toArray) ∧ Chg [] w w' := by
 refine calls_of_wp Tryd.func44 rfl ?_
 refine wp_seq (reg ?_)
 refine rX 0 1 rfl rfl (new_ex (pt w.heap.size 0) ((frmP f z).flatten.toArray) 39 (by kernel_rfl)) ?_
 rintro _ W1 ⟨rfl, hb1, ch1, sz1⟩
 have zz1 := ch1.size
 refine rX 1 2 rfl rfl (new_ex (pt W1.heap.size 0) ((frmh 0 0 0).flatten.toArray) 39 (by kernel_rfl)) ?_
 rintro _ W2 ⟨rfl, hb2, ch2, sz2⟩
 have zz2 := ch2.size
 refine rEnd 2 rfl (nxt (wp_seq (reg ?_)))
 refine rP 0 4 (pt w.heap.size 0) ?_
 refine rQ 1 5 _ rfl rfl (ld 5 4 w.heap.size 0 (.int .u8 ((f.kind.toNat : Nat) : Int)) (show World.cell? _ ⟨_, 0 + 0, _⟩ = _ from segs_cell (frmL_sz hI.ok.sum hI.ok.key f.att.hk f.att.hr f.att.ht hI.ok.root) (range_row (Chg.hp ch2 hb1 trivial)) 0 rfl rfl)) ?_
 refine rP 2 6 (pt w.heap.size 1) ?_
 refine rQ 3 7 _ rfl rfl (ld 3 6 w.heap.size 1 (.int .i64 f.frm) (show World.cell? _ ⟨_, 0 + 1, _⟩ = _ from segs_cell (frmL_sz hI.ok.sum hI.ok.key f.att.hk f.att.hr f.att.ht hI.ok.root) (range_row (Chg.hp ch2 hb1 trivial)) 1 rfl rfl)) ?_
 refine rP 4 8 (pt w.heap.size 2) ?_
 refine rQ 5 9 _ rfl rfl (ld 3 8 w.heap.size 2 (.int .i64 f.dst) (show World.cell? _ ⟨_, 0 + 2, _⟩ = _ from segs_cell (frmL_sz hI.ok.sum hI.ok.key f.att.hk f.att.hr f.att.ht hI.ok.root) (range_row (Chg.hp ch2 hb1 trivial)) 2 rfl rfl)) ?_
 refine rQ 6 10 (.agg ((frmh f.kind f.frm f.dst).flatten.toArray)) rfl rfl (Mur.run_built 39 _ rfl [(0, .int .u8 ((f.kind.toNat : Nat) : Int)), (1, .int .i64 f.frm), (2, .int .i64 f.dst)] (by kernel_rfl) _ (built_head3 f.kind f.frm f.dst)) ?_
 refine rX 7 3 rfl rfl (new_ex (pt W2.heap.size 0) ((frmh 0 0 0).flatten.toArray) 39 (by kernel_rfl)) ?_
 rintro _ W3 ⟨rfl, hb3, ch3, sz3⟩
 have zz3 := ch3.size
 refine rY 8 rfl rfl (Mur.storeArr 39 (.tmp 3) (.tmp 10) rfl W2.heap.size (by kernel_rfl) (frmh f.kind f.frm f.dst).flatten.toArray 213 (frmL_size (frmL_sz rfl rfl rfl rfl rfl rfl)) frmL_all (by kernel_rfl) (by kernel_rfl) 39 ((frmh 0 0 0).flatten.toArray) hb3 (frmL_size (frmL_sz rfl rfl rfl rfl rfl rfl))) ?_
 rintro W4 ⟨hb4, ch4⟩
 have zz4 := ch4.size
 refine rEnd 9 rfl (nxt (wp_seq (wp_seq (reg ?_))))
 refine rP 0 11 (pt w.heap.size 0) ?_
 refine rQ 1 12 _ rfl rfl (ld 5 11 w.heap.size 0 (.int .u8 ((f.kind.toNat : Nat) : Int)) (show World.cell? _ ⟨_, 0 + 0, _⟩ = _ from segs_cell (frmL_sz hI.ok.sum hI.ok.key f.att.hk f.att.hr f.att.ht hI.ok.root) (range_row (Chg.hp ch4 (Chg.hp ch3 (Chg.hp ch2 hb1 trivial) trivial) ⟨by omega, trivial⟩)) 0 rfl rfl)) ?_
 refine rEnd 2 rfl (nxt (wp_block (wp_seq (reg ?_))))
 by_cases hx1 : ((f.kind.toNat : Nat) : Int) = (1 : Int)
 ·refine rQ 0 14 _ rfl rfl (qboolT (b := (((f.kind.toNat : Nat) : Int) == (1 : Int))) (beq_iff_eq.2 (by first | exact hx1 | omega))) ?_
  refine rP 1 13 (.bool true) ?_
  refine rEnd 2 rfl (nxt (wp_cond_true (by kernel_rfl) (reg ?_)))
  refine rP 0 15 (pt w.heap.size 3) ?_
  refine rQ 1 16 (.agg #[.int .i64 f.pTo, .int .u8 ((f.pKind.toNat : Nat) : Int), .int .u64 ((f.pSeq : Nat) : Int), .int .i64 f.pAbout, .slice z.u.A z.u.n z.u.c]) rfl rfl (loadR 27 (.tmp 15) rfl _ Tryd.underlying27 rfl w.heap.size 3 (by kernel_rfl) [.int .i64 f.pTo, .int .u8 ((f.pKind.toNat : Nat) : Int), .int .u64 ((f.pSeq : Nat) : Int), .int .i64 f.pAbout, .slice z.u.A z.u.n z.u.c] (by kernel_rfl) (show World.rangeAt _ _ (0 + 3) _ from segs_rng (frmL_sz hI.ok.sum hI.ok.key f.att.hk f.att.hr f.att.ht hI.ok.root) (range_row (Chg.hp ch4 (Chg.hp ch3 (Chg.hp ch2 hb1 trivial) trivial) ⟨by omega, trivial⟩)) 3 5 rfl rfl)) ?_
  refine rP 2 17 (pt W2.heap.size 3) ?_
  refine rY 3 rfl rfl (store_segs 27 (.tmp 17) (.tmp 16) rfl 3 (by kernel_rfl) [.int .i64 f.pTo, .int .u8 ((f.pKind.toNat : Nat) : Int), .int .u64 ((f.pSeq : Nat) : Int), .int .i64 f.pAbout, .slice z.u.A z.u.n z.u.c] (by kernel_rfl) (by kernel_rfl) (by intro v hv; simp only [List.mem_cons, List.not_mem_nil, or_false] at hv; rcases hv with h | h | h | h | h <;> (subst h; rfl)) 39 (frmL_sz rfl rfl rfl rfl rfl rfl) hb4 3 [[.int .i64 f.pTo], [.int .u8 ((f.pKind.toNat : Nat) : Int)], [.int .u64 ((f.pSeq : Nat) : Int)], [.int .i64 f.pAbout], [.slice z.u.A z.u.n z.u.c]] rfl rfl rfl (frmL f.kind f.frm f.dst f.pTo f.pKind f.pSeq f.pAbout z.u 0 sl0 z32 0 sl0 false z32 0 0 0 false z32 z32 0 z32 z32 0 sl0 sl0) rfl) ?_
  rintro W5 ⟨hb5, ch5⟩
  have zz5 := ch5.size
  refine rEnd 4 rfl (inN (nxt (wp_seq (reg ?_))))
  refine rQ 0 55 (.agg ((frmL f.kind f.frm f.dst f.pTo f.pKind f.pSeq f.pAbout z.u 0 sl0 z32 0 sl0 false z32 0 0 0 false z32 z32 0 z32 z32 0 sl0 sl0).flatten.toArray)) rfl rfl (Mur.loadArr 39 (.tmp 3) rfl _ Tryd.underlying39 rfl W2.heap.size (by kernel_rfl) (frmL f.kind f.frm f.dst f.pTo f.pKind f.pSeq f.pAbout z.u 0 sl0 z32 0 sl0 false z32 0 0 0 false z32 z32 0 z32 z32 0 sl0 sl0).flatten.toArray 213 (frmL_size (frmL_sz rfl rfl rfl rfl rfl rfl)) (by kernel_rfl) 39 (0, 0) hb5) ?_
  refine rY 1 rfl rfl (Mur.storeArr 39 (.tmp 2) (.tmp 55) rfl W1.heap.size (by kernel_rfl) (frmL f.kind f.frm f.dst f.pTo f.pKind f.pSeq f.pAbout z.u 0 sl0 z32 0 sl0 false z32 0 0 0 false z32 z32 0 z32 z32 0 sl0 sl0).flatten.toArray 213 (frmL_size (frmL_sz rfl rfl rfl rfl rfl rfl)) frmL_all (by kernel_rfl) (by kernel_rfl) 39 ((frmh 0 0 0).flatten.toArray) (Chg.hp ch5 (Chg.hp ch4 (Chg.hp ch3 hb2 trivial) ⟨by omega, trivial⟩) ⟨by omega, trivial⟩) (frmL_size (frmL_sz rfl rfl rfl rfl rfl rfl))) ?_
  rintro W6 ⟨hb6, ch6⟩
  have zz6 := ch6.size
  refine rEnd 2 rfl (nxt (wp_ret ?_))
  have hk_ : f.kind = 1 := UInt8.toNat_inj.1 (by have h_ : (1 : UInt8).toNat = 1 := rfl; omega)
  have kk1 : Chg [] w W1 := Chg.step ((Chg.refl _).more (by simp)) ch1 trivial
  have kk2 := Chg.step kk1 ch2 trivial
  have kk3 := Chg.step kk2 ch3 trivial
  have kk4 := Chg.step kk3 ch4 ⟨.inr (by omega), trivial⟩
  have kk5 := Chg.step kk4 ch5 ⟨.inr (by omega), trivial⟩
  have kk6 := Chg.step kk5 ch6 ⟨.inr (by omega), trivial⟩
  refine Wk.ret (.agg (frmL f.kind f.frm f.dst f.pTo f.pKind f.pSeq f.pAbout z.u 0 sl0 z32 0 sl0 false z32 0 0 0 false z32 z32 0 z32 z32 0 sl0 sl0).flatten.toArray) rfl (results_cell_row rfl _ _ W1.heap.size 39 (frmL f.kind f.frm f.dst f.pTo f.pKind f.pSeq f.pAbout z.u 0 sl0 z32 0 sl0 false z32 0 0 0 false z32 z32 0 z32 z32 0 sl0 sl0).flatten.toArray (0, 0) _ (by kernel_rfl) hb6 Tryd.underlying39 rfl (by rw [(frmL_size (frmL_sz rfl rfl rfl rfl rfl rfl))]; kernel_rfl)) ?_
  exact ⟨(by first | (rw [bareM_1 hk_, bareZ_1 hk_]; done) | (rw [bareM_1 hk_, bareZ_1 hk_]; rfl)), kk6⟩
 refine rQ 0 14 _ rfl rfl (qboolF (b := (((f.kind.toNat : Nat) : Int) == (1 : Int))) (beq_eq_false_iff_ne.2 (by first | exact hx1 | omega))) ?_
 refine rP 1 13 (.bool false) ?_
 refine rEnd 2 rfl (nxt (wp_cond_false (by kernel_rfl) (wp_seq (reg ?_))))
 by_cases hx2 : ((f.kind.toNat : Nat) : Int) = (2 : Int)
 ·refine rQ 0 19 _ rfl rfl (qboolT (b := (((f.kind.toNat : Nat) : Int) == (2 : Int))) (beq_iff_eq.2 (by first | exact hx2 | omega))) ?_
  refine rP 1 18 (.bool true) ?_
  refine rEnd 2 rfl (nxt (wp_cond_true (by kernel_rfl) (reg ?_)))
  refine rP 0 20 (pt w.heap.size 8) ?_
  refine rQ 1 21 (.agg ((Mur.msgC f.gos.kind z.p.A z.p.n z.p.c f.gos.sum f.gos.cnt z.i.A z.i.n z.i.c f.gos.ans).toArray)) rfl rfl (loadR 32 (.tmp 20) rfl _ Tryd.underlying32 rfl w.heap.size 8 (by kernel_rfl) (Mur.msgC f.gos.kind z.p.A z.p.n z.p.c f.gos.sum f.gos.cnt z.i.A z.i.n z.i.c f.gos.ans) (by rw [msgC_length hI.ok.sum]; kernel_rfl) (show World.rangeAt _ _ (0 + 8) _ from segs_rng (frmL_sz hI.ok.sum hI.ok.key f.att.hk f.att.hr f.att.ht hI.ok.root) (range_row (Chg.hp ch4 (Chg.hp ch3 (Chg.hp ch2 hb1 trivial) trivial) ⟨by omega, trivial⟩)) 8 6 rfl rfl)) ?_
  refine rP 2 22 (pt W2.heap.size 8) ?_
  refine rY 3 rfl rfl (store_segs 32 (.tmp 22) (.tmp 21) rfl 8 (by kernel_rfl) (Mur.msgC f.gos.kind z.p.A z.p.n z.p.c f.gos.sum f.gos.cnt z.i.A z.i.n z.i.c f.gos.ans) (by kernel_rfl) (by rw [msgC_length hI.ok.sum]; kernel_rfl) Mur.msgC_one 39 (frmL_sz rfl rfl rfl rfl rfl rfl) hb4 8 [[.int .u8 ((f.gos.kind.toNat : Nat) : Int)], [.slice z.p.A z.p.n z.p.c], b8s f.gos.sum, [.int .i64 f.gos.cnt], [.slice z.i.A z.i.n z.i.c], [.bool f.gos.ans]] rfl rfl (by rw [msgC_length hI.ok.sum]; rfl) (frmL f.kind f.frm f.dst 0 0 0 0 sl0 f.gos.kind z.p f.gos.sum f.gos.cnt z.i f.gos.ans z32 0 0 0 false z32 z32 0 z32 z32 0 sl0 sl0) rfl) ?_
  rintro W7 ⟨hb7, ch7⟩
  have zz7 := ch7.size
  refine rEnd 4 rfl (inN (nxt (wp_seq (reg ?_))))
  refine rQ 0 55 (.agg ((frmL f.kind f.frm f.dst 0 0 0 0 sl0 f.gos.kind z.p f.gos.sum f.gos.cnt z.i f.gos.ans z32 0 0 0 false z32 z32 0 z32 z32 0 sl0 sl0).flatten.toArray)) rfl rfl (Mur.loadArr 39 (.tmp 3) rfl _ Tryd.underlying39 rfl W2.heap.size (by kernel_rfl) (frmL f.kind f.frm f.dst 0 0 0 0 sl0 f.gos.kind z.p f.gos.sum f.gos.cnt z.i f.gos.ans z32 0 0 0 false z32 z32 0 z32 z32 0 sl0 sl0).flatten.toArray 213 (frmL_size (frmL_sz hI.ok.sum rfl rfl rfl rfl rfl)) (by kernel_rfl) 39 (0, 0) hb7) ?_
  refine rY 1 rfl rfl (Mur.storeArr 39 (.tmp 2) (.tmp 55) rfl W1.heap.size (by kernel_rfl) (frmL f.kind f.frm f.dst 0 0 0 0 sl0 f.gos.kind z.p f.gos.sum f.gos.cnt z.i f.gos.ans z32 0 0 0 false z32 z32 0 z32 z32 0 sl0 sl0).flatten.toArray 213 (frmL_size (frmL_sz hI.ok.sum rfl rfl rfl rfl rfl)) frmL_all (by kernel_rfl) (by kernel_rfl) 39 ((frmh 0 0 0).flatten.toArray) (Chg.hp ch7 (Chg.hp ch4 (Chg.hp ch3 hb2 trivial) ⟨by omega, trivial⟩) ⟨by omega, trivial⟩) (frmL_size (frmL_sz rfl rfl rfl rfl rfl rfl))) ?_
  rintro W8 ⟨hb8, ch8⟩
  have zz8 := ch8.size
  refine rEnd 2 rfl (nxt (wp_ret ?_))
  have hk_ : f.kind = 2 := UInt8.toNat_inj.1 (by have h_ : (2 : UInt8).toNat = 2 := rfl; omega)
  have kk7 : Chg [] w W1 := Chg.step ((Chg.refl _).more (by simp)) ch1 trivial
  have kk8 := Chg.step kk7 ch2 trivial
  have kk9 := Chg.step kk8 ch3 trivial
  have kk10 := Chg.step kk9 ch4 ⟨.inr (by omega), trivial⟩
  have kk11 := Chg.step kk10 ch7 ⟨.inr (by omega), trivial⟩
  have kk12 := Chg.step kk11 ch8 ⟨.inr (by omega), trivial⟩
  refine Wk.ret (.agg (frmL f.kind f.frm f.dst 0 0 0 0 sl0 f.gos.kind z.p f.gos.sum f.gos.cnt z.i f.gos.ans z32 0 0 0 false z32 z32 0 z32 z32 0 sl0 sl0).flatten.toArray) rfl (results_cell_row rfl _ _ W1.heap.size 39 (frmL f.kind f.frm f.dst 0 0 0 0 sl0 f.gos.kind z.p f.gos.sum f.gos.cnt z.i f.gos.ans z32 0 0 0 false z32 z32 0 z32 z32 0 sl0 sl0).flatten.toArray (0, 0) _ (by kernel_rfl) hb8 Tryd.underlying39 rfl (by rw [(frmL_size (frmL_sz hI.ok.sum rfl rfl rfl rfl rfl))]; kernel_rfl)) ?_
  exact ⟨(by first | (rw [bareM_2 hk_, bareZ_2 hk_]; done) | (rw [bareM_2 hk_, bareZ_2 hk_]; rfl)), kk12⟩
 refine rQ 0 19 _ rfl rfl (qboolF (b := (((f.kind.toNat : Nat) : Int) == (2 : Int))) (beq_eq_false_iff_ne.2 (by first | exact hx2 | omega))) ?_
 refine rP 1 18 (.bool false) ?_
 refine rEnd 2 rfl (nxt (wp_cond_false (by kernel_rfl) (wp_seq (reg ?_))))
 by_cases hx3 : ((f.kind.toNat : Nat) : Int) = (3 : Int)
 ·refine rQ 0 24 _ rfl rfl (qboolT (b := (((f.kind.toNat : Nat) : Int) == (3 : Int))) (beq_iff_eq.2 (by first | exact hx3 | omega))) ?_
  refine rP 1 23 (.bool true) ?_
  refine rEnd 2 rfl (nxt (wp_cond_true (by kernel_rfl) (reg ?_)))
  refine rP 0 25 (pt w.heap.size 45) ?_
  refine rQ 1 26 (.agg ((Mur.claimC f.cKey f.cNode f.cInc f.cCnt f.cGone).toArray)) rfl rfl (loadR 34 (.tmp 25) rfl _ Tryd.underlying34 rfl w.heap.size 45 (by kernel_rfl) (Mur.claimC f.cKey f.cNode f.cInc f.cCnt f.cGone) (by rw [claimC_length hI.ok.key]; kernel_rfl) (show World.rangeAt _ _ (0 + 45) _ from segs_rng (frmL_sz hI.ok.sum hI.ok.key f.att.hk f.att.hr f.att.ht hI.ok.root) (range_row (Chg.hp ch4 (Chg.hp ch3 (Chg.hp ch2 hb1 trivial) trivial) ⟨by omega, trivial⟩)) 14 5 rfl rfl)) ?_
  refine rP 2 27 (pt W2.heap.size 45) ?_
  refine rY 3 rfl rfl (store_segs 34 (.tmp 27) (.tmp 26) rfl 45 (by kernel_rfl) (Mur.claimC f.cKey f.cNode f.cInc f.cCnt f.cGone) (by kernel_rfl) (by rw [claimC_length hI.ok.key]; kernel_rfl) Mur.claimC_one 39 (frmL_sz rfl rfl rfl rfl rfl rfl) hb4 14 [b8s f.cKey, [.int .i64 f.cNode], [.int .u64 ((f.cInc : Nat) : Int)], [.int .u64 ((f.cCnt : Nat) : Int)], [.bool f.cGone]] rfl rfl (by rw [claimC_length hI.ok.key]; rfl) (frmL f.kind f.frm f.dst 0 0 0 0 sl0 0 sl0 z32 0 sl0 false f.cKey f.cNode f.cInc f.cCnt f.cGone z32 z32 0 z32 z32 0 sl0 sl0) rfl) ?_
  rintro W10 ⟨hb9, ch9⟩
  have zz9 := ch9.size
  refine rEnd 4 rfl (inN (nxt (wp_seq (reg ?_))))
  refine rQ 0 55 (.agg ((frmL f.kind f.frm f.dst 0 0 0 0 sl0 0 sl0 z32 0 sl0 false f.cKey f.cNode f.cInc f.cCnt f.cGone z32 z32 0 z32 z32 0 sl0 sl0).flatten.toArray)) rfl rfl (Mur.loadArr 39 (.tmp 3) rfl _ Tryd.underlying39 rfl W2.heap.size (by kernel_rfl) (frmL f.kind f.frm f.dst 0 0 0 0 sl0 0 sl0 z32 0 sl0 false f.cKey f.cNode f.cInc f.cCnt f.cGone z32 z32 0 z32 z32 0 sl0 sl0).flatten.toArray 213 (frmL_size (frmL_sz rfl hI.ok.key rfl rfl rfl rfl)) (by kernel_rfl) 39 (0, 0) hb9) ?_
  refine rY 1 rfl rfl (Mur.storeArr 39 (.tmp 2) (.tmp 55) rfl W1.heap.size (by kernel_rfl) (frmL f.kind f.frm f.dst 0 0 0 0 sl0 0 sl0 z32 0 sl0 false f.cKey f.cNode f.cInc f.cCnt f.cGone z32 z32 0 z32 z32 0 sl0 sl0).flatten.toArray 213 (frmL_size (frmL_sz rfl hI.ok.key rfl rfl rfl rfl)) frmL_all (by kernel_rfl) (by kernel_rfl) 39 ((frmh 0 0 0).flatten.toArray) (Chg.hp ch9 (Chg.hp ch4 (Chg.hp ch3 hb2 trivial) ⟨by omega, trivial⟩) ⟨by omega, trivial⟩) (frmL_size (frmL_sz rfl rfl rfl rfl rfl rfl))) ?_
  rintro W11 ⟨hb10, ch10⟩
  have zz10 := ch10.size
  refine rEnd 2 rfl (nxt (wp_ret ?_))
  have hk_ : f.kind = 3 := UInt8.toNat_inj.1 (by have h_ : (3 : UInt8).toNat = 3 := rfl; omega)
  have kk13 : Chg [] w W1 := Chg.step ((Chg.refl _).more (by simp)) ch1 trivial
  have kk14 := Chg.step kk13 ch2 trivial
  have kk15 := Chg.step kk14 ch3 trivial
  have kk16 := Chg.step kk15 ch4 ⟨.inr (by omega), trivial⟩
  have kk17 := Chg.step kk16 ch9 ⟨.inr (by omega), trivial⟩
  have kk18 := Chg.step kk17 ch10 ⟨.inr (by omega), trivial⟩
  refine Wk.ret (.agg (frmL f.kind f.frm f.dst 0 0 0 0 sl0 0 sl0 z32 0 sl0 false f.cKey f.cNode f.cInc f.cCnt f.cGone z32 z32 0 z32 z32 0 sl0 sl0).flatten.toArray) rfl (results_cell_row rfl _ _ W1.heap.size 39 (frmL f.kind f.frm f.dst 0 0 0 0 sl0 0 sl0 z32 0 sl0 false f.cKey f.cNode f.cInc f.cCnt f.cGone z32 z32 0 z32 z32 0 sl0 sl0).flatten.toArray (0, 0) _ (by kernel_rfl) hb10 Tryd.underlying39 rfl (by rw [(frmL_size (frmL_sz rfl hI.ok.key rfl rfl rfl rfl))]; kernel_rfl)) ?_
  exact ⟨(by first | (rw [bareM_3 hk_, bareZ_3 hk_]; done) | (rw [bareM_3 hk_, bareZ_3 hk_]; rfl)), kk18⟩
 refine rQ 0 24 _ rfl rfl (qboolF (b := (((f.kind.toNat : Nat) : Int) == (3 : Int))) (beq_eq_false_iff_ne.2 (by first | exact hx3 | omega))) ?_
 refine rP 1 23 (.bool false) ?_
 refine rEnd 2 rfl (nxt (wp_cond_false (by kernel_rfl) (wp_seq (reg ?_))))
 by_cases hx4 : ((f.kind.toNat : Nat) : Int) = (4 : Int)
 ·refine rQ 0 29 _ rfl rfl (qboolT (b := (((f.kind.toNat : Nat) : Int) == (4 : Int))) (beq_iff_eq.2 (by first | exact hx4 | omega))) ?_
  refine rP 1 28 (.bool true) ?_
  refine rEnd 2 rfl (nxt (wp_cond_true (by kernel_rfl) (reg ?_)))
  refine rP 0 30 (pt w.heap.size 81) ?_
  refine rQ 1 31 (.agg ((Mur.attC f.att.k f.att.r f.att.n f.att.t).toArray)) rfl rfl (loadR 36 (.tmp 30) rfl _ Tryd.underlying36 rfl w.heap.size 81 (by kernel_rfl) (Mur.attC f.att.k f.att.r f.att.n f.att.t) (by rw [attC_length f.att.hk f.att.hr f.att.ht]; kernel_rfl) (show World.rangeAt _ _ (0 + 81) _ from segs_rng (frmL_sz hI.ok.sum hI.ok.key f.att.hk f.att.hr f.att.ht hI.ok.root) (range_row (Chg.hp ch4 (Chg.hp ch3 (Chg.hp ch2 hb1 trivial) trivial) ⟨by omega, trivial⟩)) 19 4 frmL_att rfl)) ?_
  refine rP 2 32 (pt W2.heap.size 81) ?_
  refine rY 3 rfl rfl (store_segs 36 (.tmp 32) (.tmp 31) rfl 81 (by kernel_rfl) (Mur.attC f.att.k f.att.r f.att.n f.att.t) (by kernel_rfl) (by rw [attC_length f.att.hk f.att.hr f.att.ht]; kernel_rfl) Mur.attC_one 39 (frmL_sz rfl rfl rfl rfl rfl rfl) hb4 19 [b8s f.att.k, b8s f.att.r, [.int .i64 f.att.n], b8s f.att.t] (Mur.att_parts _ _ _ _) rfl (by rw [attC_length f.att.hk f.att.hr f.att.ht]; rfl) (frmL f.kind f.frm f.dst 0 0 0 0 sl0 0 sl0 z32 0 sl0 false z32 0 0 0 false f.att.k f.att.r f.att.n f.att.t z32 0 sl0 sl0) rfl) ?_
  rintro W12 ⟨hb11, ch11⟩
  have zz11 := ch11.size
  refine rEnd 4 rfl (inN (nxt (wp_seq (reg ?_))))
  refine rQ 0 55 (.agg ((frmL f.kind f.frm f.dst 0 0 0 0 sl0 0 sl0 z32 0 sl0 false z32 0 0 0 false f.att.k f.att.r f.att.n f.att.t z32 0 sl0 sl0).flatten.toArray)) rfl rfl (Mur.loadArr 39 (.tmp 3) rfl _ Tryd.underlying39 rfl W2.heap.size (by kernel_rfl) (frmL f.kind f.frm f.dst 0 0 0 0 sl0 0 sl0 z32 0 sl0 false z32 0 0 0 false f.att.k f.att.r f.att.n f.att.t z32 0 sl0 sl0).flatten.toArray 213 (frmL_size (frmL_sz rfl rfl f.att.hk f.att.hr f.att.ht rfl)) (by kernel_rfl) 39 (0, 0) hb11) ?_
  refine rY 1 rfl rfl (Mur.storeArr 39 (.tmp 2) (.tmp 55) rfl W1.heap.size (by kernel_rfl) (frmL f.kind f.frm f.dst 0 0 0 0 sl0 0 sl0 z32 0 sl0 false z32 0 0 0 false f.att.k f.att.r f.att.n f.att.t z32 0 sl0 sl0).flatten.toArray 213 (frmL_size (frmL_sz rfl rfl f.att.hk f.att.hr f.att.ht rfl)) frmL_all (by kernel_rfl) (by kernel_rfl) 39 ((frmh 0 0 0).flatten.toArray) (Chg.hp ch11 (Chg.hp ch4 (Chg.hp ch3 hb2 trivial) ⟨by omega, trivial⟩) ⟨by omega, trivial⟩) (frmL_size (frmL_sz rfl rfl rfl rfl rfl rfl))) ?_
  rintro W13 ⟨hb12, ch12⟩
  have zz12 := ch12.size
  refine rEnd 2 rfl (nxt (wp_ret ?_))
  have hk_ : f.kind = 4 := UInt8.toNat_inj.1 (by have h_ : (4 : UInt8).toNat = 4 := rfl; omega)
  have kk19 : Chg [] w W1 := Chg.step ((Chg.refl _).more (by simp)) ch1 trivial
  have kk20 := Chg.step kk19 ch2 trivial
  have kk21 := Chg.step kk20 ch3 trivial
  have kk22 := Chg.step kk21 ch4 ⟨.inr (by omega), trivial⟩
  have kk23 := Chg.step kk22 ch11 ⟨.inr (by omega), trivial⟩
  have kk24 := Chg.step kk23 ch12 ⟨.inr (by omega), trivial⟩
  refine Wk.ret (.agg (frmL f.kind f.frm f.dst 0 0 0 0 sl0 0 sl0 z32 0 sl0 false z32 0 0 0 false f.att.k f.att.r f.att.n f.att.t z32 0 sl0 sl0).flatten.toArray) rfl (results_cell_row rfl _ _ W1.heap.size 39 (frmL f.kind f.frm f.dst 0 0 0 0 sl0 0 sl0 z32 0 sl0 false z32 0 0 0 false f.att.k f.att.r f.att.n f.att.t z32 0 sl0 sl0).flatten.toArray (0, 0) _ (by kernel_rfl) hb12 Tryd.underlying39 rfl (by rw [(frmL_size (frmL_sz rfl rfl f.att.hk f.att.hr f.att.ht rfl))]; kernel_rfl)) ?_
  exact ⟨(by first | (rw [bareM_4 hk_, bareZ_4 hk_]; done) | (rw [bareM_4 hk_, bareZ_4 hk_]; rfl)), kk24⟩
 refine rQ 0 29 _ rfl rfl (qboolF (b := (((f.kind.toNat : Nat) : Int) == (4 : Int))) (beq_eq_false_iff_ne.2 (by first | exact hx4 | omega))) ?_
 refine rP 1 28 (.bool false) ?_
 refine rEnd 2 rfl (nxt (wp_cond_false (by kernel_rfl) (wp_seq (reg ?_))))
 by_cases hx5 : ((f.kind.toNat : Nat) : Int) = (5 : Int)
 ·refine rQ 0 34 _ rfl rfl (qboolT (b := (((f.kind.toNat : Nat) : Int) == (5 : Int))) (beq_iff_eq.2 (by first | exact hx5 | omega))) ?_
  refine rP 1 33 (.bool true) ?_
  refine rEnd 2 rfl (nxt (wp_cond_true (by kernel_rfl) ?_))
  refine dReg ([W2.heap.size]) (by kernel_rfl) ?_
  intro W14 ch13 sz4
  have zz13 := ch13.size
  have sS1 : Chg ([W2.heap.size]) W14 W14 := (Chg.refl _).more (by simp)
  refine dW 0 35 (pt w.heap.size 178) sS1 ?_
  refine dV 1 36 (.agg ((b8s f.root).toArray)) rfl rfl (fun w' hw' => (loadR 29 (.tmp 35) rfl _ Tryd.underlying29 rfl w.heap.size 178 (by kernel_rfl) (b8s f.root) (by rw [b8s_length, hI.ok.root]; kernel_rfl) (show World.rangeAt _ _ (0 + 178) _ from segs_row (frmL_sz hI.ok.sum hI.ok.key f.att.hk f.att.hr f.att.ht hI.ok.root) (range_row (Chg.hp hw' (Chg.hp ch13 (Chg.hp ch4 (Chg.hp ch3 (Chg.hp ch2 hb1 trivial) trivial) ⟨by omega, trivial⟩) trivial) ⟨by omega, trivial⟩)) 23 rfl rfl))) sS1 ?_
  refine dW 2 37 (pt w.heap.size 210) sS1 ?_
  refine dV 3 38 (.int .i64 f.chunk) rfl rfl (fun w' hw' => (ld 3 37 w.heap.size 210 (.int .i64 f.chunk) (show World.cell? _ ⟨_, 0 + 210, _⟩ = _ from segs_cell (frmL_sz hI.ok.sum hI.ok.key f.att.hk f.att.hr f.att.ht hI.ok.root) (range_row (Chg.hp hw' (Chg.hp ch13 (Chg.hp ch4 (Chg.hp ch3 (Chg.hp ch2 hb1 trivial) trivial) ⟨by omega, trivial⟩) trivial) ⟨by omega, trivial⟩)) 24 rfl rfl))) sS1 ?_
  refine dW 4 39 (pt W2.heap.size 178) sS1 ?_
  refine dOp 5 (by kernel_rfl) ?_
  refine oExS none _ rfl rfl (by kernel_rfl) (store_segs 29 (.tmp 39) (.tmp 36) rfl 178 (by kernel_rfl) (b8s f.root) (by kernel_rfl) (by rw [b8s_length, hI.ok.root]; kernel_rfl) (b8s_one f.root) 39 (frmL_sz rfl rfl rfl rfl rfl rfl) (Chg.hp ch13 hb4 trivial) 23 [b8s f.root] (by simp) rfl (by rw [b8s_length, hI.ok.root]; rfl) (frmL f.kind f.frm f.dst 0 0 0 0 sl0 0 sl0 z32 0 sl0 false z32 0 0 0 false z32 z32 0 z32 f.root 0 sl0 sl0) rfl) ?_
  rintro W15 ⟨hb13, ch14⟩
  have zz14 := ch14.size
  have sS2 := Chg.step sS1 ch14 ⟨.inl (by simp), trivial⟩
  refine ⟨sS2, ?_⟩
  refine dW 6 40 (pt W2.heap.size 210) sS2 ?_
  refine dOp 7 (by kernel_rfl) ?_
  refine oExS none _ rfl rfl (by kernel_rfl) (store_seg1 3 (.tmp 40) (.tmp 38) rfl (by kernel_rfl) 210 (by kernel_rfl) (.int .i64 f.chunk) (by kernel_rfl) rfl 39 (frmL_sz rfl rfl rfl rfl rfl hI.ok.root) hb13 24 rfl rfl (frmL f.kind f.frm f.dst 0 0 0 0 sl0 0 sl0 z32 0 sl0 false z32 0 0 0 false z32 z32 0 z32 f.root f.chunk sl0 sl0) rfl) ?_
  rintro W16 ⟨hb14, ch15⟩
  have zz15 := ch15.size
  have sS3 := Chg.step sS2 ch15 ⟨.inl (by simp), trivial⟩
  refine ⟨sS3, ?_⟩
  refine dEnd (by kernel_rfl) (inN (nxt (wp_seq (reg ?_))))
  refine rQ 0 55 (.agg ((frmL f.kind f.frm f.dst 0 0 0 0 sl0 0 sl0 z32 0 sl0 false z32 0 0 0 false z32 z32 0 z32 f.root f.chunk sl0 sl0).flatten.toArray)) rfl rfl (Mur.loadArr 39 (.tmp 3) rfl _ Tryd.underlying39 rfl W2.heap.size (by kernel_rfl) (frmL f.kind f.frm f.dst 0 0 0 0 sl0 0 sl0 z32 0 sl0 false z32 0 0 0 false z32 z32 0 z32 f.root f.chunk sl0 sl0).flatten.toArray 213 (frmL_size (frmL_sz rfl rfl rfl rfl rfl hI.ok.root)) (by kernel_rfl) 39 (0, 0) hb14) ?_
  refine rY 1 rfl rfl (Mur.storeArr 39 (.tmp 2) (.tmp 55) rfl W1.heap.size (by kernel_rfl) (frmL f.kind f.frm f.dst 0 0 0 0 sl0 0 sl0 z32 0 sl0 false z32 0 0 0 false z32 z32 0 z32 f.root f.chunk sl0 sl0).flatten.toArray 213 (frmL_size (frmL_sz rfl rfl rfl rfl rfl hI.ok.root)) frmL_all (by kernel_rfl) (by kernel_rfl) 39 ((frmh 0 0 0).flatten.toArray) (Chg.hp ch15 (Chg.hp ch14 (Chg.hp ch13 (Chg.hp ch4 (Chg.hp ch3 hb2 trivial) ⟨by omega, trivial⟩) trivial) ⟨by omega, trivial⟩) ⟨by omega, trivial⟩) (frmL_size (frmL_sz rfl rfl rfl rfl rfl rfl))) ?_
  rintro W17 ⟨hb15, ch16⟩
  have zz16 := ch16.size
  refine rEnd 2 rfl (nxt (wp_ret ?_))
  have hk_ : f.kind = 5 := UInt8.toNat_inj.1 (by have h_ : (5 : UInt8).toNat = 5 := rfl; omega)
  have kk25 : Chg [] w W1 := Chg.step ((Chg.refl _).more (by simp)) ch1 trivial
  have kk26 := Chg.step kk25 ch2 trivial
  have kk27 := Chg.step kk26 ch3 trivial
  have kk28 := Chg.step kk27 ch4 ⟨.inr (by omega), trivial⟩
  have kk29 := Chg.step kk28 ch13 trivial
  have kk30 := Chg.step kk29 ch14 ⟨.inr (by omega), trivial⟩
  have kk31 := Chg.step kk30 ch15 ⟨.inr (by omega), trivial⟩
  have kk32 := Chg.step kk31 ch16 ⟨.inr (by omega), trivial⟩
  refine Wk.ret (.agg (frmL f.kind f.frm f.dst 0 0 0 0 sl0 0 sl0 z32 0 sl0 false z32 0 0 0 false z32 z32 0 z32 f.root f.chunk sl0 sl0).flatten.toArray) rfl (results_cell_row rfl _ _ W1.heap.size 39 (frmL f.kind f.frm f.dst 0 0 0 0 sl0 0 sl0 z32 0 sl0 false z32 0 0 0 false z32 z32 0 z32 f.root f.chunk sl0 sl0).flatten.toArray (0, 0) _ (by kernel_rfl) hb15 Tryd.underlying39 rfl (by rw [(frmL_size (frmL_sz rfl rfl rfl rfl rfl hI.ok.root))]; kernel_rfl)) ?_
  exact ⟨(by first | (rw [bareM_5 hk_, bareZ_5 hk_]; done) | (rw [bareM_5 hk_, bareZ_5 hk_]; rfl)), kk32⟩
 refine rQ 0 34 _ rfl rfl (qboolF (b := (((f.kind.toNat : Nat) : Int) == (5 : Int))) (beq_eq_false_iff_ne.2 (by first | exact hx5 | omega))) ?_
 refine rP 1 33 (.bool false) ?_
 refine rEnd 2 rfl (nxt (wp_cond_false (by kernel_rfl) (wp_seq (reg ?_))))
 by_cases hx6 : ((f.kind.toNat : Nat) : Int) = (6 : Int)
 ·refine rQ 0 42 _ rfl rfl (qboolT (b := (((f.kind.toNat : Nat) : Int) == (6 : Int))) (beq_iff_eq.2 (by first | exact hx6 | omega))) ?_
  refine rP 1 41 (.bool true) ?_
  refine rEnd 2 rfl (nxt (wp_cond_true (by kernel_rfl) ?_))
  refine dReg ([W2.heap.size]) (by kernel_rfl) ?_
  intro W18 ch17 sz5
  have zz17 := ch17.size
  have sS4 : Chg ([W2.heap.size]) W18 W18 := (Chg.refl _).more (by simp)
  refine dW 0 43 (pt w.heap.size 178) sS4 ?_
  refine dV 1 44 (.agg ((b8s f.root).toArray)) rfl rfl (fun w' hw' => (loadR 29 (.tmp 43) rfl _ Tryd.underlying29 rfl w.heap.size 178 (by kernel_rfl) (b8s f.root) (by rw [b8s_length, hI.ok.root]; kernel_rfl) (show World.rangeAt _ _ (0 + 178) _ from segs_row (frmL_sz hI.ok.sum hI.ok.key f.att.hk f.att.hr f.att.ht hI.ok.root) (range_row (Chg.hp hw' (Chg.hp ch17 (Chg.hp ch4 (Chg.hp ch3 (Chg.hp ch2 hb1 trivial) trivial) ⟨by omega, trivial⟩) trivial) ⟨by omega, trivial⟩)) 23 rfl rfl))) sS4 ?_
  refine dW 2 45 (pt w.heap.size 210) sS4 ?_
  refine dV 3 46 (.int .i64 f.chunk) rfl rfl (fun w' hw' => (ld 3 45 w.heap.size 210 (.int .i64 f.chunk) (show World.cell? _ ⟨_, 0 + 210, _⟩ = _ from segs_cell (frmL_sz hI.ok.sum hI.ok.key f.att.hk f.att.hr f.att.ht hI.ok.root) (range_row (Chg.hp hw' (Chg.hp ch17 (Chg.hp ch4 (Chg.hp ch3 (Chg.hp ch2 hb1 trivial) trivial) ⟨by omega, trivial⟩) trivial) ⟨by omega, trivial⟩)) 24 rfl rfl))) sS4 ?_
  refine dW 4 47 (pt w.heap.size 211) sS4 ?_
  refine dV 5 48 (.slice z.y.A z.y.n z.y.c) rfl rfl (fun w' hw' => (ld 22 47 w.heap.size 211 (.slice z.y.A z.y.n z.y.c) (show World.cell? _ ⟨_, 0 + 211, _⟩ = _ from segs_cell (frmL_sz hI.ok.sum hI.ok.key f.att.hk f.att.hr f.att.ht hI.ok.root) (range_row (Chg.hp hw' (Chg.hp ch17 (Chg.hp ch4 (Chg.hp ch3 (Chg.hp ch2 hb1 trivial) trivial) ⟨by omega, trivial⟩) trivial) ⟨by omega, trivial⟩)) 25 rfl rfl))) sS4 ?_
  refine dW 6 49 (pt w.heap.size 212) sS4 ?_
  refine dV 7 50 (.slice z.f.A z.f.n z.f.c) rfl rfl (fun w' hw' => (ld 37 49 w.heap.size 212 (.slice z.f.A z.f.n z.f.c) (show World.cell? _ ⟨_, 0 + 212, _⟩ = _ from segs_cell (frmL_sz hI.ok.sum hI.ok.key f.att.hk f.att.hr f.att.ht hI.ok.root) (range_row (Chg.hp hw' (Chg.hp ch17 (Chg.hp ch4 (Chg.hp ch3 (Chg.hp ch2 hb1 trivial) trivial) ⟨by omega, trivial⟩) trivial) ⟨by omega, trivial⟩)) 26 rfl rfl))) sS4 ?_
  refine dW 8 51 (pt W2.heap.size 178) sS4 ?_
  refine dOp 9 (by kernel_rfl) ?_
  refine oExS none _ rfl rfl (by kernel_rfl) (store_segs 29 (.tmp 51) (.tmp 44) rfl 178 (by kernel_rfl) (b8s f.root) (by kernel_rfl) (by rw [b8s_length, hI.ok.root]; kernel_rfl) (b8s_one f.root) 39 (frmL_sz rfl rfl rfl rfl rfl rfl) (Chg.hp ch17 hb4 trivial) 23 [b8s f.root] (by simp) rfl (by rw [b8s_length, hI.ok.root]; rfl) (frmL f.kind f.frm f.dst 0 0 0 0 sl0 0 sl0 z32 0 sl0 false z32 0 0 0 false z32 z32 0 z32 f.root 0 sl0 sl0) rfl) ?_
  rintro W19 ⟨hb16, ch18⟩
  have zz18 := ch18.size
  have sS5 := Chg.step sS4 ch18 ⟨.inl (by simp), trivial⟩
  refine ⟨sS5, ?_⟩
  refine dW 10 52 (pt W2.heap.size 210) sS5 ?_
  refine dOp 11 (by kernel_rfl) ?_
  refine oExS none _ rfl rfl (by kernel_rfl) (store_seg1 3 (.tmp 52) (.tmp 46) rfl (by kernel_rfl) 210 (by kernel_rfl) (.int .i64 f.chunk) (by kernel_rfl) rfl 39 (frmL_sz rfl rfl rfl rfl rfl hI.ok.root) hb16 24 rfl rfl (frmL f.kind f.frm f.dst 0 0 0 0 sl0 0 sl0 z32 0 sl0 false z32 0 0 0 false z32 z32 0 z32 f.root f.chunk sl0 sl0) rfl) ?_
  rintro W20 ⟨hb17, ch19⟩
  have zz19 := ch19.size
  have sS6 := Chg.step sS5 ch19 ⟨.inl (by simp), trivial⟩
  refine ⟨sS6, ?_⟩
  refine dW 12 53 (pt W2.heap.size 211) sS6 ?_
  refine dOp 13 (by kernel_rfl) ?_
  refine oExS none _ rfl rfl (by kernel_rfl) (store_seg1 22 (.tmp 53) (.tmp 48) rfl (by kernel_rfl) 211 (by kernel_rfl) (.slice z.y.A z.y.n z.y.c) (by kernel_rfl) rfl 39 (frmL_sz rfl rfl rfl rfl rfl hI.ok.root) hb17 25 rfl rfl (frmL f.kind f.frm f.dst 0 0 0 0 sl0 0 sl0 z32 0 sl0 false z32 0 0 0 false z32 z32 0 z32 f.root f.chunk z.y sl0) rfl) ?_
  rintro W21 ⟨hb18, ch20⟩
  have zz20 := ch20.size
  have sS7 := Chg.step sS6 ch20 ⟨.inl (by simp), trivial⟩
  refine ⟨sS7, ?_⟩
  refine dW 14 54 (pt W2.heap.size 212) sS7 ?_
  refine dOp 15 (by kernel_rfl) ?_
  refine oExS none _ rfl rfl (by kernel_rfl) (store_seg1 37 (.tmp 54) (.tmp 50) rfl (by kernel_rfl) 212 (by kernel_rfl) (.slice z.f.A z.f.n z.f.c) (by kernel_rfl) rfl 39 (frmL_sz rfl rfl rfl rfl rfl hI.ok.root) hb18 26 rfl rfl (frmL f.kind f.frm f.dst 0 0 0 0 sl0 0 sl0 z32 0 sl0 false z32 0 0 0 false z32 z32 0 z32 f.root f.chunk z.y z.f) rfl) ?_
  rintro W22 ⟨hb19, ch21⟩
  have zz21 := ch21.size
  have sS8 := Chg.step sS7 ch21 ⟨.inl (by simp), trivial⟩
  refine ⟨sS8, ?_⟩
  refine dEnd (by kernel_rfl) (inN (nxt (wp_seq (reg ?_))))
  refine rQ 0 55 (.agg ((frmL f.kind f.frm f.dst 0 0 0 0 sl0 0 sl0 z32 0 sl0 false z32 0 0 0 false z32 z32 0 z32 f.root f.chunk z.y z.f).flatten.toArray)) rfl rfl (Mur.loadArr 39 (.tmp 3) rfl _ Tryd.underlying39 rfl W2.heap.size (by kernel_rfl) (frmL f.kind f.frm f.dst 0 0 0 0 sl0 0 sl0 z32 0 sl0 false z32 0 0 0 false z32 z32 0 z32 f.root f.chunk z.y z.f).flatten.toArray 213 (frmL_size (frmL_sz rfl rfl rfl rfl rfl hI.ok.root)) (by kernel_rfl) 39 (0, 0) hb19) ?_
  refine rY 1 rfl rfl (Mur.storeArr 39 (.tmp 2) (.tmp 55) rfl W1.heap.size (by kernel_rfl) (frmL f.kind f.frm f.dst 0 0 0 0 sl0 0 sl0 z32 0 sl0 false z32 0 0 0 false z32 z32 0 z32 f.root f.chunk z.y z.f).flatten.toArray 213 (frmL_size (frmL_sz rfl rfl rfl rfl rfl hI.ok.root)) frmL_all (by kernel_rfl) (by kernel_rfl) 39 ((frmh 0 0 0).flatten.toArray) (Chg.hp ch21 (Chg.hp ch20 (Chg.hp ch19 (Chg.hp ch18 (Chg.hp ch17 (Chg.hp ch4 (Chg.hp ch3 hb2 trivial) ⟨by omega, trivial⟩) trivial) ⟨by omega, trivial⟩) ⟨by omega, trivial⟩) ⟨by omega, trivial⟩) ⟨by omega, trivial⟩) (frmL_size (frmL_sz rfl rfl rfl rfl rfl rfl))) ?_
  rintro W23 ⟨hb20, ch22⟩
  have zz22 := ch22.size
  refine rEnd 2 rfl (nxt (wp_ret ?_))
  have hk_ : f.kind = 6 := UInt8.toNat_inj.1 (by have h_ : (6 : UInt8).toNat = 6 := rfl; omega)
  have kk33 : Chg [] w W1 := Chg.step ((Chg.refl _).more (by simp)) ch1 trivial
  have kk34 := Chg.step kk33 ch2 trivial
  have kk35 := Chg.step kk34 ch3 trivial
  have kk36 := Chg.step kk35 ch4 ⟨.inr (by omega), trivial⟩
  have kk37 := Chg.step kk36 ch17 trivial
  have kk38 := Chg.step kk37 ch18 ⟨.inr (by omega), trivial⟩
  have kk39 := Chg.step kk38 ch19 ⟨.inr (by omega), trivial⟩
  have kk40 := Chg.step kk39 ch20 ⟨.inr (by omega), trivial⟩
  have kk41 := Chg.step kk40 ch21 ⟨.inr (by omega), trivial⟩
  have kk42 := Chg.step kk41 ch22 ⟨.inr (by omega), trivial⟩
  refine Wk.ret (.agg (frmL f.kind f.frm f.dst 0 0 0 0 sl0 0 sl0 z32 0 sl0 false z32 0 0 0 false z32 z32 0 z32 f.root f.chunk z.y z.f).flatten.toArray) rfl (results_cell_row rfl _ _ W1.heap.size 39 (frmL f.kind f.frm f.dst 0 0 0 0 sl0 0 sl0 z32 0 sl0 false z32 0 0 0 false z32 z32 0 z32 f.root f.chunk z.y z.f).flatten.toArray (0, 0) _ (by kernel_rfl) hb20 Tryd.underlying39 rfl (by rw [(frmL_size (frmL_sz rfl rfl rfl rfl rfl hI.ok.root))]; kernel_rfl)) ?_
  exact ⟨(by first | (rw [bareM_6 hk_, bareZ_6 hk_]; done) | (rw [bareM_6 hk_, bareZ_6 hk_]; rfl)), kk42⟩
 refine rQ 0 42 _ rfl rfl (qboolF (b := (((f.kind.toNat : Nat) : Int) == (6 : Int))) (beq_eq_false_iff_ne.2 (by first | exact hx6 | omega))) ?_
 refine rP 1 41 (.bool false) ?_
 refine rEnd 2 rfl (nxt (wp_cond_false (by kernel_rfl) (wp_skip (inN (nxt (wp_seq (reg ?_)))))))
 refine rQ 0 55 (.agg ((frmh f.kind f.frm f.dst).flatten.toArray)) rfl rfl (Mur.loadArr 39 (.tmp 3) rfl _ Tryd.underlying39 rfl W2.heap.size (by kernel_rfl) (frmh f.kind f.frm f.dst).flatten.toArray 213 (frmL_size (frmL_sz rfl rfl rfl rfl rfl rfl)) (by kernel_rfl) 39 (0, 0) hb4) ?_
 refine rY 1 rfl rfl (Mur.storeArr 39 (.tmp 2) (.tmp 55) rfl W1.heap.size (by kernel_rfl) (frmh f.kind f.frm f.dst).flatten.toArray 213 (frmL_size (frmL_sz rfl rfl rfl rfl rfl rfl)) frmL_all (by kernel_rfl) (by kernel_rfl) 39 ((frmh 0 0 0).flatten.toArray) (Chg.hp ch4 (Chg.hp ch3 hb2 trivial) ⟨by omega, trivial⟩) (frmL_size (frmL_sz rfl rfl rfl rfl rfl rfl))) ?_
 rintro W24 ⟨hb21, ch23⟩
 have zz23 := ch23.size
 refine rEnd 2 rfl (nxt (wp_ret ?_))
 have kk43 : Chg [] w W1 := Chg.step ((Chg.refl _).more (by simp)) ch1 trivial
 have kk44 := Chg.step kk43 ch2 trivial
 have kk45 := Chg.step kk44 ch3 trivial
 have kk46 := Chg.step kk45 ch4 ⟨.inr (by omega), trivial⟩
 have kk47 := Chg.step kk46 ch23 ⟨.inr (by omega), trivial⟩
 refine Wk.ret (.agg (frmh f.kind f.frm f.dst).flatten.toArray) rfl (results_cell_row rfl _ _ W1.heap.size 39 (frmh f.kind f.frm f.dst).flatten.toArray (0, 0) _ (by kernel_rfl) hb21 Tryd.underlying39 rfl (by rw [(frmL_size (frmL_sz rfl rfl rfl rfl rfl rfl))]; kernel_rfl)) ?_
 exact ⟨(by first | (rw [bareM_0 (fun e_ => by have h_ : f.kind.toNat = 1 := congrArg UInt8.toNat e_; omega) (fun e_ => by have h_ : f.kind.toNat = 2 := congrArg UInt8.toNat e_; omega) (fun e_ => by have h_ : f.kind.toNat = 3 := congrArg UInt8.toNat e_; omega) (fun e_ => by have h_ : f.kind.toNat = 4 := congrArg UInt8.toNat e_; omega) (fun e_ => by have h_ : f.kind.toNat = 5 := congrArg UInt8.toNat e_; omega) (fun e_ => by have h_ : f.kind.toNat = 6 := congrArg UInt8.toNat e_; omega), bareZ_0 (fun e_ => by have h_ : f.kind.toNat = 1 := congrArg UInt8.toNat e_; omega) (fun e_ => by have h_ : f.kind.toNat = 2 := congrArg UInt8.toNat e_; omega) (fun e_ => by have h_ : f.kind.toNat = 6 := congrArg UInt8.toNat e_; omega)]; done) | (rw [bareM_0 (fun e_ => by have h_ : f.kind.toNat = 1 := congrArg UInt8.toNat e_; omega) (fun e_ => by have h_ : f.kind.toNat = 2 := congrArg UInt8.toNat e_; omega) (fun e_ => by have h_ : f.kind.toNat = 3 := congrArg UInt8.toNat e_; omega) (fun e_ => by have h_ : f.kind.toNat = 4 := congrArg UInt8.toNat e_; omega) (fun e_ => by have h_ : f.kind.toNat = 5 := congrArg UInt8.toNat e_; omega) (fun e_ => by have h_ : f.kind.toNat = 6 := congrArg UInt8.toNat e_; omega), bareZ_0 (fun e_ => by have h_ : f.kind.toNat = 1 := congrArg UInt8.toNat e_; omega) (fun e_ => by have h_ : f.kind.toNat = 2 := congrArg UInt8.toNat e_; omega) (fun e_ => by have h_ : f.kind.toNat = 6 := congrArg UInt8.toNat e_; omega)]; rfl)), kk47⟩
theorem Same_any (f : Frm) (z : Zs) (g : Frm) (y : Zs) (w : World) (hL : LiesF w z f) (hI : FrmIn f) (hM : LiesF w y g) (hJ : FrmIn g) : Calls Tryd.prog 10 #[.agg (frmP f z).flatten.toArray, .agg (frmP g y).flatten.toArray] w fun e w' => ∃ v, e = .returned (.bool v) ∧ (v = true ↔ f = g) ∧ Chg [] w w' := by
 have hLin_ : z.In fun g => g < w.heap.size → Wk.Off g [] := ⟨fun _ _ _ _ => trivial, fun _ _ _ _ => trivial, fun _ _ _ _ => trivial, fun _ _ _ _ => trivial, fun _ _ _ _ => trivial⟩
 have hLunc_ := hL.nu.nc
 have hLucm_ := hL.nu.cm
 have hLpnc_ := hL.np.nc
 have hLpcm_ := hL.np.cm
 have hLinc_ := hL.ni.nc
 have hLicm_ := hL.ni.cm
 have hLync_ := hL.ny.nc
 have hLycm_ := hL.ny.cm
 have hLfnc_ := hL.nf.nc
 have hLfcm_ := hL.nf.cm
 have hMin_ : y.In fun g => g < w.heap.size → Wk.Off g [] := ⟨fun _ _ _ _ => trivial, fun _ _ _ _ => trivial, fun _ _ _ _ => trivial, fun _ _ _ _ => trivial, fun _ _ _ _ => trivial⟩
 have hMunc_ := hM.nu.nc
 have hMucm_ := hM.nu.cm
 have hMpnc_ := hM.np.nc
 have hMpcm_ := hM.np.cm
 have hMinc_ := hM.ni.nc
 have hMicm_ := hM.ni.cm
 have hMync_ := hM.ny.nc
 have hMycm_ := hM.ny.cm
 have hMfnc_ := hM.nf.nc
 have hMfcm_ := hM.nf.cm
 refine calls_of_wp Tryd.func10 rfl ?_
 refine wp_seq (reg ?_)
 refine rX 0 2 rfl rfl (new_ex (pt w.heap.size 0) ((frmP f z).flatten.toArray) 39 (by kernel_rfl)) ?_
 rintro _ W1 ⟨rfl, hb1, ch1, sz1⟩
 have zz1 := ch1.size
 refine rX 1 3 rfl rfl (new_ex (pt W1.heap.size 0) ((frmP g y).flatten.toArray) 39 (by kernel_rfl)) ?_
 rintro _ W2 ⟨rfl, hb2, ch2, sz2⟩
 have zz2 := ch2.size
 refine rP 2 4 (.bool false) ?_
 refine rEnd 3 rfl (nxt (wp_seq ?_))
 refine Wk.cut (fun a wj => ∃ (q5 : Nat) (q6 : Nat), a = SameF_J1_1 a.tmps (pt w.heap.size 0) (pt W1.heap.size 0) (pt q5 0) (pt q6 0) ∧ Chg [] W2 wj ∧ wj.heap[q5]? = some (.cells #[.int .i64 f.pTo, .int .u8 ((f.pKind.toNat : Nat) : Int), .int .u64 ((f.pSeq : Nat) : Int), .int .i64 f.pAbout, .slice z.u.A z.u.n z.u.c] 27 (0, 0)) ∧ wj.heap[q6]? = some (.cells #[.int .i64 g.pTo, .int .u8 ((g.pKind.toNat : Nat) : Int), .int .u64 ((g.pSeq : Nat) : Int), .int .i64 g.pAbout, .slice y.u.A y.u.n y.u.c] 27 (0, 0))) ?_ ?_
 ·refine dReg ([]) (by kernel_rfl) ?_
  intro W3 ch3 sz3
  have zz3 := ch3.size
  have sS1 : Chg ([]) W3 W3 := (Chg.refl _).more (by simp)
  refine dW 0 9 (pt w.heap.size 3) sS1 ?_
  refine dV 1 10 (.agg #[.int .i64 f.pTo, .int .u8 ((f.pKind.toNat : Nat) : Int), .int .u64 ((f.pSeq : Nat) : Int), .int .i64 f.pAbout, .slice z.u.A z.u.n z.u.c]) rfl rfl (fun w' hw' => (loadR 27 (.tmp 9) rfl _ Tryd.underlying27 rfl w.heap.size 3 (by kernel_rfl) [.int .i64 f.pTo, .int .u8 ((f.pKind.toNat : Nat) : Int), .int .u64 ((f.pSeq : Nat) : Int), .int .i64 f.pAbout, .slice z.u.A z.u.n z.u.c] (by kernel_rfl) (show World.rangeAt _ _ (0 + 3) _ from segs_rng (frmL_sz hI.ok.sum hI.ok.key f.att.hk f.att.hr f.att.ht hI.ok.root) (range_row (Chg.hp hw' (Chg.hp ch3 (Chg.hp ch2 hb1 trivial) trivial) trivial)) 3 5 rfl rfl))) sS1 ?_
  refine dW 2 11 (pt W1.heap.size 3) sS1 ?_
  refine dV 3 12 (.agg #[.int .i64 g.pTo, .int .u8 ((g.pKind.toNat : Nat) : Int), .int .u64 ((g.pSeq : Nat) : Int), .int .i64 g.pAbout, .slice y.u.A y.u.n y.u.c]) rfl rfl (fun w' hw' => (loadR 27 (.tmp 11) rfl _ Tryd.underlying27 rfl W1.heap.size 3 (by kernel_rfl) [.int .i64 g.pTo, .int .u8 ((g.pKind.toNat : Nat) : Int), .int .u64 ((g.pSeq : Nat) : Int), .int .i64 g.pAbout, .slice y.u.A y.u.n y.u.c] (by kernel_rfl) (show World.rangeAt _ _ (0 + 3) _ from segs_rng (frmL_sz hJ.ok.sum hJ.ok.key g.att.hk g.att.hr g.att.ht hJ.ok.root) (range_row (Chg.hp hw' (Chg.hp ch3 hb2 trivial) trivial)) 3 5 rfl rfl))) sS1 ?_
  refine dOp2 4 5 (by kernel_rfl) ?_ ?_
  ·refine oEx (some 5) _ rfl rfl (by kernel_rfl) (new_ex (pt W3.heap.size 0) #[.int .i64 0, .int .u8 0, .int .u64 0, .int .i64 0, .slice none 0 0] 27 (by kernel_rfl)) ?_
   rintro _ W4 ⟨rfl, hb3, ch4, sz4⟩
   have zz4 := ch4.size
   have sS2 := Chg.step sS1 ch4 trivial
   refine ⟨sS2, ?_⟩
   refine dOp 5 (by kernel_rfl) ?_
   refine oEx (some 6) _ rfl rfl (by kernel_rfl) (new_ex (pt W4.heap.size 0) #[.int .i64 0, .int .u8 0, .int .u64 0, .int .i64 0, .slice none 0 0] 27 (by kernel_rfl)) ?_
   rintro _ W5 ⟨rfl, hb4, ch5, sz5⟩
   have zz5 := ch5.size
   have sS3 := Chg.step sS2 ch5 trivial
   refine ⟨sS3, ?_⟩
   refine dOp 6 (by kernel_rfl) ?_
   refine oExS none _ rfl rfl (by kernel_rfl) (Wk.storeR 27 (.tmp 5) (.tmp 10) rfl W3.heap.size 0 (by kernel_rfl) ([.int .i64 f.pTo, .int .u8 ((f.pKind.toNat : Nat) : Int), .int .u64 ((f.pSeq : Nat) : Int), .int .i64 f.pAbout, .slice z.u.A z.u.n z.u.c]) (by kernel_rfl) (by kernel_rfl) (by intro v hv; simp at hv; rcases hv with h | h | h | h | h <;> (subst h; rfl)) 27 ([.int .i64 0, .int .u8 0, .int .u64 0, .int .i64 0, .slice none 0 0]) (Chg.hp ch5 hb3 trivial) (by simp)) ?_
   rintro W6 ⟨hb5, ch6⟩
   replace hb5 : W6.heap[W3.heap.size]? = some (.cells #[.int .i64 f.pTo, .int .u8 ((f.pKind.toNat : Nat) : Int), .int .u64 ((f.pSeq : Nat) : Int), .int .i64 f.pAbout, .slice z.u.A z.u.n z.u.c] 27 (0, 0)) := hb5
   have zz6 := ch6.size
   have sS4 := Chg.step sS3 ch6 ⟨.inr (by omega), trivial⟩
   refine ⟨sS4, ?_⟩
   refine dOp 7 (by kernel_rfl) ?_
   refine oExS none _ rfl rfl (by kernel_rfl) (Wk.storeR 27 (.tmp 6) (.tmp 12) rfl W4.heap.size 0 (by kernel_rfl) ([.int .i64 g.pTo, .int .u8 ((g.pKind.toNat : Nat) : Int), .int .u64 ((g.pSeq : Nat) : Int), .int .i64 g.pAbout, .slice y.u.A y.u.n y.u.c]) (by kernel_rfl) (by kernel_rfl) (by intro v hv; simp at hv; rcases hv with h | h | h | h | h <;> (subst h; rfl)) 27 ([.int .i64 0, .int .u8 0, .int .u64 0, .int .i64 0, .slice none 0 0]) (Chg.hp ch6 hb4 ⟨by omega, trivial⟩) (by simp)) ?_
   rintro W7 ⟨hb6, ch7⟩
   replace hb6 : W7.heap[W4.heap.size]? = some (.cells #[.int .i64 g.pTo, .int .u8 ((g.pKind.toNat : Nat) : Int), .int .u64 ((g.pSeq : Nat) : Int), .int .i64 g.pAbout, .slice y.u.A y.u.n y.u.c] 27 (0, 0)) := hb6
   have zz7 := ch7.size
   have sS5 := Chg.step sS4 ch7 ⟨.inr (by omega), trivial⟩
   refine ⟨sS5, ?_⟩
   refine dEnd (by kernel_rfl) (nxt ?_)
   exact ⟨W3.heap.size, W4.heap.size, by kernel_rfl, (Chg.step (Chg.step (Chg.step (Chg.step (Chg.step ((Chg.refl _).more (by simp) : Chg [] W2 W2) ch3 trivial) ch4 trivial) ch5 trivial) ch6 ⟨.inr (by omega), trivial⟩) ch7 ⟨.inr (by omega), trivial⟩), (Chg.hp ch7 hb5 ⟨by omega, trivial⟩), hb6⟩
  refine oEx (some 6) _ rfl rfl (by kernel_rfl) (new_ex (pt W3.heap.size 0) #[.int .i64 0, .int .u8 0, .int .u64 0, .int .i64 0, .slice none 0 0] 27 (by kernel_rfl)) ?_
  rintro _ W8 ⟨rfl, hb7, ch8, sz6⟩
  have zz8 := ch8.size
  have sS6 := Chg.step sS1 ch8 trivial
  refine ⟨sS6, ?_⟩
  refine dOp 4 (by kernel_rfl) ?_
  refine oEx (some 5) _ rfl rfl (by kernel_rfl) (new_ex (pt W8.heap.size 0) #[.int .i64 0, .int .u8 0, .int .u64 0, .int .i64 0, .slice none 0 0] 27 (by kernel_rfl)) ?_
  rintro _ W10 ⟨rfl, hb8, ch9, sz7⟩
  have zz9 := ch9.size
  have sS7 := Chg.step sS6 ch9 trivial
  refine ⟨sS7, ?_⟩
  refine dOp 6 (by kernel_rfl) ?_
  refine oExS none _ rfl rfl (by kernel_rfl) (Wk.storeR 27 (.tmp 5) (.tmp 10) rfl W8.heap.size 0 (by kernel_rfl) ([.int .i64 f.pTo, .int .u8 ((f.pKind.toNat : Nat) : Int), .int .u64 ((f.pSeq : Nat) : Int), .int .i64 f.pAbout, .slice z.u.A z.u.n z.u.c]) (by kernel_rfl) (by kernel_rfl) (by intro v hv; simp at hv; rcases hv with h | h | h | h | h <;> (subst h; rfl)) 27 ([.int .i64 0, .int .u8 0, .int .u64 0, .int .i64 0, .slice none 0 0]) hb8 (by simp)) ?_
  rintro W11 ⟨hb9, ch10⟩
  replace hb9 : W11.heap[W8.heap.size]? = some (.cells #[.int .i64 f.pTo, .int .u8 ((f.pKind.toNat : Nat) : Int), .int .u64 ((f.pSeq : Nat) : Int), .int .i64 f.pAbout, .slice z.u.A z.u.n z.u.c] 27 (0, 0)) := hb9
  have zz10 := ch10.size
  have sS8 := Chg.step sS7 ch10 ⟨.inr (by omega), trivial⟩
  refine ⟨sS8, ?_⟩
  refine dOp 7 (by kernel_rfl) ?_
  refine oExS none _ rfl rfl (by kernel_rfl) (Wk.storeR 27 (.tmp 6) (.tmp 12) rfl W3.heap.size 0 (by kernel_rfl) ([.int .i64 g.pTo, .int .u8 ((g.pKind.toNat : Nat) : Int), .int .u64 ((g.pSeq : Nat) : Int), .int .i64 g.pAbout, .slice y.u.A y.u.n y.u.c]) (by kernel_rfl) (by kernel_rfl) (by intro v hv; simp at hv; rcases hv with h | h | h | h | h <;> (subst h; rfl)) 27 ([.int .i64 0, .int .u8 0, .int .u64 0, .int .i64 0, .slice none 0 0]) (Chg.hp ch10 (Chg.hp ch9 hb7 trivial) ⟨by omega, trivial⟩) (by simp)) ?_
  rintro W12 ⟨hb10, ch11⟩
  replace hb10 : W12.heap[W3.heap.size]? = some (.cells #[.int .i64 g.pTo, .int .u8 ((g.pKind.toNat : Nat) : Int), .int .u64 ((g.pSeq : Nat) : Int), .int .i64 g.pAbout, .slice y.u.A y.u.n y.u.c] 27 (0, 0)) := hb10
  have zz11 := ch11.size
  have sS9 := Chg.step sS8 ch11 ⟨.inr (by omega), trivial⟩
  refine ⟨sS9, ?_⟩
  refine dEnd (by kernel_rfl) (nxt ?_)
  exact ⟨W8.heap.size, W3.heap.size, by kernel_rfl, (Chg.step (Chg.step (Chg.step (Chg.step (Chg.step ((Chg.refl _).more (by simp) : Chg [] W2 W2) ch3 trivial) ch8 trivial) ch9 trivial) ch10 ⟨.inr (by omega), trivial⟩) ch11 ⟨.inr (by omega), trivial⟩), (Chg.hp ch11 hb9 ⟨by omega, trivial⟩), hb10⟩
 rintro aa1 W13 ⟨q5, q6, hF1, ch12, hq5, hq6⟩
 have zz12 := ch12.size
 generalize aa1.tmps = bb1 at hF1
 subst hF1
 refine nxt (wp_seq ?_)
 refine Wk.cut (fun a wj => ∃ (q7 : Nat) (q8 : Nat), a = SameF_J2_2 a.tmps (pt w.heap.size 0) (pt W1.heap.size 0) (pt q5 0) (pt q6 0) (pt q7 0) (pt q8 0) ∧ Chg [] W13 wj ∧ wj.heap[q7]? = some (.cells (Mur.msgC f.gos.kind z.p.A z.p.n z.p.c f.gos.sum f.gos.cnt z.i.A z.i.n z.i.c f.gos.ans).toArray 32 (0, 0)) ∧ wj.heap[q8]? = some (.cells (Mur.msgC g.gos.kind y.p.A y.p.n y.p.c g.gos.sum g.gos.cnt y.i.A y.i.n y.i.c g.gos.ans).toArray 32 (0, 0))) ?_ ?_
 ·refine dReg ([]) (by kernel_rfl) ?_
  intro W14 ch13 sz8
  have zz13 := ch13.size
  have sS10 : Chg ([]) W14 W14 := (Chg.refl _).more (by simp)
  refine dW 0 13 (pt w.heap.size 8) sS10 ?_
  refine dV 1 14 (.agg ((Mur.msgC f.gos.kind z.p.A z.p.n z.p.c f.gos.sum f.gos.cnt z.i.A z.i.n z.i.c f.gos.ans).toArray)) rfl rfl (fun w' hw' => (loadR 32 (.tmp 13) rfl _ Tryd.underlying32 rfl w.heap.size 8 (by kernel_rfl) (Mur.msgC f.gos.kind z.p.A z.p.n z.p.c f.gos.sum f.gos.cnt z.i.A z.i.n z.i.c f.gos.ans) (by rw [msgC_length hI.ok.sum]; kernel_rfl) (show World.rangeAt _ _ (0 + 8) _ from segs_rng (frmL_sz hI.ok.sum hI.ok.key f.att.hk f.att.hr f.att.ht hI.ok.root) (range_row (Chg.hp hw' (Chg.hp ch13 (Chg.hp ch12 (Chg.hp ch2 hb1 trivial) trivial) trivial) trivial)) 8 6 rfl rfl))) sS10 ?_
  refine dW 2 15 (pt W1.heap.size 8) sS10 ?_
  refine dV 3 16 (.agg ((Mur.msgC g.gos.kind y.p.A y.p.n y.p.c g.gos.sum g.gos.cnt y.i.A y.i.n y.i.c g.gos.ans).toArray)) rfl rfl (fun w' hw' => (loadR 32 (.tmp 15) rfl _ Tryd.underlying32 rfl W1.heap.size 8 (by kernel_rfl) (Mur.msgC g.gos.kind y.p.A y.p.n y.p.c g.gos.sum g.gos.cnt y.i.A y.i.n y.i.c g.gos.ans) (by rw [msgC_length hJ.ok.sum]; kernel_rfl) (show World.rangeAt _ _ (0 + 8) _ from segs_rng (frmL_sz hJ.ok.sum hJ.ok.key g.att.hk g.att.hr g.att.ht hJ.ok.root) (range_row (Chg.hp hw' (Chg.hp ch13 (Chg.hp ch12 hb2 trivial) trivial) trivial)) 8 6 rfl rfl))) sS10 ?_
  refine dOp2 4 5 (by kernel_rfl) ?_ ?_
  ·refine oEx (some 7) _ rfl rfl (by kernel_rfl) (new_ex (pt W14.heap.size 0) ZM 32 (by kernel_rfl)) ?_
   rintro _ W15 ⟨rfl, hb11, ch14, sz9⟩
   have zz14 := ch14.size
   have sS11 := Chg.step sS10 ch14 trivial
   refine ⟨sS11, ?_⟩
   refine dOp 5 (by kernel_rfl) ?_
   refine oEx (some 8) _ rfl rfl (by kernel_rfl) (new_ex (pt W15.heap.size 0) ZM 32 (by kernel_rfl)) ?_
   rintro _ W16 ⟨rfl, hb12, ch15, sz10⟩
   have zz15 := ch15.size
   have sS12 := Chg.step sS11 ch15 trivial
   refine ⟨sS12, ?_⟩
   refine dOp 6 (by kernel_rfl) ?_
   refine oExS none _ rfl rfl (by kernel_rfl) (Mur.storeArr 32 (.tmp 7) (.tmp 14) rfl W14.heap.size (by kernel_rfl) (Mur.msgC f.gos.kind z.p.A z.p.n z.p.c f.gos.sum f.gos.cnt z.i.A z.i.n z.i.c f.gos.ans).toArray 37 (msgC_size hI.ok.sum) msgC_all (by kernel_rfl) (by kernel_rfl) 32 ZM (Chg.hp ch15 hb11 trivial) (by kernel_rfl)) ?_
   rintro W17 ⟨hb13, ch16⟩
   have zz16 := ch16.size
   have sS13 := Chg.step sS12 ch16 ⟨.inr (by omega), trivial⟩
   refine ⟨sS13, ?_⟩
   refine dOp 7 (by kernel_rfl) ?_
   refine oExS none _ rfl rfl (by kernel_rfl) (Mur.storeArr 32 (.tmp 8) (.tmp 16) rfl W15.heap.size (by kernel_rfl) (Mur.msgC g.gos.kind y.p.A y.p.n y.p.c g.gos.sum g.gos.cnt y.i.A y.i.n y.i.c g.gos.ans).toArray 37 (msgC_size hJ.ok.sum) msgC_all (by kernel_rfl) (by kernel_rfl) 32 ZM (Chg.hp ch16 hb12 ⟨by omega, trivial⟩) (by kernel_rfl)) ?_
   rintro W18 ⟨hb14, ch17⟩
   have zz17 := ch17.size
   have sS14 := Chg.step sS13 ch17 ⟨.inr (by omega), trivial⟩
   refine ⟨sS14, ?_⟩
   refine dEnd (by kernel_rfl) (nxt ?_)
   exact ⟨W14.heap.size, W15.heap.size, by kernel_rfl, (Chg.step (Chg.step (Chg.step (Chg.step (Chg.step ((Chg.refl _).more (by simp) : Chg [] W13 W13) ch13 trivial) ch14 trivial) ch15 trivial) ch16 ⟨.inr (by omega), trivial⟩) ch17 ⟨.inr (by omega), trivial⟩), (Chg.hp ch17 hb13 ⟨by omega, trivial⟩), hb14⟩
  refine oEx (some 8) _ rfl rfl (by kernel_rfl) (new_ex (pt W14.heap.size 0) ZM 32 (by kernel_rfl)) ?_
  rintro _ W19 ⟨rfl, hb15, ch18, sz11⟩
  have zz18 := ch18.size
  have sS15 := Chg.step sS10 ch18 trivial
  refine ⟨sS15, ?_⟩
  refine dOp 4 (by kernel_rfl) ?_
  refine oEx (some 7) _ rfl rfl (by kernel_rfl) (new_ex (pt W19.heap.size 0) ZM 32 (by kernel_rfl)) ?_
  rintro _ W20 ⟨rfl, hb16, ch19, sz12⟩
  have zz19 := ch19.size
  have sS16 := Chg.step sS15 ch19 trivial
  refine ⟨sS16, ?_⟩
  refine dOp 6 (by kernel_rfl) ?_
  refine oExS none _ rfl rfl (by kernel_rfl) (Mur.storeArr 32 (.tmp 7) (.tmp 14) rfl W19.heap.size (by kernel_rfl) (Mur.msgC f.gos.kind z.p.A z.p.n z.p.c f.gos.sum f.gos.cnt z.i.A z.i.n z.i.c f.gos.ans).toArray 37 (msgC_size hI.ok.sum) msgC_all (by kernel_rfl) (by kernel_rfl) 32 ZM hb16 (by kernel_rfl)) ?_
  rintro W21 ⟨hb17, ch20⟩
  have zz20 := ch20.size
  have sS17 := Chg.step sS16 ch20 ⟨.inr (by omega), trivial⟩
  refine ⟨sS17, ?_⟩
  refine dOp 7 (by kernel_rfl) ?_
  refine oExS none _ rfl rfl (by kernel_rfl) (Mur.storeArr 32 (.tmp 8) (.tmp 16) rfl W14.heap.size (by kernel_rfl) (Mur.msgC g.gos.kind y.p.A y.p.n y.p.c g.gos.sum g.gos.cnt y.i.A y.i.n y.i.c g.gos.ans).toArray 37 (msgC_size hJ.ok.sum) msgC_all (by kernel_rfl) (by kernel_rfl) 32 ZM (Chg.hp ch20 (Chg.hp ch19 hb15 trivial) ⟨by omega, trivial⟩) (by kernel_rfl)) ?_
  rintro W22 ⟨hb18, ch21⟩
  have zz21 := ch21.size
  have sS18 := Chg.step sS17 ch21 ⟨.inr (by omega), trivial⟩
  refine ⟨sS18, ?_⟩
  refine dEnd (by kernel_rfl) (nxt ?_)
  exact ⟨W19.heap.size, W14.heap.size, by kernel_rfl, (Chg.step (Chg.step (Chg.step (Chg.step (Chg.step ((Chg.refl _).more (by simp) : Chg [] W13 W13) ch13 trivial) ch18 trivial) ch19 trivial) ch20 ⟨.inr (by omega), trivial⟩) ch21 ⟨.inr (by omega), trivial⟩), (Chg.hp ch21 hb17 ⟨by omega, trivial⟩), hb18⟩
 rintro aa2 W23 ⟨q7, q8, hF2, ch22, hq7, hq8⟩
 have zz22 := ch22.size
 generalize aa2.tmps = bb2 at hF2
 subst hF2
 refine nxt (wp_seq (reg ?_))
 refine rP 0 17 (pt w.heap.size 0) ?_
 refine rQ 1 18 _ rfl rfl (ld 5 17 w.heap.size 0 (.int .u8 ((f.kind.toNat : Nat) : Int)) (show World.cell? _ ⟨_, 0 + 0, _⟩ = _ from segs_cell (frmL_sz hI.ok.sum hI.ok.key f.att.hk f.att.hr f.att.ht hI.ok.root) (range_row (Chg.hp ch22 (Chg.hp ch12 (Chg.hp ch2 hb1 trivial) trivial) trivial)) 0 rfl rfl)) ?_
 refine rP 2 19 (pt W1.heap.size 0) ?_
 refine rQ 3 20 _ rfl rfl (ld 5 19 W1.heap.size 0 (.int .u8 ((g.kind.toNat : Nat) : Int)) (show World.cell? _ ⟨_, 0 + 0, _⟩ = _ from segs_cell (frmL_sz hJ.ok.sum hJ.ok.key g.att.hk g.att.hr g.att.ht hJ.ok.root) (range_row (Chg.hp ch22 (Chg.hp ch12 hb2 trivial) trivial)) 0 rfl rfl)) ?_
 by_cases hx1 : ((f.kind.toNat : Nat) : Int) = ((g.kind.toNat : Nat) : Int)
 ·refine rQ 4 21 _ rfl rfl (qboolT (b := (((f.kind.toNat : Nat) : Int) == ((g.kind.toNat : Nat) : Int))) (beq_iff_eq.2 (by first | exact hx1 | omega))) ?_
  refine rP 5 22 (.bool true) ?_
  refine rP 6 23 (pt w.heap.size 1) ?_
  refine rQ 7 24 _ rfl rfl (ld 3 23 w.heap.size 1 (.int .i64 f.frm) (show World.cell? _ ⟨_, 0 + 1, _⟩ = _ from segs_cell (frmL_sz hI.ok.sum hI.ok.key f.att.hk f.att.hr f.att.ht hI.ok.root) (range_row (Chg.hp ch22 (Chg.hp ch12 (Chg.hp ch2 hb1 trivial) trivial) trivial)) 1 rfl rfl)) ?_
  refine rP 8 25 (pt W1.heap.size 1) ?_
  refine rQ 9 26 _ rfl rfl (ld 3 25 W1.heap.size 1 (.int .i64 g.frm) (show World.cell? _ ⟨_, 0 + 1, _⟩ = _ from segs_cell (frmL_sz hJ.ok.sum hJ.ok.key g.att.hk g.att.hr g.att.ht hJ.ok.root) (range_row (Chg.hp ch22 (Chg.hp ch12 hb2 trivial) trivial)) 1 rfl rfl)) ?_
  by_cases hx2 : f.frm = g.frm
  ·refine rQ 10 27 _ rfl rfl (qboolT (b := (f.frm == g.frm)) (beq_iff_eq.2 (by first | exact hx2 | omega))) ?_
   refine rP 11 28 (.bool true) ?_
   refine rP 12 29 (.bool true) ?_
   refine rP 13 30 (pt w.heap.size 2) ?_
   refine Wk.norm 155 [(2, pt w.heap.size 0), (3, pt W1.heap.size 0), (5, pt q5 0), (6, pt q6 0), (7, pt q7 0), (8, pt q8 0), (29, .bool true), (30, pt w.heap.size 2)] (by kernel_rfl) (by kernel_rfl) (by kernel_rfl) ?_
   intro bb3
   refine rQ 14 31 _ rfl rfl (ld 3 30 w.heap.size 2 (.int .i64 f.dst) (show World.cell? _ ⟨_, 0 + 2, _⟩ = _ from segs_cell (frmL_sz hI.ok.sum hI.ok.key f.att.hk f.att.hr f.att.ht hI.ok.root) (range_row (Chg.hp ch22 (Chg.hp ch12 (Chg.hp ch2 hb1 trivial) trivial) trivial)) 2 rfl rfl)) ?_
   refine rP 15 32 (pt W1.heap.size 2) ?_
   refine rQ 16 33 _ rfl rfl (ld 3 32 W1.heap.size 2 (.int .i64 g.dst) (show World.cell? _ ⟨_, 0 + 2, _⟩ = _ from segs_cell (frmL_sz hJ.ok.sum hJ.ok.key g.att.hk g.att.hr g.att.ht hJ.ok.root) (range_row (Chg.hp ch22 (Chg.hp ch12 hb2 trivial) trivial)) 2 rfl rfl)) ?_
   by_cases hx3 : f.dst = g.dst
   ·refine rQ 17 34 _ rfl rfl (qboolT (b := (f.dst == g.dst)) (beq_iff_eq.2 (by first | exact hx3 | omega))) ?_
    refine rP 18 35 (.bool true) ?_
    refine rP 19 36 (.bool true) ?_
    refine rP 20 37 (pt q5 0) ?_
    refine rQ 21 38 _ rfl rfl (ld 3 37 q5 0 (.int .i64 f.pTo) ((cell_of_row _ _ 0 _ _ _ (Chg.hp ch22 hq5 trivial)).trans rfl)) ?_
    refine rP 22 39 (pt q6 0) ?_
    refine rQ 23 40 _ rfl rfl (ld 3 39 q6 0 (.int .i64 g.pTo) ((cell_of_row _ _ 0 _ _ _ (Chg.hp ch22 hq6 trivial)).trans rfl)) ?_
    by_cases hx4 : f.pTo = g.pTo
    ·refine rQ 24 41 _ rfl rfl (qboolT (b := (f.pTo == g.pTo)) (beq_iff_eq.2 (by first | exact hx4 | omega))) ?_
     refine rP 25 42 (.bool true) ?_
     refine rP 26 43 (.bool true) ?_
     refine rP 27 44 (pt q5 1) ?_
     refine Wk.norm 155 [(2, pt w.heap.size 0), (3, pt W1.heap.size 0), (5, pt q5 0), (6, pt q6 0), (7, pt q7 0), (8, pt q8 0), (43, .bool true), (44, pt q5 1)] (by kernel_rfl) (by kernel_rfl) (by kernel_rfl) ?_
     intro bb4
     refine rQ 28 45 _ rfl rfl (ld 5 44 q5 1 (.int .u8 ((f.pKind.toNat : Nat) : Int)) ((cell_of_row _ _ 1 _ _ _ (Chg.hp ch22 hq5 trivial)).trans rfl)) ?_
     refine rP 29 46 (pt q6 1) ?_
     refine rQ 30 47 _ rfl rfl (ld 5 46 q6 1 (.int .u8 ((g.pKind.toNat : Nat) : Int)) ((cell_of_row _ _ 1 _ _ _ (Chg.hp ch22 hq6 trivial)).trans rfl)) ?_
     by_cases hx5 : ((f.pKind.toNat : Nat) : Int) = ((g.pKind.toNat : Nat) : Int)
     ·refine rQ 31 48 _ rfl rfl (qboolT (b := (((f.pKind.toNat : Nat) : Int) == ((g.pKind.toNat : Nat) : Int))) (beq_iff_eq.2 (by first | exact hx5 | omega))) ?_
      refine rP 32 49 (.bool true) ?_
      refine rP 33 50 (.bool true) ?_
      refine rP 34 51 (pt q5 2) ?_
      refine rQ 35 52 _ rfl rfl (ld 24 51 q5 2 (.int .u64 ((f.pSeq : Nat) : Int)) ((cell_of_row _ _ 2 _ _ _ (Chg.hp ch22 hq5 trivial)).trans rfl)) ?_
      refine rP 36 53 (pt q6 2) ?_
      refine rQ 37 54 _ rfl rfl (ld 24 53 q6 2 (.int .u64 ((g.pSeq : Nat) : Int)) ((cell_of_row _ _ 2 _ _ _ (Chg.hp ch22 hq6 trivial)).trans rfl)) ?_
      by_cases hx6 : ((f.pSeq : Nat) : Int) = ((g.pSeq : Nat) : Int)
      ·refine rQ 38 55 _ rfl rfl (qboolT (b := (((f.pSeq : Nat) : Int) == ((g.pSeq : Nat) : Int))) (beq_iff_eq.2 (by first | exact hx6 | omega))) ?_
       refine rP 39 56 (.bool true) ?_
       refine rP 40 57 (.bool true) ?_
       refine rP 41 58 (pt q5 3) ?_
       refine Wk.norm 155 [(2, pt w.heap.size 0), (3, pt W1.heap.size 0), (5, pt q5 0), (6, pt q6 0), (7, pt q7 0), (8, pt q8 0), (57, .bool true), (58, pt q5 3)] (by kernel_rfl) (by kernel_rfl) (by kernel_rfl) ?_
       intro bb5
       refine rQ 42 59 _ rfl rfl (ld 3 58 q5 3 (.int .i64 f.pAbout) ((cell_of_row _ _ 3 _ _ _ (Chg.hp ch22 hq5 trivial)).trans rfl)) ?_
       refine rP 43 60 (pt q6 3) ?_
       refine rQ 44 61 _ rfl rfl (ld 3 60 q6 3 (.int .i64 g.pAbout) ((cell_of_row _ _ 3 _ _ _ (Chg.hp ch22 hq6 trivial)).trans rfl)) ?_
       by_cases hx7 : f.pAbout = g.pAbout
       ·refine rQ 45 62 _ rfl rfl (qboolT (b := (f.pAbout == g.pAbout)) (beq_iff_eq.2 (by first | exact hx7 | omega))) ?_
        refine rP 46 63 (.bool true) ?_
        refine rP 47 64 (.bool true) ?_
        refine rP 48 65 (pt q5 4) ?_
        refine rQ 49 66 _ rfl rfl (ld 25 65 q5 4 (.slice z.u.A z.u.n z.u.c) ((cell_of_row _ _ 4 _ _ _ (Chg.hp ch22 hq5 trivial)).trans rfl)) ?_
        refine rP 50 67 (pt q6 4) ?_
        refine rQ 51 68 _ rfl rfl (ld 25 67 q6 4 (.slice y.u.A y.u.n y.u.c) ((cell_of_row _ _ 4 _ _ _ (Chg.hp ch22 hq6 trivial)).trans rfl)) ?_
        refine rC 52 69 24 [.tmp 66, .tmp 68] #[25, 25] [.slice z.u.A z.u.n z.u.c, .slice y.u.A y.u.n y.u.c] ?_
        have kk1 : Chg [] w W1 := Chg.step ((Chg.refl _).more (by simp)) ch1 trivial
        have kk2 := Chg.step kk1 ch2 trivial
        have kk3 := Chg.step kk2 ch12 trivial
        have kk4 := Chg.step kk3 ch22 trivial
        refine (EqualU_any z.u.A z.u.n z.u.c y.u.A y.u.n y.u.c f.pUpd g.pUpd W23 (LiesF.chg hL kk4 hLin_).upd (LiesF.chg hM kk4 hMin_).upd (fun x_ h_ => ⟨hI.upd x_ h_, hI.ok.upd x_ h_⟩) (fun x_ h_ => ⟨hJ.upd x_ h_, hJ.ok.upd x_ h_⟩) (by omega)).mono ?_
        by_cases hpr1 : f.pUpd = g.pUpd
        ·rw [decide_eq_true hpr1]
         rintro _ W24 ⟨rfl, ch23⟩
         have zz23 := ch23.size
         refine ⟨_, rfl, ?_⟩
         refine rP 53 70 (.bool true) ?_
         refine rP 54 71 (.bool true) ?_
         refine rP 55 72 (pt q7 0) ?_
         refine Wk.norm 155 [(2, pt w.heap.size 0), (3, pt W1.heap.size 0), (7, pt q7 0), (8, pt q8 0), (71, .bool true), (72, pt q7 0)] (by kernel_rfl) (by kernel_rfl) (by kernel_rfl) ?_
         intro bb6
         refine rQ 56 73 _ rfl rfl (ld 5 72 q7 0 (.int .u8 ((f.gos.kind.toNat : Nat) : Int)) (show World.cell? _ ⟨_, 0 + 0, _⟩ = _ from msg_kind (range_row (Chg.hp ch23 hq7 trivial)))) ?_
         refine rP 57 74 (pt q8 0) ?_
         refine rQ 58 75 _ rfl rfl (ld 5 74 q8 0 (.int .u8 ((g.gos.kind.toNat : Nat) : Int)) (show World.cell? _ ⟨_, 0 + 0, _⟩ = _ from msg_kind (range_row (Chg.hp ch23 hq8 trivial)))) ?_
         by_cases hx8 : ((f.gos.kind.toNat : Nat) : Int) = ((g.gos.kind.toNat : Nat) : Int)
         ·refine rQ 59 76 _ rfl rfl (qboolT (b := (((f.gos.kind.toNat : Nat) : Int) == ((g.gos.kind.toNat : Nat) : Int))) (beq_iff_eq.2 (by first | exact hx8 | omega))) ?_
          refine rP 60 77 (.bool true) ?_
          refine rP 61 78 (.bool true) ?_
          refine rP 62 79 (pt q7 1) ?_
          refine rQ 63 80 _ rfl rfl (ld 22 79 q7 1 (.slice z.p.A z.p.n z.p.c) (show World.cell? _ ⟨_, 0 + 1, _⟩ = _ from msg_pre (range_row (Chg.hp ch23 hq7 trivial)))) ?_
          refine rP 64 81 (pt q8 1) ?_
          refine rQ 65 82 _ rfl rfl (ld 22 81 q8 1 (.slice y.p.A y.p.n y.p.c) (show World.cell? _ ⟨_, 0 + 1, _⟩ = _ from msg_pre (range_row (Chg.hp ch23 hq8 trivial)))) ?_
          refine rC 66 83 25 [.tmp 80, .tmp 82] #[22, 22] [.slice z.p.A z.p.n z.p.c, .slice y.p.A y.p.n y.p.c] ?_
          have kk5 := Chg.step kk4 ch23 trivial
          refine (BEqual_any z.p.A z.p.n z.p.c y.p.A y.p.n y.p.c f.gos.pre g.gos.pre W24 (byt_chg hL.pre kk5 (fun g off e hl => trivial)) (byt_chg hM.pre kk5 (fun g off e hl => trivial))).mono ?_
          by_cases hpr2 : f.gos.pre = g.gos.pre
          ·rw [decide_eq_true hpr2]
           rintro _ W25 ⟨rfl, ch24⟩
           have zz24 := ch24.size
           refine ⟨_, rfl, ?_⟩
           refine rP 67 84 (.bool true) ?_
           refine rP 68 85 (.bool true) ?_
           refine rP 69 86 (pt q7 2) ?_
           refine Wk.norm 155 [(2, pt w.heap.size 0), (3, pt W1.heap.size 0), (7, pt q7 0), (8, pt q8 0), (85, .bool true), (86, pt q7 2)] (by kernel_rfl) (by kernel_rfl) (by kernel_rfl) ?_
           intro bb7
           refine rQ 70 87 (.agg ((b8s f.gos.sum).toArray)) rfl rfl (loadR 29 (.tmp 86) rfl _ Tryd.underlying29 rfl q7 2 (by kernel_rfl) (b8s f.gos.sum) (by rw [b8s_length, hI.ok.sum]; kernel_rfl) (show World.rangeAt _ _ (0 + 2) _ from msg_sum (range_row (Chg.hp ch24 (Chg.hp ch23 hq7 trivial) trivial)))) ?_
           refine rP 71 88 (pt q8 2) ?_
           refine rQ 72 89 (.agg ((b8s g.gos.sum).toArray)) rfl rfl (loadR 29 (.tmp 88) rfl _ Tryd.underlying29 rfl q8 2 (by kernel_rfl) (b8s g.gos.sum) (by rw [b8s_length, hJ.ok.sum]; kernel_rfl) (show World.rangeAt _ _ (0 + 2) _ from msg_sum (range_row (Chg.hp ch24 (Chg.hp ch23 hq8 trivial) trivial)))) ?_
           by_cases hpr3 : f.gos.sum = g.gos.sum
           ·refine rQ 73 90 (.bool true) rfl rfl (run_eql_yes digT f.gos.sum g.gos.sum hI.ok.sum hJ.ok.sum hpr3 _ (.tmp 87) (.tmp 89) 29 rfl (by kernel_rfl) (by kernel_rfl)) ?_
            refine rP 74 91 (.bool true) ?_
            refine rP 75 92 (.bool true) ?_
            refine rP 76 93 (pt q7 34) ?_
            refine rQ 77 94 _ rfl rfl (ld 3 93 q7 34 (.int .i64 f.gos.cnt) (show World.cell? _ ⟨_, 0 + 34, _⟩ = _ from msg_cnt hI.ok.sum (range_row (Chg.hp ch24 (Chg.hp ch23 hq7 trivial) trivial)))) ?_
            refine rP 78 95 (pt q8 34) ?_
            refine rQ 79 96 _ rfl rfl (ld 3 95 q8 34 (.int .i64 g.gos.cnt) (show World.cell? _ ⟨_, 0 + 34, _⟩ = _ from msg_cnt hJ.ok.sum (range_row (Chg.hp ch24 (Chg.hp ch23 hq8 trivial) trivial)))) ?_
            by_cases hx9 : f.gos.cnt = g.gos.cnt
            ·refine rQ 80 97 _ rfl rfl (qboolT (b := (f.gos.cnt == g.gos.cnt)) (beq_iff_eq.2 (by first | exact hx9 | omega))) ?_
             refine rP 81 98 (.bool true) ?_
             refine rP 82 99 (.bool true) ?_
             refine rP 83 100 (pt q7 35) ?_
             refine Wk.norm 155 [(2, pt w.heap.size 0), (3, pt W1.heap.size 0), (7, pt q7 0), (8, pt q8 0), (99, .bool true), (100, pt q7 35)] (by kernel_rfl) (by kernel_rfl) (by kernel_rfl) ?_
             intro bb8
             refine rQ 84 101 _ rfl rfl (ld 30 100 q7 35 (.slice z.i.A z.i.n z.i.c) (show World.cell? _ ⟨_, 0 + 35, _⟩ = _ from msg_items hI.ok.sum (range_row (Chg.hp ch24 (Chg.hp ch23 hq7 trivial) trivial)))) ?_
             refine rP 85 102 (pt q8 35) ?_
             refine rQ 86 103 _ rfl rfl (ld 30 102 q8 35 (.slice y.i.A y.i.n y.i.c) (show World.cell? _ ⟨_, 0 + 35, _⟩ = _ from msg_items hJ.ok.sum (range_row (Chg.hp ch24 (Chg.hp ch23 hq8 trivial) trivial)))) ?_
             refine rC 87 104 26 [.tmp 101, .tmp 103] #[30, 30] [.slice z.i.A z.i.n z.i.c, .slice y.i.A y.i.n y.i.c] ?_
             have kk6 := Chg.step kk5 ch24 trivial
             refine (EqualA_any z.i.A z.i.n z.i.c y.i.A y.i.n y.i.c f.gos.items g.gos.items W25 (LiesF.chg hL kk6 hLin_).its.slR (LiesF.chg hM kk6 hMin_).its.slR (fun _ _ => trivial) (fun _ _ => trivial) (by omega)).mono ?_
             by_cases hpr4 : f.gos.items = g.gos.items
             ·rw [decide_eq_true hpr4]
              rintro _ W26 ⟨rfl, ch25⟩
              have zz25 := ch25.size
              refine ⟨_, rfl, ?_⟩
              refine rP 88 105 (.bool true) ?_
              refine rP 89 106 (.bool true) ?_
              refine rP 90 107 (pt q7 36) ?_
              refine rQ 91 108 _ rfl rfl (ld 4 107 q7 36 (.bool f.gos.ans) (show World.cell? _ ⟨_, 0 + 36, _⟩ = _ from msg_ans hI.ok.sum (range_row (Chg.hp ch25 (Chg.hp ch24 (Chg.hp ch23 hq7 trivial) trivial) trivial)))) ?_
              refine rP 92 109 (pt q8 36) ?_
              refine rQ 93 110 _ rfl rfl (ld 4 109 q8 36 (.bool g.gos.ans) (show World.cell? _ ⟨_, 0 + 36, _⟩ = _ from msg_ans hJ.ok.sum (range_row (Chg.hp ch25 (Chg.hp ch24 (Chg.hp ch23 hq8 trivial) trivial) trivial)))) ?_
              by_cases hpr5 : f.gos.ans = g.gos.ans
              ·refine rQ 94 111 _ rfl rfl (boolT (b := decide (f.gos.ans = g.gos.ans)) (decide_eq_true hpr5) (run_eql_bool (.tmp 108) (.tmp 110) 4 rfl f.gos.ans g.gos.ans (by kernel_rfl) (by kernel_rfl))) ?_
               refine rP 95 112 (.bool true) ?_
               refine rP 96 113 (.bool true) ?_
               refine rP 97 114 (pt w.heap.size 45) ?_
               refine Wk.norm 155 [(2, pt w.heap.size 0), (3, pt W1.heap.size 0), (113, .bool true), (114, pt w.heap.size 45)] (by kernel_rfl) (by kernel_rfl) (by kernel_rfl) ?_
               intro bb9
               refine rQ 98 115 (.agg ((Mur.claimC f.cKey f.cNode f.cInc f.cCnt f.cGone).toArray)) rfl rfl (loadR 34 (.tmp 114) rfl _ Tryd.underlying34 rfl w.heap.size 45 (by kernel_rfl) (Mur.claimC f.cKey f.cNode f.cInc f.cCnt f.cGone) (by rw [claimC_length hI.ok.key]; kernel_rfl) (show World.rangeAt _ _ (0 + 45) _ from segs_rng (frmL_sz hI.ok.sum hI.ok.key f.att.hk f.att.hr f.att.ht hI.ok.root) (range_row (Chg.hp ch25 (Chg.hp ch24 (Chg.hp ch23 (Chg.hp ch22 (Chg.hp ch12 (Chg.hp ch2 hb1 trivial) trivial) trivial) trivial) trivial) trivial)) 14 5 rfl rfl)) ?_
               refine rP 99 116 (pt W1.heap.size 45) ?_
               refine rQ 100 117 (.agg ((Mur.claimC g.cKey g.cNode g.cInc g.cCnt g.cGone).toArray)) rfl rfl (loadR 34 (.tmp 116) rfl _ Tryd.underlying34 rfl W1.heap.size 45 (by kernel_rfl) (Mur.claimC g.cKey g.cNode g.cInc g.cCnt g.cGone) (by rw [claimC_length hJ.ok.key]; kernel_rfl) (show World.rangeAt _ _ (0 + 45) _ from segs_rng (frmL_sz hJ.ok.sum hJ.ok.key g.att.hk g.att.hr g.att.ht hJ.ok.root) (range_row (Chg.hp ch25 (Chg.hp ch24 (Chg.hp ch23 (Chg.hp ch22 (Chg.hp ch12 hb2 trivial) trivial) trivial) trivial) trivial)) 14 5 rfl rfl)) ?_
               by_cases hpr6 : f.cKey = g.cKey ∧ f.cNode = g.cNode ∧ f.cInc = g.cInc ∧ f.cCnt = g.cCnt ∧ f.cGone = g.cGone
               ·refine rQ 101 118 _ rfl rfl (boolT (b := decide (f.cKey = g.cKey ∧ f.cNode = g.cNode ∧ f.cInc = g.cInc ∧ f.cCnt = g.cCnt ∧ f.cGone = g.cGone)) (decide_eq_true hpr6) (run_eql_claim (.tmp 115) (.tmp 117) 34 rfl hI.ok.key hJ.ok.key (wf64 hI.cNo.1 hI.cNo.2) (wf64 hJ.cNo.1 hJ.cNo.2) hI.ok.inc hJ.ok.inc hI.ok.cnt hJ.ok.cnt (by kernel_rfl) (by kernel_rfl))) ?_
                refine rP 102 119 (.bool true) ?_
                refine rP 103 120 (.bool true) ?_
                refine rP 104 121 (pt w.heap.size 81) ?_
                refine rQ 105 122 (.agg ((Mur.attC f.att.k f.att.r f.att.n f.att.t).toArray)) rfl rfl (loadR 36 (.tmp 121) rfl _ Tryd.underlying36 rfl w.heap.size 81 (by kernel_rfl) (Mur.attC f.att.k f.att.r f.att.n f.att.t) (by rw [attC_length f.att.hk f.att.hr f.att.ht]; kernel_rfl) (show World.rangeAt _ _ (0 + 81) _ from segs_rng (frmL_sz hI.ok.sum hI.ok.key f.att.hk f.att.hr f.att.ht hI.ok.root) (range_row (Chg.hp ch25 (Chg.hp ch24 (Chg.hp ch23 (Chg.hp ch22 (Chg.hp ch12 (Chg.hp ch2 hb1 trivial) trivial) trivial) trivial) trivial) trivial)) 19 4 frmL_att rfl)) ?_
                refine rP 106 123 (pt W1.heap.size 81) ?_
                refine rQ 107 124 (.agg ((Mur.attC g.att.k g.att.r g.att.n g.att.t).toArray)) rfl rfl (loadR 36 (.tmp 123) rfl _ Tryd.underlying36 rfl W1.heap.size 81 (by kernel_rfl) (Mur.attC g.att.k g.att.r g.att.n g.att.t) (by rw [attC_length g.att.hk g.att.hr g.att.ht]; kernel_rfl) (show World.rangeAt _ _ (0 + 81) _ from segs_rng (frmL_sz hJ.ok.sum hJ.ok.key g.att.hk g.att.hr g.att.ht hJ.ok.root) (range_row (Chg.hp ch25 (Chg.hp ch24 (Chg.hp ch23 (Chg.hp ch22 (Chg.hp ch12 hb2 trivial) trivial) trivial) trivial) trivial)) 19 4 frmL_att rfl)) ?_
                by_cases hpr7 : f.att = g.att
                ·refine rQ 108 125 _ rfl rfl (boolT (b := decide (f.att.k = g.att.k ∧ f.att.r = g.att.r ∧ f.att.n = g.att.n ∧ f.att.t = g.att.t)) (decide_eq_true ((Mur.Att.eq_iff f.att g.att).1 hpr7)) (run_eql_att (.tmp 122) (.tmp 124) 36 rfl f.att.hk f.att.hr f.att.ht g.att.hk g.att.hr g.att.ht f.att.hn g.att.hn (by kernel_rfl) (by kernel_rfl))) ?_
                 refine rP 109 126 (.bool true) ?_
                 refine rP 110 127 (.bool true) ?_
                 refine rP 111 128 (pt w.heap.size 178) ?_
                 refine Wk.norm 155 [(2, pt w.heap.size 0), (3, pt W1.heap.size 0), (127, .bool true), (128, pt w.heap.size 178)] (by kernel_rfl) (by kernel_rfl) (by kernel_rfl) ?_
                 intro bb10
                 refine rQ 112 129 (.agg ((b8s f.root).toArray)) rfl rfl (loadR 29 (.tmp 128) rfl _ Tryd.underlying29 rfl w.heap.size 178 (by kernel_rfl) (b8s f.root) (by rw [b8s_length, hI.ok.root]; kernel_rfl) (show World.rangeAt _ _ (0 + 178) _ from segs_row (frmL_sz hI.ok.sum hI.ok.key f.att.hk f.att.hr f.att.ht hI.ok.root) (range_row (Chg.hp ch25 (Chg.hp ch24 (Chg.hp ch23 (Chg.hp ch22 (Chg.hp ch12 (Chg.hp ch2 hb1 trivial) trivial) trivial) trivial) trivial) trivial)) 23 rfl rfl)) ?_
                 refine rP 113 130 (pt W1.heap.size 178) ?_
                 refine rQ 114 131 (.agg ((b8s g.root).toArray)) rfl rfl (loadR 29 (.tmp 130) rfl _ Tryd.underlying29 rfl W1.heap.size 178 (by kernel_rfl) (b8s g.root) (by rw [b8s_length, hJ.ok.root]; kernel_rfl) (show World.rangeAt _ _ (0 + 178) _ from segs_row (frmL_sz hJ.ok.sum hJ.ok.key g.att.hk g.att.hr g.att.ht hJ.ok.root) (range_row (Chg.hp ch25 (Chg.hp ch24 (Chg.hp ch23 (Chg.hp ch22 (Chg.hp ch12 hb2 trivial) trivial) trivial) trivial) trivial)) 23 rfl rfl)) ?_
                 by_cases hpr8 : f.root = g.root
                 ·refine rQ 115 132 (.bool true) rfl rfl (run_eql_yes digT f.root g.root hI.ok.root hJ.ok.root hpr8 _ (.tmp 129) (.tmp 131) 29 rfl (by kernel_rfl) (by kernel_rfl)) ?_
                  refine rP 116 133 (.bool true) ?_
                  refine rP 117 134 (.bool true) ?_
                  refine rP 118 135 (pt w.heap.size 210) ?_
                  refine rQ 119 136 _ rfl rfl (ld 3 135 w.heap.size 210 (.int .i64 f.chunk) (show World.cell? _ ⟨_, 0 + 210, _⟩ = _ from segs_cell (frmL_sz hI.ok.sum hI.ok.key f.att.hk f.att.hr f.att.ht hI.ok.root) (range_row (Chg.hp ch25 (Chg.hp ch24 (Chg.hp ch23 (Chg.hp ch22 (Chg.hp ch12 (Chg.hp ch2 hb1 trivial) trivial) trivial) trivial) trivial) trivial)) 24 rfl rfl)) ?_
                  refine rP 120 137 (pt W1.heap.size 210) ?_
                  refine rQ 121 138 _ rfl rfl (ld 3 137 W1.heap.size 210 (.int .i64 g.chunk) (show World.cell? _ ⟨_, 0 + 210, _⟩ = _ from segs_cell (frmL_sz hJ.ok.sum hJ.ok.key g.att.hk g.att.hr g.att.ht hJ.ok.root) (range_row (Chg.hp ch25 (Chg.hp ch24 (Chg.hp ch23 (Chg.hp ch22 (Chg.hp ch12 hb2 trivial) trivial) trivial) trivial) trivial)) 24 rfl rfl)) ?_
                  by_cases hx10 : f.chunk = g.chunk
                  ·refine rQ 122 139 _ rfl rfl (qboolT (b := (f.chunk == g.chunk)) (beq_iff_eq.2 (by first | exact hx10 | omega))) ?_
                   refine rP 123 140 (.bool true) ?_
                   refine rP 124 141 (.bool true) ?_
                   refine rP 125 142 (pt w.heap.size 211) ?_
                   refine Wk.norm 155 [(2, pt w.heap.size 0), (3, pt W1.heap.size 0), (141, .bool true), (142, pt w.heap.size 211)] (by kernel_rfl) (by kernel_rfl) (by kernel_rfl) ?_
                   intro bb11
                   refine rQ 126 143 _ rfl rfl (ld 22 142 w.heap.size 211 (.slice z.y.A z.y.n z.y.c) (show World.cell? _ ⟨_, 0 + 211, _⟩ = _ from segs_cell (frmL_sz hI.ok.sum hI.ok.key f.att.hk f.att.hr f.att.ht hI.ok.root) (range_row (Chg.hp ch25 (Chg.hp ch24 (Chg.hp ch23 (Chg.hp ch22 (Chg.hp ch12 (Chg.hp ch2 hb1 trivial) trivial) trivial) trivial) trivial) trivial)) 25 rfl rfl)) ?_
                   refine rP 127 144 (pt W1.heap.size 211) ?_
                   refine rQ 128 145 _ rfl rfl (ld 22 144 W1.heap.size 211 (.slice y.y.A y.y.n y.y.c) (show World.cell? _ ⟨_, 0 + 211, _⟩ = _ from segs_cell (frmL_sz hJ.ok.sum hJ.ok.key g.att.hk g.att.hr g.att.ht hJ.ok.root) (range_row (Chg.hp ch25 (Chg.hp ch24 (Chg.hp ch23 (Chg.hp ch22 (Chg.hp ch12 hb2 trivial) trivial) trivial) trivial) trivial)) 25 rfl rfl)) ?_
                   refine rC 129 146 25 [.tmp 143, .tmp 145] #[22, 22] [.slice z.y.A z.y.n z.y.c, .slice y.y.A y.y.n y.y.c] ?_
                   have kk7 := Chg.step kk6 ch25 trivial
                   refine (BEqual_any z.y.A z.y.n z.y.c y.y.A y.y.n y.y.c f.byt g.byt W26 (byt_chg hL.byt kk7 (fun g off e hl => trivial)) (byt_chg hM.byt kk7 (fun g off e hl => trivial))).mono ?_
                   by_cases hpr9 : f.byt = g.byt
                   ·rw [decide_eq_true hpr9]
                    rintro _ W27 ⟨rfl, ch26⟩
                    have zz26 := ch26.size
                    refine ⟨_, rfl, ?_⟩
                    refine rP 130 147 (.bool true) ?_
                    refine rP 131 148 (.bool true) ?_
                    refine rP 132 149 (pt w.heap.size 212) ?_
                    refine rQ 133 150 _ rfl rfl (ld 37 149 w.heap.size 212 (.slice z.f.A z.f.n z.f.c) (show World.cell? _ ⟨_, 0 + 212, _⟩ = _ from segs_cell (frmL_sz hI.ok.sum hI.ok.key f.att.hk f.att.hr f.att.ht hI.ok.root) (range_row (Chg.hp ch26 (Chg.hp ch25 (Chg.hp ch24 (Chg.hp ch23 (Chg.hp ch22 (Chg.hp ch12 (Chg.hp ch2 hb1 trivial) trivial) trivial) trivial) trivial) trivial) trivial)) 26 rfl rfl)) ?_
                    refine rP 134 151 (pt W1.heap.size 212) ?_
                    refine rQ 135 152 _ rfl rfl (ld 37 151 W1.heap.size 212 (.slice y.f.A y.f.n y.f.c) (show World.cell? _ ⟨_, 0 + 212, _⟩ = _ from segs_cell (frmL_sz hJ.ok.sum hJ.ok.key g.att.hk g.att.hr g.att.ht hJ.ok.root) (range_row (Chg.hp ch26 (Chg.hp ch25 (Chg.hp ch24 (Chg.hp ch23 (Chg.hp ch22 (Chg.hp ch12 hb2 trivial) trivial) trivial) trivial) trivial) trivial)) 26 rfl rfl)) ?_
                    refine rC 136 153 27 [.tmp 150, .tmp 152] #[37, 37] [.slice z.f.A z.f.n z.f.c, .slice y.f.A y.f.n y.f.c] ?_
                    have kk8 := Chg.step kk7 ch26 trivial
                    refine (EqualD_any z.f.A z.f.n z.f.c y.f.A y.f.n y.f.c f.prf g.prf W27 (LiesF.chg hL kk8 hLin_).prf (LiesF.chg hM kk8 hMin_).prf hI.ok.prf hJ.ok.prf (by omega)).mono ?_
                    by_cases hpr10 : f.prf = g.prf
                    ·rw [decide_eq_true hpr10]
                     rintro _ W28 ⟨rfl, ch27⟩
                     have zz27 := ch27.size
                     refine ⟨_, rfl, ?_⟩
                     refine rP 137 154 (.bool true) ?_
                     refine rP 138 4 (.bool true) ?_
                     refine rEnd 139 rfl (nxt (wp_ret ?_))
                     have kk9 := Chg.step kk8 ch27 trivial
                     refine rt (.bool true) ?_
                     exact ⟨_, rfl, ⟨fun _ => Mur.frm_eq (by first | exact hx1 | omega) (by first | exact hx2 | omega) (by first | exact hx3 | omega) (by first | exact hx4 | omega) (by first | exact hx5 | omega) (by first | exact hx6 | omega) (by first | exact hx7 | omega) (hpr1) (by first | exact hx8 | omega) (hpr2) (hpr3) (by first | exact hx9 | omega) (hpr4) (hpr5) (hpr6) (hpr7) (hpr8) (by first | exact hx10 | omega) (hpr9) (hpr10), fun _ => rfl⟩, kk9⟩
                    rw [decide_eq_false hpr10]
                    rintro _ W29 ⟨rfl, ch28⟩
                    have zz28 := ch28.size
                    refine ⟨_, rfl, ?_⟩
                    refine rP 137 154 (.bool false) ?_
                    refine rP 138 4 (.bool false) ?_
                    refine rEnd 139 rfl (nxt (wp_ret ?_))
                    have kk10 := Chg.step kk8 ch28 trivial
                    refine rt (.bool false) ?_
                    exact ⟨_, rfl, ⟨fun h_ => (by cases h_), fun e_ => absurd (congrArg (fun x_ : Frm => x_.prf) e_) (hpr10)⟩, kk10⟩
                   rw [decide_eq_false hpr9]
                   rintro _ W30 ⟨rfl, ch29⟩
                   have zz29 := ch29.size
                   refine ⟨_, rfl, ?_⟩
                   refine Wk.many 155 8 130 [(141, .bool true), (146, .bool false)] 154 (.bool false) (by kernel_rfl) (by kernel_rfl) (by kernel_rfl) (by kernel_rfl) ?_
                   intro bb12
                   refine rP 138 4 (.bool false) ?_
                   refine rEnd 139 rfl (nxt (wp_ret ?_))
                   have kk11 := Chg.step kk7 ch29 trivial
                   refine rt (.bool false) ?_
                   exact ⟨_, rfl, ⟨fun h_ => (by cases h_), fun e_ => absurd (congrArg (fun x_ : Frm => x_.byt) e_) (hpr9)⟩, kk11⟩
                  refine rQ 122 139 _ rfl rfl (qboolF (b := (f.chunk == g.chunk)) (beq_eq_false_iff_ne.2 (by first | exact hx10 | omega))) ?_
                  refine Wk.many 155 15 123 [(134, .bool true), (139, .bool false)] 154 (.bool false) (by kernel_rfl) (by kernel_rfl) (by kernel_rfl) (by kernel_rfl) ?_
                  intro bb13
                  refine rP 138 4 (.bool false) ?_
                  refine rEnd 139 rfl (nxt (wp_ret ?_))
                  have kk12 := Chg.step kk6 ch25 trivial
                  refine rt (.bool false) ?_
                  exact ⟨_, rfl, ⟨fun h_ => (by cases h_), fun e_ => absurd (congrArg (fun x_ : Frm => x_.chunk) e_) (by first | exact hx10 | omega)⟩, kk12⟩
                 refine rQ 115 132 (.bool false) rfl rfl (run_eql_no digT f.root g.root hI.ok.root hJ.ok.root hpr8 _ (.tmp 129) (.tmp 131) 29 rfl (by kernel_rfl) (by kernel_rfl)) ?_
                 refine Wk.many 155 22 116 [(127, .bool true), (132, .bool false)] 154 (.bool false) (by kernel_rfl) (by kernel_rfl) (by kernel_rfl) (by kernel_rfl) ?_
                 intro bb14
                 refine rP 138 4 (.bool false) ?_
                 refine rEnd 139 rfl (nxt (wp_ret ?_))
                 have kk13 := Chg.step kk6 ch25 trivial
                 refine rt (.bool false) ?_
                 exact ⟨_, rfl, ⟨fun h_ => (by cases h_), fun e_ => absurd (congrArg (fun x_ : Frm => x_.root) e_) (hpr8)⟩, kk13⟩
                refine rQ 108 125 _ rfl rfl (boolF (b := decide (f.att.k = g.att.k ∧ f.att.r = g.att.r ∧ f.att.n = g.att.n ∧ f.att.t = g.att.t)) (decide_eq_false (fun q_ => hpr7 ((Mur.Att.eq_iff f.att g.att).2 q_))) (run_eql_att (.tmp 122) (.tmp 124) 36 rfl f.att.hk f.att.hr f.att.ht g.att.hk g.att.hr g.att.ht f.att.hn g.att.hn (by kernel_rfl) (by kernel_rfl))) ?_
                refine Wk.many 155 29 109 [(120, .bool true), (125, .bool false)] 154 (.bool false) (by kernel_rfl) (by kernel_rfl) (by kernel_rfl) (by kernel_rfl) ?_
                intro bb15
                refine rP 138 4 (.bool false) ?_
                refine rEnd 139 rfl (nxt (wp_ret ?_))
                have kk14 := Chg.step kk6 ch25 trivial
                refine rt (.bool false) ?_
                exact ⟨_, rfl, ⟨fun h_ => (by cases h_), fun e_ => absurd (congrArg (fun x_ : Frm => x_.att) e_) (hpr7)⟩, kk14⟩
               refine rQ 101 118 _ rfl rfl (boolF (b := decide (f.cKey = g.cKey ∧ f.cNode = g.cNode ∧ f.cInc = g.cInc ∧ f.cCnt = g.cCnt ∧ f.cGone = g.cGone)) (decide_eq_false hpr6) (run_eql_claim (.tmp 115) (.tmp 117) 34 rfl hI.ok.key hJ.ok.key (wf64 hI.cNo.1 hI.cNo.2) (wf64 hJ.cNo.1 hJ.cNo.2) hI.ok.inc hJ.ok.inc hI.ok.cnt hJ.ok.cnt (by kernel_rfl) (by kernel_rfl))) ?_
               refine Wk.many 155 36 102 [(113, .bool true), (118, .bool false)] 154 (.bool false) (by kernel_rfl) (by kernel_rfl) (by kernel_rfl) (by kernel_rfl) ?_
               intro bb16
               refine rP 138 4 (.bool false) ?_
               refine rEnd 139 rfl (nxt (wp_ret ?_))
               have kk15 := Chg.step kk6 ch25 trivial
               refine rt (.bool false) ?_
               exact ⟨_, rfl, ⟨fun h_ => (by cases h_), fun e_ => absurd ⟨(congrArg (fun x_ : Frm => x_.cKey) e_), (congrArg (fun x_ : Frm => x_.cNode) e_), (congrArg (fun x_ : Frm => x_.cInc) e_), (congrArg (fun x_ : Frm => x_.cCnt) e_), (congrArg (fun x_ : Frm => x_.cGone) e_)⟩ (hpr6)⟩, kk15⟩
              refine rQ 94 111 _ rfl rfl (boolF (b := decide (f.gos.ans = g.gos.ans)) (decide_eq_false hpr5) (run_eql_bool (.tmp 108) (.tmp 110) 4 rfl f.gos.ans g.gos.ans (by kernel_rfl) (by kernel_rfl))) ?_
              refine Wk.many 155 43 95 [(106, .bool true), (111, .bool false)] 154 (.bool false) (by kernel_rfl) (by kernel_rfl) (by kernel_rfl) (by kernel_rfl) ?_
              intro bb17
              refine rP 138 4 (.bool false) ?_
              refine rEnd 139 rfl (nxt (wp_ret ?_))
              have kk16 := Chg.step kk6 ch25 trivial
              refine rt (.bool false) ?_
              exact ⟨_, rfl, ⟨fun h_ => (by cases h_), fun e_ => absurd (congrArg (fun x_ : Frm => x_.gos.ans) e_) (hpr5)⟩, kk16⟩
             rw [decide_eq_false hpr4]
             rintro _ W31 ⟨rfl, ch30⟩
             have zz30 := ch30.size
             refine ⟨_, rfl, ?_⟩
             refine Wk.many 155 50 88 [(99, .bool true), (104, .bool false)] 154 (.bool false) (by kernel_rfl) (by kernel_rfl) (by kernel_rfl) (by kernel_rfl) ?_
             intro bb18
             refine rP 138 4 (.bool false) ?_
             refine rEnd 139 rfl (nxt (wp_ret ?_))
             have kk17 := Chg.step kk6 ch30 trivial
             refine rt (.bool false) ?_
             exact ⟨_, rfl, ⟨fun h_ => (by cases h_), fun e_ => absurd (congrArg (fun x_ : Frm => x_.gos.items) e_) (hpr4)⟩, kk17⟩
            refine rQ 80 97 _ rfl rfl (qboolF (b := (f.gos.cnt == g.gos.cnt)) (beq_eq_false_iff_ne.2 (by first | exact hx9 | omega))) ?_
            refine Wk.many 155 57 81 [(92, .bool true), (97, .bool false)] 154 (.bool false) (by kernel_rfl) (by kernel_rfl) (by kernel_rfl) (by kernel_rfl) ?_
            intro bb19
            refine rP 138 4 (.bool false) ?_
            refine rEnd 139 rfl (nxt (wp_ret ?_))
            have kk18 := Chg.step kk5 ch24 trivial
            refine rt (.bool false) ?_
            exact ⟨_, rfl, ⟨fun h_ => (by cases h_), fun e_ => absurd (congrArg (fun x_ : Frm => x_.gos.cnt) e_) (by first | exact hx9 | omega)⟩, kk18⟩
           refine rQ 73 90 (.bool false) rfl rfl (run_eql_no digT f.gos.sum g.gos.sum hI.ok.sum hJ.ok.sum hpr3 _ (.tmp 87) (.tmp 89) 29 rfl (by kernel_rfl) (by kernel_rfl)) ?_
           refine Wk.many 155 64 74 [(85, .bool true), (90, .bool false)] 154 (.bool false) (by kernel_rfl) (by kernel_rfl) (by kernel_rfl) (by kernel_rfl) ?_
           intro bb20
           refine rP 138 4 (.bool false) ?_
           refine rEnd 139 rfl (nxt (wp_ret ?_))
           have kk19 := Chg.step kk5 ch24 trivial
           refine rt (.bool false) ?_
           exact ⟨_, rfl, ⟨fun h_ => (by cases h_), fun e_ => absurd (congrArg (fun x_ : Frm => x_.gos.sum) e_) (hpr3)⟩, kk19⟩
          rw [decide_eq_false hpr2]
          rintro _ W32 ⟨rfl, ch31⟩
          have zz31 := ch31.size
          refine ⟨_, rfl, ?_⟩
          refine Wk.many 155 71 67 [(78, .bool true), (83, .bool false)] 154 (.bool false) (by kernel_rfl) (by kernel_rfl) (by kernel_rfl) (by kernel_rfl) ?_
          intro bb21
          refine rP 138 4 (.bool false) ?_
          refine rEnd 139 rfl (nxt (wp_ret ?_))
          have kk20 := Chg.step kk5 ch31 trivial
          refine rt (.bool false) ?_
          exact ⟨_, rfl, ⟨fun h_ => (by cases h_), fun e_ => absurd (congrArg (fun x_ : Frm => x_.gos.pre) e_) (hpr2)⟩, kk20⟩
         refine rQ 59 76 _ rfl rfl (qboolF (b := (((f.gos.kind.toNat : Nat) : Int) == ((g.gos.kind.toNat : Nat) : Int))) (beq_eq_false_iff_ne.2 (by first | exact hx8 | omega))) ?_
         refine Wk.many 155 78 60 [(71, .bool true), (76, .bool false)] 154 (.bool false) (by kernel_rfl) (by kernel_rfl) (by kernel_rfl) (by kernel_rfl) ?_
         intro bb22
         refine rP 138 4 (.bool false) ?_
         refine rEnd 139 rfl (nxt (wp_ret ?_))
         have kk21 := Chg.step kk4 ch23 trivial
         refine rt (.bool false) ?_
         exact ⟨_, rfl, ⟨fun h_ => (by cases h_), fun e_ => absurd (congrArg (fun x_ : Frm => ((x_.gos.kind.toNat : Nat) : Int)) e_) (by first | exact hx8 | omega)⟩, kk21⟩
        rw [decide_eq_false hpr1]
        rintro _ W33 ⟨rfl, ch32⟩
        have zz32 := ch32.size
        refine ⟨_, rfl, ?_⟩
        refine Wk.many 155 85 53 [(64, .bool true), (69, .bool false)] 154 (.bool false) (by kernel_rfl) (by kernel_rfl) (by kernel_rfl) (by kernel_rfl) ?_
        intro bb23
        refine rP 138 4 (.bool false) ?_
        refine rEnd 139 rfl (nxt (wp_ret ?_))
        have kk22 := Chg.step kk4 ch32 trivial
        refine rt (.bool false) ?_
        exact ⟨_, rfl, ⟨fun h_ => (by cases h_), fun e_ => absurd (congrArg (fun x_ : Frm => x_.pUpd) e_) (hpr1)⟩, kk22⟩
       refine rQ 45 62 _ rfl rfl (qboolF (b := (f.pAbout == g.pAbout)) (beq_eq_false_iff_ne.2 (by first | exact hx7 | omega))) ?_
       refine Wk.many 155 92 46 [(57, .bool true), (62, .bool false)] 154 (.bool false) (by kernel_rfl) (by kernel_rfl) (by kernel_rfl) (by kernel_rfl) ?_
       intro bb24
       refine rP 138 4 (.bool false) ?_
       refine rEnd 139 rfl (nxt (wp_ret ?_))
       have kk23 : Chg [] w W1 := Chg.step ((Chg.refl _).more (by simp)) ch1 trivial
       have kk24 := Chg.step kk23 ch2 trivial
       have kk25 := Chg.step kk24 ch12 trivial
       have kk26 := Chg.step kk25 ch22 trivial
       refine rt (.bool false) ?_
       exact ⟨_, rfl, ⟨fun h_ => (by cases h_), fun e_ => absurd (congrArg (fun x_ : Frm => x_.pAbout) e_) (by first | exact hx7 | omega)⟩, kk26⟩
      refine rQ 38 55 _ rfl rfl (qboolF (b := (((f.pSeq : Nat) : Int) == ((g.pSeq : Nat) : Int))) (beq_eq_false_iff_ne.2 (by first | exact hx6 | omega))) ?_
      refine Wk.many 155 99 39 [(50, .bool true), (55, .bool false)] 154 (.bool false) (by kernel_rfl) (by kernel_rfl) (by kernel_rfl) (by kernel_rfl) ?_
      intro bb25
      refine rP 138 4 (.bool false) ?_
      refine rEnd 139 rfl (nxt (wp_ret ?_))
      have kk27 : Chg [] w W1 := Chg.step ((Chg.refl _).more (by simp)) ch1 trivial
      have kk28 := Chg.step kk27 ch2 trivial
      have kk29 := Chg.step kk28 ch12 trivial
      have kk30 := Chg.step kk29 ch22 trivial
      refine rt (.bool false) ?_
      exact ⟨_, rfl, ⟨fun h_ => (by cases h_), fun e_ => absurd (congrArg (fun x_ : Frm => ((x_.pSeq : Nat) : Int)) e_) (by first | exact hx6 | omega)⟩, kk30⟩
     refine rQ 31 48 _ rfl rfl (qboolF (b := (((f.pKind.toNat : Nat) : Int) == ((g.pKind.toNat : Nat) : Int))) (beq_eq_false_iff_ne.2 (by first | exact hx5 | omega))) ?_
     refine Wk.many 155 106 32 [(43, .bool true), (48, .bool false)] 154 (.bool false) (by kernel_rfl) (by kernel_rfl) (by kernel_rfl) (by kernel_rfl) ?_
     intro bb26
     refine rP 138 4 (.bool false) ?_
     refine rEnd 139 rfl (nxt (wp_ret ?_))
     have kk31 : Chg [] w W1 := Chg.step ((Chg.refl _).more (by simp)) ch1 trivial
     have kk32 := Chg.step kk31 ch2 trivial
     have kk33 := Chg.step kk32 ch12 trivial
     have kk34 := Chg.step kk33 ch22 trivial
     refine rt (.bool false) ?_
     exact ⟨_, rfl, ⟨fun h_ => (by cases h_), fun e_ => absurd (congrArg (fun x_ : Frm => ((x_.pKind.toNat : Nat) : Int)) e_) (by first | exact hx5 | omega)⟩, kk34⟩
    refine rQ 24 41 _ rfl rfl (qboolF (b := (f.pTo == g.pTo)) (beq_eq_false_iff_ne.2 (by first | exact hx4 | omega))) ?_
    refine Wk.many 155 113 25 [(36, .bool true), (41, .bool false)] 154 (.bool false) (by kernel_rfl) (by kernel_rfl) (by kernel_rfl) (by kernel_rfl) ?_
    intro bb27
    refine rP 138 4 (.bool false) ?_
    refine rEnd 139 rfl (nxt (wp_ret ?_))
    have kk35 : Chg [] w W1 := Chg.step ((Chg.refl _).more (by simp)) ch1 trivial
    have kk36 := Chg.step kk35 ch2 trivial
    have kk37 := Chg.step kk36 ch12 trivial
    have kk38 := Chg.step kk37 ch22 trivial
    refine rt (.bool false) ?_
    exact ⟨_, rfl, ⟨fun h_ => (by cases h_), fun e_ => absurd (congrArg (fun x_ : Frm => x_.pTo) e_) (by first | exact hx4 | omega)⟩, kk38⟩
   refine rQ 17 34 _ rfl rfl (qboolF (b := (f.dst == g.dst)) (beq_eq_false_iff_ne.2 (by first | exact hx3 | omega))) ?_
   refine Wk.many 155 120 18 [(29, .bool true), (34, .bool false)] 154 (.bool false) (by kernel_rfl) (by kernel_rfl) (by kernel_rfl) (by kernel_rfl) ?_
   intro bb28
   refine rP 138 4 (.bool false) ?_
   refine rEnd 139 rfl (nxt (wp_ret ?_))
   have kk39 : Chg [] w W1 := Chg.step ((Chg.refl _).more (by simp)) ch1 trivial
   have kk40 := Chg.step kk39 ch2 trivial
   have kk41 := Chg.step kk40 ch12 trivial
   have kk42 := Chg.step kk41 ch22 trivial
   refine rt (.bool false) ?_
   exact ⟨_, rfl, ⟨fun h_ => (by cases h_), fun e_ => absurd (congrArg (fun x_ : Frm => x_.dst) e_) (by first | exact hx3 | omega)⟩, kk42⟩
  refine rQ 10 27 _ rfl rfl (qboolF (b := (f.frm == g.frm)) (beq_eq_false_iff_ne.2 (by first | exact hx2 | omega))) ?_
  refine Wk.many 155 127 11 [(22, .bool true), (27, .bool false)] 154 (.bool false) (by kernel_rfl) (by kernel_rfl) (by kernel_rfl) (by kernel_rfl) ?_
  intro bb29
  refine rP 138 4 (.bool false) ?_
  refine rEnd 139 rfl (nxt (wp_ret ?_))
  have kk43 : Chg [] w W1 := Chg.step ((Chg.refl _).more (by simp)) ch1 trivial
  have kk44 := Chg.step kk43 ch2 trivial
  have kk45 := Chg.step kk44 ch12 trivial
  have kk46 := Chg.step kk45 ch22 trivial
  refine rt (.bool false) ?_
  exact ⟨_, rfl, ⟨fun h_ => (by cases h_), fun e_ => absurd (congrArg (fun x_ : Frm => x_.frm) e_) (by first | exact hx2 | omega)⟩, kk46⟩
 refine rQ 4 21 _ rfl rfl (qboolF (b := (((f.kind.toNat : Nat) : Int) == ((g.kind.toNat : Nat) : Int))) (beq_eq_false_iff_ne.2 (by first | exact hx1 | omega))) ?_
 refine Wk.many 155 133 5 [(21, .bool false)] 154 (.bool false) (by kernel_rfl) (by kernel_rfl) (by kernel_rfl) (by kernel_rfl) ?_
 intro bb30
 refine rP 138 4 (.bool false) ?_
 refine rEnd 139 rfl (nxt (wp_ret ?_))
 have kk47 : Chg [] w W1 := Chg.step ((Chg.refl _).more (by simp)) ch1 trivial
 have kk48 := Chg.step kk47 ch2 trivial
 have kk49 := Chg.step kk48 ch12 trivial
 have kk50 := Chg.step kk49 ch22 trivial
 refine rt (.bool false) ?_
 exact ⟨_, rfl, ⟨fun h_ => (by cases h_), fun e_ => absurd (congrArg (fun x_ : Frm => ((x_.kind.toNat : Nat) : Int)) e_) (by first | exact hx1 | omega)⟩, kk50⟩
end Go.Proofs.YtgbadghjnpbiaaaDoor
namespace Go.Proofs.YtgbadghjnpbiaaaDoor
open Go.RowKit Wk
open Mur (b8s Byt Own8 Seg Segs flat cutA attC Att SlA OwnA rowA)
set_option maxRecDepth 100000
set_option maxHeartbeats 4000000
def Idx15_F1 (b : Array Value) (u0 : Value) (u1 : Value) (u7 : Value) (u8 : Value) : Act := ⟨#[u0, u1, gd b 2, gd b 3, gd b 4, gd b 5, gd b 6, u7, u8, gd b 9, gd b 10, gd b 11, gd b 12, gd b 13, gd b 14, gd b 15, gd b 16, gd b 17, gd b 18], []⟩
theorem over_any (x : UInt8) (w : World) : Calls Tryd.prog 89 #[.int .u8 ((x.toNat : Nat) : Int)] w fun e w' => e = .returned (.bool (decide (15 < x))) ∧ w = w' := by
 refine calls_of_wp Tryd.func89 rfl ?_
 refine wp_seq (reg ?_)
 refine rP 0 2 (.bool false) ?_
 refine rEnd 1 rfl (nxt (wp_seq (reg ?_)))
 refine rP 0 3 (.int .u8 ((x.toNat : Nat) : Int)) ?_
 by_cases hx1 : ((x.toNat : Nat) : Int) > (15 : Int)
 ·refine rQ 1 4 _ rfl rfl (qboolT (b := decide (((x.toNat : Nat) : Int) > (15 : Int))) (decide_eq_true (by first | exact hx1 | omega))) ?_
  refine rP 2 2 (.bool true) ?_
  refine rEnd 3 rfl (nxt (wp_ret ?_))
  refine rt (.bool true) ?_
  exact ⟨by rw [decide_eq_true (show 15 < x by rw [UInt8.lt_iff_toNat_lt]; show 15 < x.toNat; omega)], rfl⟩
 refine rQ 1 4 _ rfl rfl (qboolF (b := decide (((x.toNat : Nat) : Int) > (15 : Int))) (decide_eq_false (by first | exact hx1 | omega))) ?_
 refine rP 2 2 (.bool false) ?_
 refine rEnd 3 rfl (nxt (wp_ret ?_))
 refine rt (.bool false) ?_
 exact ⟨by rw [decide_eq_false (show ¬ 15 < x by rw [UInt8.lt_iff_toNat_lt]; show ¬ 15 < x.toNat; omega)], rfl⟩
theorem index15_any (l : List UInt8) (A : Option Addr) (n c : Nat) (w : World) (hb : Byt w A n l) (hn : n ≤ 9223372036854775807) : Calls Tryd.prog 96 #[.slice A n c, .func (.func 89) #[] #[]] w fun e w' => ∃ r : Int, e = .returned (.int .i64 r) ∧ (0 ≤ r ↔ (l.all fun x => decide (x ≤ 15)) = false) ∧ w = w' := by
 have HB := Go.Lib.hid hb
 clear hb
 refine calls_of_wp Tryd.func96 rfl ?_
 refine wp_seq (reg ?_)
 refine rP 0 4 (.int .i64 0) ?_
 refine rEnd 1 rfl (nxt (wp_seq (wp_seq (reg ?_))))
 refine rP 0 6 (.slice A n c) ?_
 refine rP 1 7 (.int .i64 ((n : Nat) : Int)) ?_
 refine rP 2 8 (.int .i64 0) ?_
 refine rEnd 3 rfl (nxt (wp_block ?_))
 refine Wk.loop (fun m_ a wr => ∃ (i : Nat), m_ = n - i ∧ a = Idx15_F1 a.tmps (.slice A n c) (.func (.func 89) #[] #[]) (.int .i64 ((n : Nat) : Int)) (.int .i64 ((i : Nat) : Int)) ∧ i ≤ n ∧ (∀ j, j < i → (l.getD j 0) ≤ 15) ∧ wr = w) (n - 0) ?_ ?_
 ·refine ⟨0, rfl, by kernel_rfl, Nat.zero_le _, (fun j h => by omega), rfl⟩
 rintro mm1 aa1 W1 ⟨i, hmm1, hF1, hi, hall, hw⟩
 generalize aa1.tmps = bb1 at hF1
 subst hF1
 subst hw
 by_cases hlt : i < n
 ·obtain ⟨q, off, rfl, hcc⟩ := HB.out.2 (by omega)
  refine wp_seq (reg ?_)
  refine rQ 0 9 _ rfl rfl (qboolT (b := decide (((i : Nat) : Int) < ((n : Nat) : Int))) (decide_eq_true (by omega))) ?_
  refine rEnd 1 rfl (nxt (wp_seq (wp_cond_true (by kernel_rfl) (wp_skip (nxt (wp_seq (wp_block (wp_seq (reg ?_)))))))))
  refine rP 0 10 (.int .i64 ((i : Nat) : Int)) ?_
  refine rP 1 5 (.int .i64 ((i : Nat) : Int)) ?_
  refine rEnd 2 rfl (nxt (wp_seq (reg ?_)))
  refine rP 0 11 (.func (.func 89) #[] #[]) ?_
  refine rP 1 12 (.slice (some ⟨q, off, none⟩) n c) ?_
  refine rP 2 13 (.int .i64 ((i : Nat) : Int)) ?_
  refine rQ 3 14 (pt q (off + i * 1)) rfl rfl (index_sl 22 5 (.tmp 12) (.tmp 13) rfl Tryd.underlying22 1 (by kernel_rfl) q off n c i .i64 (by kernel_rfl) (by kernel_rfl) (by omega)) ?_
  refine rQ 4 15 _ rfl rfl (ld 5 14 q (off + i * 1) (.int .u8 (((l.getD i 0).toNat : Nat) : Int)) (Mur.byt_cell HB.out i (by omega))) ?_
  refine Wk.rCallV 5 (some 16) (.tmp 11) 89 #[] [.tmp 15] #[5] [.int .u8 (((l.getD i 0).toNat : Nat) : Int)] rfl rfl (by kernel_rfl) rfl (by kernel_rfl) (by kernel_rfl) (by kernel_rfl) ?_
  refine (over_any (l.getD i 0) W1).mono ?_
  by_cases hov1 : 15 < (l.getD i 0)
  ·rw [decide_eq_true hov1]
   rintro _ _ ⟨rfl, rfl⟩
   refine ⟨_, rfl, ?_⟩
   refine rEnd 6 rfl (nxt (wp_cond_true (by kernel_rfl) (wp_seq (reg ?_))))
   refine rP 0 17 (.int .i64 ((i : Nat) : Int)) ?_
   refine rP 1 4 (.int .i64 ((i : Nat) : Int)) ?_
   refine rEnd 2 rfl (nxt (wp_ret (inR (thR (thR (inR (thR ?_)))))))
   refine rt (.int .i64 ((i : Nat) : Int)) ?_
   exact ⟨_, rfl, by rw [show (l.all fun x => decide (x ≤ 15)) = false from Mur.some15 HB.out.1 hlt hov1]; simp, rfl⟩
  rw [decide_eq_false hov1]
  rintro _ _ ⟨rfl, rfl⟩
  refine ⟨_, rfl, ?_⟩
  refine rEnd 6 rfl (nxt (wp_cond_false (by kernel_rfl) (wp_skip (inN (nxt (reg ?_))))))
  refine rQ 0 18 _ rfl rfl (qint64 (n := ((i : Nat) : Int) + 1) (z := ((i + 1 : Nat) : Int)) (by omega) (by omega) (by omega)) ?_
  refine rP 1 8 (.int .i64 ((i + 1 : Nat) : Int)) ?_
  refine rEnd 2 rfl (nxt ?_)
  refine ⟨_, ?_, i + 1, rfl, by kernel_rfl, (by omega), (fun j hj => by rcases Nat.lt_or_ge j i with h1 | h1 <;> first | exact hall j h1 | (obtain rfl : j = i := (by omega); exact UInt8.not_lt.1 hov1)), rfl⟩
  omega
 refine wp_seq (reg ?_)
 refine rQ 0 9 _ rfl rfl (qboolF (b := decide (((i : Nat) : Int) < ((n : Nat) : Int))) (decide_eq_false (by omega))) ?_
 refine rEnd 1 rfl (nxt (wp_seq (wp_cond_false (by kernel_rfl) (wp_exit (thX (thX (inX (nxt (wp_seq (reg ?_))))))))))
 refine rP 0 4 (.int .i64 (-1)) ?_
 refine rEnd 1 rfl (nxt (wp_ret ?_))
 refine rt (.int .i64 (-1)) ?_
 exact ⟨_, rfl, by rw [show (l.all fun x => decide (x ≤ 15)) = true from Mur.all15 HB.out.1 (fun j hj => hall j (by omega))]; simp, rfl⟩
theorem contains15_any (l : List UInt8) (A : Option Addr) (n c : Nat) (w : World) (hb : Byt w A n l) (hn : n ≤ 9223372036854775807) : Calls Tryd.prog 88 #[.slice A n c, .func (.func 89) #[] #[]] w fun e w' => e = .returned (.bool (!(l.all fun x => decide (x ≤ 15)))) ∧ w = w' := by
 refine calls_of_wp Tryd.func88 rfl ?_
 refine wp_seq (reg ?_)
 refine rP 0 4 (.bool false) ?_
 refine rEnd 1 rfl (nxt (wp_seq (reg ?_)))
 refine rP 0 5 (.slice A n c) ?_
 refine rP 1 6 (.func (.func 89) #[] #[]) ?_
 refine rC 2 7 96 [.tmp 5, .tmp 6] #[22, 61] [.slice A n c, .func (.func 89) #[] #[]] ?_
 refine (index15_any l A n c w hb (by omega)).mono ?_
 rintro _ _ ⟨r_1, rfl, hr1, rfl⟩
 refine ⟨_, rfl, ?_⟩
 by_cases hx1 : r_1 ≥ (0 : Int)
 ·refine rQ 3 8 _ rfl rfl (qboolT (b := decide (r_1 ≥ (0 : Int))) (decide_eq_true (by first | exact hx1 | omega))) ?_
  refine rP 4 4 (.bool true) ?_
  refine rEnd 5 rfl (nxt (wp_ret ?_))
  refine rt (.bool true) ?_
  exact ⟨by rw [show (l.all fun x => decide (x ≤ 15)) = false from by first | exact hr1.1 (by omega) | (cases hq : (l.all fun x => decide (x ≤ 15)) <;> first | rfl | exact absurd (hr1.2 hq) (by omega))]; rfl, rfl⟩
 refine rQ 3 8 _ rfl rfl (qboolF (b := decide (r_1 ≥ (0 : Int))) (decide_eq_false (by first | exact hx1 | omega))) ?_
 refine rP 4 4 (.bool false) ?_
 refine rEnd 5 rfl (nxt (wp_ret ?_))
 refine rt (.bool false) ?_
 exact ⟨by rw [show (l.all fun x => decide (x ≤ 15)) = true from by first | exact hr1.1 (by omega) | (cases hq : (l.all fun x => decide (x ≤ 15)) <;> first | rfl | exact absurd (hr1.2 hq) (by omega))]; rfl, rfl⟩
theorem IsPrefix_any (l : List UInt8) (A : Option Addr) (n c : Nat) (w : World) (hb : Byt w A n l) (hn : n ≤ 9223372036854775807) : Calls Tryd.prog 71 #[.slice A n c] w fun e w' => e = .returned (.bool (Mur.isPre l)) ∧ w = w' := by
 refine calls_of_wp Tryd.func71 rfl ?_
 refine wp_seq (reg ?_)
 refine rP 0 2 (.bool false) ?_
 refine rEnd 1 rfl (nxt (wp_seq (reg ?_)))
 refine rP 0 3 (.slice A n c) ?_
 refine rP 1 4 (.int .i64 ((n : Nat) : Int)) ?_
 by_cases hx1 : ((n : Nat) : Int) ≤ (8 : Int)
 ·refine rQ 2 5 _ rfl rfl (qboolT (b := decide (((n : Nat) : Int) ≤ (8 : Int))) (decide_eq_true (by first | exact hx1 | omega))) ?_
  refine rP 3 6 (.bool true) ?_
  refine rP 4 7 (.slice A n c) ?_
  refine rC 5 8 88 [.tmp 7, .func 89] #[22, 61] [.slice A n c, .func (.func 89) #[] #[]] ?_
  refine (contains15_any l A n c w hb (by omega)).mono ?_
  cases hal1 : (l.all fun x => decide (x ≤ 15))
  ·rintro _ _ ⟨rfl, rfl⟩
   refine ⟨_, rfl, ?_⟩
   refine rP 6 9 (.bool false) ?_
   refine rP 7 10 (.bool false) ?_
   refine rP 8 2 (.bool false) ?_
   refine rEnd 9 rfl (nxt (wp_ret ?_))
   refine rt (.bool false) ?_
   exact ⟨by rw [show Mur.isPre l = false from by unfold Mur.isPre; rw [hal1]; rfl], rfl⟩
  rintro _ _ ⟨rfl, rfl⟩
  refine ⟨_, rfl, ?_⟩
  refine rP 6 9 (.bool true) ?_
  refine rP 7 10 (.bool true) ?_
  refine rP 8 2 (.bool true) ?_
  refine rEnd 9 rfl (nxt (wp_ret ?_))
  refine rt (.bool true) ?_
  exact ⟨by rw [show Mur.isPre l = true from by unfold Mur.isPre; rw [hal1]; have := hb.1; simp; omega], rfl⟩
 refine rQ 2 5 _ rfl rfl (qboolF (b := decide (((n : Nat) : Int) ≤ (8 : Int))) (decide_eq_false (by first | exact hx1 | omega))) ?_
 refine rP 3 6 (.bool false) ?_
 refine rZ 4 7 ?_
 refine rZ 5 8 ?_
 refine rZ 6 9 ?_
 refine rP 7 10 (.bool false) ?_
 refine rP 8 2 (.bool false) ?_
 refine rEnd 9 rfl (nxt (wp_ret ?_))
 refine rt (.bool false) ?_
 exact ⟨by rw [show Mur.isPre l = false from by unfold Mur.isPre; have := hb.1; simp; omega], rfl⟩
end Go.Proofs.YtgbadghjnpbiaaaDoor
namespace Go.Proofs.YtgbadghjnpbiaaaDoor
open Go.RowKit Wk
open Mur (b8s Byt Own8 Seg Segs flat cutA attC Att SlA OwnA rowA msgC nib_shn)
set_option maxRecDepth 100000
set_option maxHeartbeats 4000000
def Within_F1 (b : Array Value) (u2 : Value) (u7 : Value) (u8 : Value) (u9 : Value) : Act := ⟨#[gd b 0, gd b 1, u2, gd b 3, gd b 4, gd b 5, gd b 6, u7, u8, u9, gd b 10, gd b 11, gd b 12, gd b 13, gd b 14, gd b 15, gd b 16, gd b 17, gd b 18, gd b 19, gd b 20, gd b 21, gd b 22, gd b 23, gd b 24, gd b 25, gd b 26, gd b 27], []⟩
theorem within_any (x : Att) (p : List UInt8) (PA : Option Addr) (pn pc : Nat) (w : World) (hb : Byt w PA pn p) (hn : pn ≤ 64) : Calls Tryd.prog 72 #[.agg (attC x.k x.r x.n x.t).toArray, .slice PA pn pc] w fun e w' => e = .returned (.bool (Mur.under p x.k)) ∧ Chg [] w w' := by
 have hpl_ := hb.1
 refine calls_of_wp Tryd.func72 rfl ?_
 refine wp_seq (reg ?_)
 refine rX 0 2 rfl rfl (new_ex (pt w.heap.size 0) ((Mur.attC x.k x.r x.n x.t).toArray) 36 (by kernel_rfl)) ?_
 rintro _ W1 ⟨rfl, hb1, ch1, sz1⟩
 have zz1 := ch1.size
 refine rP 1 4 (.bool false) ?_
 refine rEnd 2 rfl (nxt (wp_seq (wp_seq (reg ?_))))
 refine rP 0 7 (.slice PA pn pc) ?_
 refine rP 1 8 (.int .i64 ((pn : Nat) : Int)) ?_
 refine rP 2 9 (.int .i64 0) ?_
 refine rEnd 3 rfl (nxt (wp_block ?_))
 refine Wk.loop (fun m_ a wr => ∃ (i : Nat), m_ = pn - i ∧ a = Within_F1 a.tmps (pt w.heap.size 0) (.slice PA pn pc) (.int .i64 ((pn : Nat) : Int)) (.int .i64 ((i : Nat) : Int)) ∧ i ≤ pn ∧ (∀ j, j < i → Mur.nib x.k j = p.getD j 0) ∧ wr.heap[w.heap.size]? = some (.cells (Mur.attC x.k x.r x.n x.t).toArray 36 (0, 0)) ∧ Chg [] w wr) (pn - 0) ?_ ?_
 ·have kk1 : Chg [] w W1 := Chg.step ((Chg.refl _).more (by simp)) ch1 trivial
  refine ⟨0, rfl, by kernel_rfl, Nat.zero_le _, (fun j hj => by omega), hb1, kk1⟩
 rintro mm1 aa1 W2 ⟨i, hmm1, hF1, hi, hall, hX, HB⟩
 generalize aa1.tmps = bb1 at hF1
 subst hF1
 have hzB := HB.size
 by_cases hlt : i < pn
 ·obtain ⟨q2, off2, hA2, _⟩ := hb.2 (by omega)
  subst hA2
  refine wp_seq (reg ?_)
  refine rQ 0 10 _ rfl rfl (qboolT (b := decide (((i : Nat) : Int) < ((pn : Nat) : Int))) (decide_eq_true (by omega))) ?_
  refine rEnd 1 rfl (nxt (wp_seq (wp_cond_true (by kernel_rfl) (wp_skip (nxt (wp_seq (wp_block (wp_seq (reg ?_)))))))))
  refine rP 0 11 (.int .i64 ((i : Nat) : Int)) ?_
  refine rQ 1 12 (pt q2 (off2 + i * 1)) rfl rfl (index_sl 22 5 (.tmp 7) (.tmp 9) rfl Tryd.underlying22 1 (by kernel_rfl) q2 off2 pn pc i .i64 (by kernel_rfl) (by kernel_rfl) (by omega)) ?_
  refine rQ 2 13 _ rfl rfl (ld 5 12 q2 (off2 + i * 1) (.int .u8 (((p.getD i 0).toNat : Nat) : Int)) (Mur.byt_cell (Mur.byt_chg hb HB (fun g off e hl => trivial)) i (by omega))) ?_
  refine rP 3 5 (.int .i64 ((i : Nat) : Int)) ?_
  refine rP 4 6 (.int .u8 (((p.getD i 0).toNat : Nat) : Int)) ?_
  refine rEnd 5 rfl (nxt (wp_seq (reg ?_)))
  refine rP 0 14 (.int .i64 ((i : Nat) : Int)) ?_
  refine rQ 1 15 (.int .i64 ((i / 2 : Nat) : Int)) rfl rfl (Mur.quo_nat 3 3 (.tmp 14) (.const (.int .i64 2)) rfl i 2 (by kernel_rfl) (by kernel_rfl) (by omega) (by omega)) ?_
  refine rP 2 16 (pt w.heap.size 0) ?_
  refine rQ 3 17 (.pointer (some ⟨w.heap.size, 0 + (i / 2) * 1, none⟩)) rfl rfl (Wk.index_arr 29 5 (.tmp 16) (.tmp 15) rfl 32 Tryd.underlying29 1 (by kernel_rfl) w.heap.size 0 (i / 2) .i64 (by kernel_rfl) (by kernel_rfl) (by omega)) ?_
  refine rQ 4 18 _ rfl rfl (load1 5 (.tmp 17) rfl (by kernel_rfl) ⟨w.heap.size, 0 + (i / 2) * 1, none⟩ (by kernel_rfl) (.int .u8 (((x.k.getD (i / 2) 0).toNat : Nat) : Int)) (show World.cell? _ ⟨_, 0 + 0 * 97 + i / 2 * 1, _⟩ = _ from Mur.SlA.kcell (Mur.slA_box x hX) (i := 0) rfl (j := i / 2) (by omega))) ?_
  refine rP 5 19 (.int .i64 ((i : Nat) : Int)) ?_
  refine rQ 6 20 (.int .i64 ((i % 2 : Nat) : Int)) rfl rfl (Wk.rem_nat 3 3 (.tmp 19) (.const (.int .i64 2)) rfl i 2 (by kernel_rfl) (by kernel_rfl) (by omega)) ?_
  refine rQ 7 21 _ rfl rfl (qint64 (n := (4 : Int) * ((i % 2 : Nat) : Int)) (z := ((4 * (i % 2) : Nat) : Int)) (by omega) (by omega) (by omega)) ?_
  refine rQ 8 22 _ rfl rfl (qint64 (n := (4 : Int) - ((4 * (i % 2) : Nat) : Int)) (z := ((4 - 4 * (i % 2) : Nat) : Int)) (by omega) (by omega) (by omega)) ?_
  refine rQ 9 23 (.int .u8 (((Mur.shn (x.k.getD (i / 2) 0) i).toNat : Nat) : Int)) rfl rfl (Mur.shr8_n 5 3 (.tmp 18) (.tmp 22) rfl (x.k.getD (i / 2) 0) i (by kernel_rfl) (by kernel_rfl)) ?_
  refine rQ 10 24 (.int .u8 (((Mur.shn (x.k.getD (i / 2) 0) i &&& 15).toNat : Nat) : Int)) rfl rfl (Mur.and8_15 5 5 (.tmp 23) (.const (.int .u8 15)) rfl (Mur.shn (x.k.getD (i / 2) 0) i) (by kernel_rfl) (by kernel_rfl)) ?_
  refine rP 11 25 (.int .u8 (((p.getD i 0).toNat : Nat) : Int)) ?_
  by_cases hx1 : (((Mur.shn (x.k.getD (i / 2) 0) i &&& 15).toNat : Nat) : Int) ≠ (((p.getD i 0).toNat : Nat) : Int)
  ·refine rQ 12 26 _ rfl rfl (qboolT (b := ((((Mur.shn (x.k.getD (i / 2) 0) i &&& 15).toNat : Nat) : Int) != (((p.getD i 0).toNat : Nat) : Int))) (bne_iff_ne.2 (by first | exact hx1 | omega))) ?_
   refine rEnd 13 rfl (nxt (wp_cond_true (by kernel_rfl) (wp_seq (reg ?_))))
   refine rP 0 4 (.bool false) ?_
   refine rEnd 1 rfl (nxt (wp_ret (inR (thR (thR (inR (thR ?_)))))))
   refine rt (.bool false) ?_
   exact ⟨by rw [Mur.under_false (p := p) (k := x.k) (i := i) (by have := hb.1; omega) (fun q_ => hx1 (by rw [nib_shn] at q_; rw [q_]))], HB⟩
  refine rQ 12 26 _ rfl rfl (qboolF (b := ((((Mur.shn (x.k.getD (i / 2) 0) i &&& 15).toNat : Nat) : Int) != (((p.getD i 0).toNat : Nat) : Int))) (bne_eq_false_iff_eq.2 (by first | exact hx1 | omega))) ?_
  refine rEnd 13 rfl (nxt (wp_cond_false (by kernel_rfl) (wp_skip (inN (nxt (reg ?_))))))
  refine rQ 0 27 _ rfl rfl (qint64 (n := ((i : Nat) : Int) + 1) (z := ((i + 1 : Nat) : Int)) (by omega) (by omega) (by omega)) ?_
  refine rP 1 9 (.int .i64 ((i + 1 : Nat) : Int)) ?_
  refine rEnd 2 rfl (nxt ?_)
  refine ⟨_, ?_, i + 1, rfl, by kernel_rfl, (by omega), (Mur.nib_step hall (by rw [nib_shn]; exact Mur.u8_cast_inj (Decidable.not_not.1 hx1))), hX, HB⟩
  omega
 have hun : Mur.under p x.k = true := Mur.under_all hb.1 (show pn ≤ i by omega) hall
 refine wp_seq (reg ?_)
 refine rQ 0 10 _ rfl rfl (qboolF (b := decide (((i : Nat) : Int) < ((pn : Nat) : Int))) (decide_eq_false (by omega))) ?_
 refine rEnd 1 rfl (nxt (wp_seq (wp_cond_false (by kernel_rfl) (wp_exit (thX (thX (inX (nxt (wp_seq (reg ?_))))))))))
 refine rP 0 4 (.bool true) ?_
 refine rEnd 1 rfl (nxt (wp_ret ?_))
 refine rt (.bool true) ?_
 exact ⟨by rw [hun], HB⟩
end Go.Proofs.YtgbadghjnpbiaaaDoor
