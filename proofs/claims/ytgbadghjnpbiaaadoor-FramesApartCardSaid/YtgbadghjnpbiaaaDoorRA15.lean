/- What the row rests on, part 15. -/
import Derived.Test.YtgbadghjnpbiaaaDoorRA14
import Derived.Test.YtgbadghjnpbiaaaDoorRA11
import Derived.Test.YtgbadghjnpbiaaaDoorRA8
namespace Go.Proofs.YtgbadghjnpbiaaaDoor
open Go.RowKit Wk
open Mur (b8s Byt Own8 Seg Segs flat cutA attC Att SlA OwnA rowA msgC attC_length take_sn msgC_size msgC_all msg_kind msg_pre run_str byt_chg b8s_length msg_sum run_neq_dg msg_cnt msg_ans msg_items)
set_option maxRecDepth 100000
set_option maxHeartbeats 4000000
def S20f_F1 (b : Array Value) (u0 : Value) (u1 : Value) (u5 : Value) : Act := ⟨#[u0, u1, gd b 2, gd b 3, gd b 4, u5, gd b 6, gd b 7, gd b 8, gd b 9, gd b 10, gd b 11, gd b 12, gd b 13, gd b 14, gd b 15, gd b 16, gd b 17, gd b 18, gd b 19, gd b 20, gd b 21, gd b 22, gd b 23, gd b 24, gd b 25], []⟩
def S21_J6_1 (b : Array Value) (u0 : Value) (u1 : Value) (u5 : Value) (u6 : Value) (u7 : Value) : Act := ⟨#[u0, u1, gd b 2, gd b 3, gd b 4, u5, u6, u7, gd b 8, gd b 9, gd b 10, gd b 11, gd b 12, gd b 13, gd b 14, gd b 15, gd b 16, gd b 17, gd b 18, gd b 19, gd b 20, gd b 21, gd b 22, gd b 23, gd b 24, gd b 25, gd b 26, gd b 27, gd b 28, gd b 29, gd b 30, gd b 31, gd b 32, gd b 33, gd b 34, gd b 35, gd b 36, gd b 37, gd b 38, gd b 39, gd b 40, gd b 41, gd b 42, gd b 43, gd b 44, gd b 45, gd b 46, gd b 47, gd b 48, gd b 49, gd b 50, gd b 51, gd b 52, gd b 53, gd b 54, gd b 55, gd b 56, gd b 57, gd b 58, gd b 59, gd b 60, gd b 61, gd b 62, gd b 63, gd b 64, gd b 65, gd b 66, gd b 67, gd b 68, gd b 69], []⟩
theorem Same20f_any (A : Option Addr) (n c : Nat) (L : List Att) (B : Option Addr) (m d : Nat) (M : List Att) (w : World) (hA_ : SlA w A n L) (hB_ : SlA w B m M) (hn : n ≤ 9223372036854775807) : Calls Tryd.prog 65 #[.slice A n c, .slice B m d] w fun e w' => e = .returned (.bool (decide (L = M))) ∧ Chg [] w w' := by
 have hLl0 := hA_.len
 have hMl0 := hB_.len
 refine calls_of_wp Tryd.func65 rfl ?_
 refine wp_seq (reg ?_)
 refine rP 0 4 (.bool false) ?_
 refine rEnd 1 rfl (nxt (wp_seq (wp_seq (reg ?_))))
 refine rP 0 6 (.slice A n c) ?_
 refine rP 1 7 (.int .i64 ((n : Nat) : Int)) ?_
 refine rP 2 8 (.slice B m d) ?_
 refine rP 3 9 (.int .i64 ((m : Nat) : Int)) ?_
 by_cases hx1 : ((n : Nat) : Int) ≠ ((m : Nat) : Int)
 ·refine rQ 4 10 _ rfl rfl (qboolT (b := (((n : Nat) : Int) != ((m : Nat) : Int))) (bne_iff_ne.2 (by first | exact hx1 | omega))) ?_
  refine rEnd 5 rfl (nxt (wp_cond_true (by kernel_rfl) (wp_seq (reg ?_))))
  refine rP 0 4 (.bool false) ?_
  refine rEnd 1 rfl (nxt (wp_ret (thR ?_)))
  refine rt (.bool false) ?_
  exact ⟨by rw [decide_eq_false (fun q => by have h1 := congrArg List.length q; omega)], (Chg.refl _)⟩
 refine rQ 4 10 _ rfl rfl (qboolF (b := (((n : Nat) : Int) != ((m : Nat) : Int))) (bne_eq_false_iff_eq.2 (by first | exact hx1 | omega))) ?_
 refine rEnd 5 rfl (nxt (wp_cond_false (by kernel_rfl) (wp_skip (nxt (wp_seq (wp_seq (reg ?_)))))))
 refine rP 0 5 (.int .i64 0) ?_
 refine rEnd 1 rfl (nxt (wp_block ?_))
 refine Wk.loop (fun m_ a wr => ∃ (i : Nat), m_ = n - i ∧ a = S20f_F1 a.tmps (.slice A n c) (.slice B m d) (.int .i64 ((i : Nat) : Int)) ∧ i ≤ n ∧ L.take i = M.take i ∧ Chg [] w wr) (n - 0) ?_ ?_
 ·refine ⟨0, rfl, by kernel_rfl, Nat.zero_le _, by simp, (Chg.refl _)⟩
 rintro mm1 aa1 W1 ⟨i, hmm1, hF1, hi, htk, HB⟩
 generalize aa1.tmps = bb1 at hF1
 subst hF1
 have hzB := HB.size
 have hLl := hA_.len
 have hMl := hB_.len
 by_cases hlt : i < n
 ·obtain ⟨g1, o1, rfl, _⟩ := hA_.ex (by omega)
  obtain ⟨g2, o2, rfl, _⟩ := hB_.ex (by omega)
  obtain ⟨x, hx⟩ : ∃ x, L[i]? = some x := ⟨_, List.getElem?_eq_getElem (by omega)⟩
  obtain ⟨y, hy⟩ : ∃ y, M[i]? = some y := ⟨_, List.getElem?_eq_getElem (by omega)⟩
  refine wp_seq (wp_seq (reg ?_))
  refine rP 0 11 (.int .i64 ((i : Nat) : Int)) ?_
  refine rP 1 12 (.slice (some ⟨g1, o1, none⟩) n c) ?_
  refine rP 2 13 (.int .i64 ((n : Nat) : Int)) ?_
  refine rQ 3 14 _ rfl rfl (qboolT (b := decide (((i : Nat) : Int) < ((n : Nat) : Int))) (decide_eq_true (by omega))) ?_
  refine rEnd 4 rfl (nxt (wp_cond_true (by kernel_rfl) (wp_skip (nxt (wp_seq (wp_block (wp_seq ?_)))))))
  refine dReg ([]) (by kernel_rfl) ?_
  intro W2 ch1 sz1
  have zz1 := ch1.size
  have sS1 : Chg ([]) W2 W2 := (Chg.refl _).more (by simp)
  refine dW 0 17 (.slice (some ⟨g1, o1, none⟩) n c) sS1 ?_
  refine dW 1 18 (.int .i64 ((i : Nat) : Int)) sS1 ?_
  refine dV 2 19 (pt g1 (o1 + i * 97)) rfl rfl (fun w' hw' => (index_sl 30 36 (.tmp 17) (.tmp 18) rfl Tryd.underlying30 97 (by kernel_rfl) g1 o1 n c i .i64 (by kernel_rfl) (by kernel_rfl) (by omega))) sS1 ?_
  have kk1 := Chg.step HB ch1 trivial
  refine dV 3 20 (.agg ((Mur.attC x.k x.r x.n x.t).toArray)) rfl rfl (fun w' hw' => (loadR 36 (.tmp 19) rfl _ Tryd.underlying36 rfl g1 (o1 + i * 97) (by kernel_rfl) (Mur.attC x.k x.r x.n x.t) (by rw [attC_length x.hk x.hr x.ht]; kernel_rfl) ((Mur.SlA.chg (Mur.SlA.chg hA_ kk1 (fun g off e hl => trivial)) hw' (fun g off e hl => trivial)).elem hx))) sS1 ?_
  refine dW 4 21 (.slice (some ⟨g2, o2, none⟩) m d) sS1 ?_
  refine dW 5 22 (.int .i64 ((i : Nat) : Int)) sS1 ?_
  refine dV 6 23 (pt g2 (o2 + i * 97)) rfl rfl (fun w' hw' => (index_sl 30 36 (.tmp 21) (.tmp 22) rfl Tryd.underlying30 97 (by kernel_rfl) g2 o2 m d i .i64 (by kernel_rfl) (by kernel_rfl) (by omega))) sS1 ?_
  refine dV 7 24 (.agg ((Mur.attC y.k y.r y.n y.t).toArray)) rfl rfl (fun w' hw' => (loadR 36 (.tmp 23) rfl _ Tryd.underlying36 rfl g2 (o2 + i * 97) (by kernel_rfl) (Mur.attC y.k y.r y.n y.t) (by rw [attC_length y.hk y.hr y.ht]; kernel_rfl) ((Mur.SlA.chg (Mur.SlA.chg hB_ kk1 (fun g off e hl => trivial)) hw' (fun g off e hl => trivial)).elem hy))) sS1 ?_
  by_cases hatt1 : x.k = y.k ∧ x.r = y.r ∧ x.n = y.n ∧ x.t = y.t
  ·refine dV 8 25 (.bool false) rfl rfl (fun w' hw' => (boolF (b := !decide (x.k = y.k ∧ x.r = y.r ∧ x.n = y.n ∧ x.t = y.t)) ((by rw [decide_eq_true (hatt1)]; rfl)) (run_neq_att (.tmp 20) (.tmp 24) 36 rfl x.hk x.hr x.ht y.hk y.hr y.ht x.hn y.hn (by kernel_rfl) (by kernel_rfl)))) sS1 ?_
   refine dEnd (by kernel_rfl) (nxt (wp_cond_false (by kernel_rfl) (wp_skip (inN (nxt (reg ?_))))))
   refine rP 0 15 (.int .i64 ((i : Nat) : Int)) ?_
   refine rQ 1 16 _ rfl rfl (qint64 (n := ((i : Nat) : Int) + 1) (z := ((i + 1 : Nat) : Int)) (by omega) (by omega) (by omega)) ?_
   refine rP 2 5 (.int .i64 ((i + 1 : Nat) : Int)) ?_
   refine rEnd 3 rfl (nxt ?_)
   refine ⟨_, ?_, i + 1, rfl, by kernel_rfl, (by omega), (by rw [take_sn hx, take_sn hy, htk, (Mur.Att.eq_iff x y).2 hatt1]), kk1⟩
   omega
  refine dV 8 25 (.bool true) rfl rfl (fun w' hw' => (boolT (b := !decide (x.k = y.k ∧ x.r = y.r ∧ x.n = y.n ∧ x.t = y.t)) ((by rw [decide_eq_false (hatt1)]; rfl)) (run_neq_att (.tmp 20) (.tmp 24) 36 rfl x.hk x.hr x.ht y.hk y.hr y.ht x.hn y.hn (by kernel_rfl) (by kernel_rfl)))) sS1 ?_
  refine dEnd (by kernel_rfl) (nxt (wp_cond_true (by kernel_rfl) (wp_seq (reg ?_))))
  refine rP 0 4 (.bool false) ?_
  refine rEnd 1 rfl (nxt (wp_ret (inR (thR (thR (inR (thR ?_)))))))
  refine rt (.bool false) ?_
  exact ⟨by rw [decide_eq_false (fun q => hatt1 ((Mur.Att.eq_iff x y).1 (Option.some.inj (by rw [← hx, ← hy, q]))))], kk1⟩
 rw [List.take_of_length_le (show L.length ≤ i by omega), List.take_of_length_le (show M.length ≤ i by omega)] at htk
 refine wp_seq (wp_seq (reg ?_))
 refine rP 0 11 (.int .i64 ((i : Nat) : Int)) ?_
 refine rP 1 12 (.slice A n c) ?_
 refine rP 2 13 (.int .i64 ((n : Nat) : Int)) ?_
 refine rQ 3 14 _ rfl rfl (qboolF (b := decide (((i : Nat) : Int) < ((n : Nat) : Int))) (decide_eq_false (by omega))) ?_
 refine rEnd 4 rfl (nxt (wp_cond_false (by kernel_rfl) (wp_exit (thX (thX (inX (nxt (wp_seq (reg ?_)))))))))
 refine rP 0 4 (.bool true) ?_
 refine rEnd 1 rfl (nxt (wp_ret ?_))
 refine rt (.bool true) ?_
 exact ⟨by rw [decide_eq_true htk], HB⟩
theorem Same21_any (g1 g2 : Nat) (kd : UInt8) (PA : Option Addr) (pn pc : Nat) (s : List UInt8) (m : Int) (A : Option Addr) (n c : Nat) (b : Bool) (p : List UInt8) (I : List Att) (kd2 : UInt8) (PB : Option Addr) (pn2 pc2 : Nat) (s2 : List UInt8) (m2 : Int) (B : Option Addr) (n2 c2 : Nat) (b2 : Bool) (p2 : List UInt8) (I2 : List Att) (w : World) (hs : s.length = 32) (hs2 : s2.length = 32) (hg1 : w.heap[g1]? = some (.cells (Mur.msgC kd PA pn pc s m A n c b).toArray 32 (0, 0))) (hg2 : w.heap[g2]? = some (.cells (Mur.msgC kd2 PB pn2 pc2 s2 m2 B n2 c2 b2).toArray 32 (0, 0))) (hb : Byt w PA pn p) (hb2 : Byt w PB pn2 p2) (hl : SlA w A n I) (hl2 : SlA w B n2 I2) (hn : n ≤ 9223372036854775807) : Calls Tryd.prog 33 #[.slice (some ⟨g1, 0, none⟩) 1 1, .slice (some ⟨g2, 0, none⟩) 1 1] w fun e w' => ∃ v, e = .returned (.bool v) ∧ (v = true ↔ kd = kd2 ∧ p = p2 ∧ s = s2 ∧ m = m2 ∧ b = b2 ∧ I = I2) ∧ Chg [] w w' := by
 have hg1_ := (Array.getElem?_eq_some_iff.1 hg1).1
 have hg2_ := (Array.getElem?_eq_some_iff.1 hg2).1
 refine calls_of_wp Tryd.func33 rfl ?_
 refine wp_seq (reg ?_)
 refine rP 0 4 (.bool false) ?_
 refine rEnd 1 rfl (nxt (wp_seq (wp_seq (reg ?_))))
 refine rP 0 8 (.slice (some ⟨g1, 0, none⟩) 1 1) ?_
 refine rP 1 9 (.int .i64 1) ?_
 refine rP 2 10 (.slice (some ⟨g2, 0, none⟩) 1 1) ?_
 refine rP 3 11 (.int .i64 1) ?_
 refine rQ 4 12 _ rfl rfl (qboolF (b := ((1 : Int) != (1 : Int))) (bne_eq_false_iff_eq.2 (by decide))) ?_
 refine rEnd 5 rfl (nxt (wp_cond_false (by kernel_rfl) (wp_skip (nxt (wp_seq (wp_seq (reg ?_)))))))
 refine rP 0 5 (.int .i64 0) ?_
 refine rEnd 1 rfl (nxt (wp_block ?_))
 refine Wk.loopN 3 ?_
 refine Wk.rdS (wp_seq (wp_seq (reg ?_)))
 refine rP 0 13 (.int .i64 0) ?_
 refine rP 1 14 (.slice (some ⟨g1, 0, none⟩) 1 1) ?_
 refine rP 2 15 (.int .i64 1) ?_
 refine rQ 3 16 _ rfl rfl (qboolT (b := decide ((0 : Int) < (1 : Int))) (decide_eq_true (by decide))) ?_
 refine rEnd 4 rfl (nxt (wp_cond_true (by kernel_rfl) (wp_skip (nxt (wp_seq (wp_block (wp_seq ?_)))))))
 refine Wk.cut (fun a wj => ∃ (q6 : Nat) (q7 : Nat), a = S21_J6_1 a.tmps (.slice (some ⟨g1, 0, none⟩) 1 1) (.slice (some ⟨g2, 0, none⟩) 1 1) (.int .i64 0) (pt q6 0) (pt q7 0) ∧ Chg [] w wj ∧ wj.heap[q6]? = some (.cells (Mur.msgC kd PA pn pc s m A n c b).toArray 32 (0, 0)) ∧ wj.heap[q7]? = some (.cells (Mur.msgC kd2 PB pn2 pc2 s2 m2 B n2 c2 b2).toArray 32 (0, 0))) ?_ ?_
 ·refine dReg ([]) (by kernel_rfl) ?_
  intro W1 ch1 sz1
  have zz1 := ch1.size
  have sS1 : Chg ([]) W1 W1 := (Chg.refl _).more (by simp)
  refine dW 0 19 (.slice (some ⟨g1, 0, none⟩) 1 1) sS1 ?_
  refine dW 1 20 (.int .i64 0) sS1 ?_
  refine dV 2 21 (pt g1 0) rfl rfl (fun w' hw' => (index_sl 80 32 (.tmp 19) (.tmp 20) rfl Tryd.underlying80 37 (by kernel_rfl) g1 0 1 1 0 .i64 (by kernel_rfl) (by kernel_rfl) (by omega))) sS1 ?_
  have kk1 : Chg [] w W1 := Chg.step ((Chg.refl _).more (by simp)) ch1 trivial
  refine dV 3 22 (.agg ((Mur.msgC kd PA pn pc s m A n c b).toArray)) rfl rfl (fun w' hw' => (Mur.loadArr 32 (.tmp 21) rfl _ Tryd.underlying32 rfl g1 (by kernel_rfl) (Mur.msgC kd PA pn pc s m A n c b).toArray 37 (msgC_size hs) (by kernel_rfl) 32 (0, 0) (Chg.hp hw' (Chg.hp kk1 hg1 trivial) trivial))) sS1 ?_
  refine dW 4 23 (.slice (some ⟨g2, 0, none⟩) 1 1) sS1 ?_
  refine dW 5 24 (.int .i64 0) sS1 ?_
  refine dV 6 25 (pt g2 0) rfl rfl (fun w' hw' => (index_sl 80 32 (.tmp 23) (.tmp 24) rfl Tryd.underlying80 37 (by kernel_rfl) g2 0 1 1 0 .i64 (by kernel_rfl) (by kernel_rfl) (by omega))) sS1 ?_
  refine dV 7 26 (.agg ((Mur.msgC kd2 PB pn2 pc2 s2 m2 B n2 c2 b2).toArray)) rfl rfl (fun w' hw' => (Mur.loadArr 32 (.tmp 25) rfl _ Tryd.underlying32 rfl g2 (by kernel_rfl) (Mur.msgC kd2 PB pn2 pc2 s2 m2 B n2 c2 b2).toArray 37 (msgC_size hs2) (by kernel_rfl) 32 (0, 0) (Chg.hp hw' (Chg.hp kk1 hg2 trivial) trivial))) sS1 ?_
  refine dOp2 8 9 (by kernel_rfl) ?_ ?_
  ·refine oEx (some 6) _ rfl rfl (by kernel_rfl) (new_ex (pt W1.heap.size 0) ZM 32 (by kernel_rfl)) ?_
   rintro _ W2 ⟨rfl, hb1, ch2, sz2⟩
   have zz2 := ch2.size
   have sS2 := Chg.step sS1 ch2 trivial
   refine ⟨sS2, ?_⟩
   refine dOp 9 (by kernel_rfl) ?_
   refine oEx (some 7) _ rfl rfl (by kernel_rfl) (new_ex (pt W2.heap.size 0) ZM 32 (by kernel_rfl)) ?_
   rintro _ W3 ⟨rfl, hb2, ch3, sz3⟩
   have zz3 := ch3.size
   have sS3 := Chg.step sS2 ch3 trivial
   refine ⟨sS3, ?_⟩
   refine dOp 10 (by kernel_rfl) ?_
   refine oExS none _ rfl rfl (by kernel_rfl) (Mur.storeArr 32 (.tmp 6) (.tmp 22) rfl W1.heap.size (by kernel_rfl) (Mur.msgC kd PA pn pc s m A n c b).toArray 37 (msgC_size hs) msgC_all (by kernel_rfl) (by kernel_rfl) 32 ZM (Chg.hp ch3 hb1 trivial) (by kernel_rfl)) ?_
   rintro W4 ⟨hb3, ch4⟩
   have zz4 := ch4.size
   have sS4 := Chg.step sS3 ch4 ⟨.inr (by omega), trivial⟩
   refine ⟨sS4, ?_⟩
   refine dOp 11 (by kernel_rfl) ?_
   refine oExS none _ rfl rfl (by kernel_rfl) (Mur.storeArr 32 (.tmp 7) (.tmp 26) rfl W2.heap.size (by kernel_rfl) (Mur.msgC kd2 PB pn2 pc2 s2 m2 B n2 c2 b2).toArray 37 (msgC_size hs2) msgC_all (by kernel_rfl) (by kernel_rfl) 32 ZM (Chg.hp ch4 hb2 ⟨by omega, trivial⟩) (by kernel_rfl)) ?_
   rintro W5 ⟨hb4, ch5⟩
   have zz5 := ch5.size
   have sS5 := Chg.step sS4 ch5 ⟨.inr (by omega), trivial⟩
   refine ⟨sS5, ?_⟩
   refine dEnd (by kernel_rfl) (nxt ?_)
   exact ⟨W1.heap.size, W2.heap.size, by kernel_rfl, (Chg.step (Chg.step (Chg.step (Chg.step (Chg.step ((Chg.refl _).more (by simp) : Chg [] w w) ch1 trivial) ch2 trivial) ch3 trivial) ch4 ⟨.inr (by omega), trivial⟩) ch5 ⟨.inr (by omega), trivial⟩), (Chg.hp ch5 hb3 ⟨by omega, trivial⟩), hb4⟩
  refine oEx (some 7) _ rfl rfl (by kernel_rfl) (new_ex (pt W1.heap.size 0) ZM 32 (by kernel_rfl)) ?_
  rintro _ W6 ⟨rfl, hb5, ch6, sz4⟩
  have zz6 := ch6.size
  have sS6 := Chg.step sS1 ch6 trivial
  refine ⟨sS6, ?_⟩
  refine dOp 8 (by kernel_rfl) ?_
  refine oEx (some 6) _ rfl rfl (by kernel_rfl) (new_ex (pt W6.heap.size 0) ZM 32 (by kernel_rfl)) ?_
  rintro _ W7 ⟨rfl, hb6, ch7, sz5⟩
  have zz7 := ch7.size
  have sS7 := Chg.step sS6 ch7 trivial
  refine ⟨sS7, ?_⟩
  refine dOp 10 (by kernel_rfl) ?_
  refine oExS none _ rfl rfl (by kernel_rfl) (Mur.storeArr 32 (.tmp 6) (.tmp 22) rfl W6.heap.size (by kernel_rfl) (Mur.msgC kd PA pn pc s m A n c b).toArray 37 (msgC_size hs) msgC_all (by kernel_rfl) (by kernel_rfl) 32 ZM hb6 (by kernel_rfl)) ?_
  rintro W8 ⟨hb7, ch8⟩
  have zz8 := ch8.size
  have sS8 := Chg.step sS7 ch8 ⟨.inr (by omega), trivial⟩
  refine ⟨sS8, ?_⟩
  refine dOp 11 (by kernel_rfl) ?_
  refine oExS none _ rfl rfl (by kernel_rfl) (Mur.storeArr 32 (.tmp 7) (.tmp 26) rfl W1.heap.size (by kernel_rfl) (Mur.msgC kd2 PB pn2 pc2 s2 m2 B n2 c2 b2).toArray 37 (msgC_size hs2) msgC_all (by kernel_rfl) (by kernel_rfl) 32 ZM (Chg.hp ch8 (Chg.hp ch7 hb5 trivial) ⟨by omega, trivial⟩) (by kernel_rfl)) ?_
  rintro W10 ⟨hb8, ch9⟩
  have zz9 := ch9.size
  have sS9 := Chg.step sS8 ch9 ⟨.inr (by omega), trivial⟩
  refine ⟨sS9, ?_⟩
  refine dEnd (by kernel_rfl) (nxt ?_)
  exact ⟨W6.heap.size, W1.heap.size, by kernel_rfl, (Chg.step (Chg.step (Chg.step (Chg.step (Chg.step ((Chg.refl _).more (by simp) : Chg [] w w) ch1 trivial) ch6 trivial) ch7 trivial) ch8 ⟨.inr (by omega), trivial⟩) ch9 ⟨.inr (by omega), trivial⟩), (Chg.hp ch9 hb7 ⟨by omega, trivial⟩), hb8⟩
 rintro aa1 W11 ⟨q6, q7, hF1, ch10, hq6, hq7⟩
 have zz10 := ch10.size
 generalize aa1.tmps = bb1 at hF1
 subst hF1
 refine nxt (wp_seq (reg ?_))
 refine rP 0 27 (pt q6 0) ?_
 refine rQ 1 28 _ rfl rfl (ld 5 27 q6 0 (.int .u8 ((kd.toNat : Nat) : Int)) (show World.cell? _ ⟨_, 0 + 0, _⟩ = _ from msg_kind (range_row hq6))) ?_
 refine rP 2 29 (pt q7 0) ?_
 refine rQ 3 30 _ rfl rfl (ld 5 29 q7 0 (.int .u8 ((kd2.toNat : Nat) : Int)) (show World.cell? _ ⟨_, 0 + 0, _⟩ = _ from msg_kind (range_row hq7))) ?_
 by_cases hx1 : ((kd.toNat : Nat) : Int) ≠ ((kd2.toNat : Nat) : Int)
 ·refine rQ 4 31 _ rfl rfl (qboolT (b := (((kd.toNat : Nat) : Int) != ((kd2.toNat : Nat) : Int))) (bne_iff_ne.2 (by first | exact hx1 | omega))) ?_
  refine rP 5 32 (.bool true) ?_
  refine rZ 6 33 ?_
  refine rZ 7 34 ?_
  refine rZ 8 35 ?_
  refine rZ 9 36 ?_
  refine rZ 10 37 ?_
  refine rZ 11 38 ?_
  refine rZ 12 39 ?_
  refine rP 13 40 (.bool true) ?_
  refine rP 14 41 (.bool true) ?_
  refine rZ 15 42 ?_
  refine rZ 16 43 ?_
  refine rZ 17 44 ?_
  refine rZ 18 45 ?_
  refine rZ 19 46 ?_
  refine rP 20 47 (.bool true) ?_
  refine rP 21 48 (.bool true) ?_
  refine rZ 22 49 ?_
  refine rZ 23 50 ?_
  refine rZ 24 51 ?_
  refine rZ 25 52 ?_
  refine rZ 26 53 ?_
  refine rP 27 54 (.bool true) ?_
  refine rP 28 55 (.bool true) ?_
  refine rZ 29 56 ?_
  refine rZ 30 57 ?_
  refine rZ 31 58 ?_
  refine rZ 32 59 ?_
  refine rZ 33 60 ?_
  refine rP 34 61 (.bool true) ?_
  refine rP 35 62 (.bool true) ?_
  refine rZ 36 63 ?_
  refine rZ 37 64 ?_
  refine rZ 38 65 ?_
  refine rZ 39 66 ?_
  refine rZ 40 67 ?_
  refine rZ 41 68 ?_
  refine rP 42 69 (.bool true) ?_
  refine rEnd 43 rfl (nxt (wp_cond_true (by kernel_rfl) (wp_seq (reg ?_))))
  refine rP 0 4 (.bool false) ?_
  refine rEnd 1 rfl (nxt (wp_ret (inR (thR (thR (inR (thR ?_)))))))
  have kk2 : Chg [] w W11 := Chg.step ((Chg.refl _).more (by simp)) ch10 trivial
  refine rt (.bool false) ?_
  exact ⟨_, rfl, ⟨fun h_ => (by cases h_), fun ⟨h1_, h2_, h3_, h4_, h5_, h6_⟩ => (by have h_ := congrArg UInt8.toNat h1_; omega)⟩, kk2⟩
 refine rQ 4 31 _ rfl rfl (qboolF (b := (((kd.toNat : Nat) : Int) != ((kd2.toNat : Nat) : Int))) (bne_eq_false_iff_eq.2 (by first | exact hx1 | omega))) ?_
 refine rP 5 32 (.bool false) ?_
 refine rP 6 33 (pt q6 1) ?_
 refine rQ 7 34 _ rfl rfl (ld 22 33 q6 1 (.slice PA pn pc) (show World.cell? _ ⟨_, 0 + 1, _⟩ = _ from msg_pre (range_row hq6))) ?_
 have kk3 : Chg [] w W11 := Chg.step ((Chg.refl _).more (by simp)) ch10 trivial
 refine rQ 8 35 (.string (Mur.str p)) rfl rfl (run_str 22 9 (.tmp 34) 5 rfl Tryd.underlying22 Tryd.underlying5 Tryd.underlying9 PA pn pc p (by kernel_rfl) (byt_chg hb kk3 (fun g off e hl => trivial))) ?_
 refine rP 9 36 (pt q7 1) ?_
 refine rQ 10 37 _ rfl rfl (ld 22 36 q7 1 (.slice PB pn2 pc2) (show World.cell? _ ⟨_, 0 + 1, _⟩ = _ from msg_pre (range_row hq7))) ?_
 refine rQ 11 38 (.string (Mur.str p2)) rfl rfl (run_str 22 9 (.tmp 37) 5 rfl Tryd.underlying22 Tryd.underlying5 Tryd.underlying9 PB pn2 pc2 p2 (by kernel_rfl) (byt_chg hb2 kk3 (fun g off e hl => trivial))) ?_
 by_cases hx2 : p ≠ p2
 ·refine rQ 12 39 _ rfl rfl (boolT (b := decide (p ≠ p2)) (decide_eq_true (hx2)) (Mur.strne 9 9 (.tmp 35) (.tmp 38) rfl p p2 (by kernel_rfl) (by kernel_rfl))) ?_
  refine rP 13 40 (.bool true) ?_
  refine rP 14 41 (.bool true) ?_
  refine rZ 15 42 ?_
  refine rZ 16 43 ?_
  refine rZ 17 44 ?_
  refine rZ 18 45 ?_
  refine rZ 19 46 ?_
  refine rP 20 47 (.bool true) ?_
  refine rP 21 48 (.bool true) ?_
  refine rZ 22 49 ?_
  refine rZ 23 50 ?_
  refine rZ 24 51 ?_
  refine rZ 25 52 ?_
  refine rZ 26 53 ?_
  refine rP 27 54 (.bool true) ?_
  refine rP 28 55 (.bool true) ?_
  refine rZ 29 56 ?_
  refine rZ 30 57 ?_
  refine rZ 31 58 ?_
  refine rZ 32 59 ?_
  refine rZ 33 60 ?_
  refine rP 34 61 (.bool true) ?_
  refine rP 35 62 (.bool true) ?_
  refine rZ 36 63 ?_
  refine rZ 37 64 ?_
  refine rZ 38 65 ?_
  refine rZ 39 66 ?_
  refine rZ 40 67 ?_
  refine rZ 41 68 ?_
  refine rP 42 69 (.bool true) ?_
  refine rEnd 43 rfl (nxt (wp_cond_true (by kernel_rfl) (wp_seq (reg ?_))))
  refine rP 0 4 (.bool false) ?_
  refine rEnd 1 rfl (nxt (wp_ret (inR (thR (thR (inR (thR ?_)))))))
  refine rt (.bool false) ?_
  exact ⟨_, rfl, ⟨fun h_ => (by cases h_), fun ⟨h1_, h2_, h3_, h4_, h5_, h6_⟩ => (absurd h2_ (hx2))⟩, kk3⟩
 refine rQ 12 39 _ rfl rfl (boolF (b := decide (p ≠ p2)) (decide_eq_false (hx2)) (Mur.strne 9 9 (.tmp 35) (.tmp 38) rfl p p2 (by kernel_rfl) (by kernel_rfl))) ?_
 refine rP 13 40 (.bool false) ?_
 refine rP 14 41 (.bool false) ?_
 refine rP 15 42 (pt q6 2) ?_
 refine rQ 16 43 (.agg ((b8s s).toArray)) rfl rfl (loadR 29 (.tmp 42) rfl _ Tryd.underlying29 rfl q6 2 (by kernel_rfl) (b8s s) (by rw [b8s_length, hs]; kernel_rfl) (show World.rangeAt _ _ (0 + 2) _ from msg_sum (range_row hq6))) ?_
 refine rP 17 44 (pt q7 2) ?_
 refine rQ 18 45 (.agg ((b8s s2).toArray)) rfl rfl (loadR 29 (.tmp 44) rfl _ Tryd.underlying29 rfl q7 2 (by kernel_rfl) (b8s s2) (by rw [b8s_length, hs2]; kernel_rfl) (show World.rangeAt _ _ (0 + 2) _ from msg_sum (range_row hq7))) ?_
 by_cases hpr1 : s = s2
 ·refine rQ 19 46 _ rfl rfl (boolF (b := !decide (s = s2)) (by rw [decide_eq_true hpr1]; rfl) (run_neq_dg digT s s2 hs hs2 _ (.tmp 43) (.tmp 45) 29 rfl (by kernel_rfl) (by kernel_rfl))) ?_
  refine rP 20 47 (.bool false) ?_
  refine rP 21 48 (.bool false) ?_
  refine rP 22 49 (pt q6 34) ?_
  refine rQ 23 50 _ rfl rfl (ld 3 49 q6 34 (.int .i64 m) (show World.cell? _ ⟨_, 0 + 34, _⟩ = _ from msg_cnt hs (range_row hq6))) ?_
  refine rP 24 51 (pt q7 34) ?_
  refine rQ 25 52 _ rfl rfl (ld 3 51 q7 34 (.int .i64 m2) (show World.cell? _ ⟨_, 0 + 34, _⟩ = _ from msg_cnt hs2 (range_row hq7))) ?_
  by_cases hx3 : m ≠ m2
  ·refine rQ 26 53 _ rfl rfl (qboolT (b := (m != m2)) (bne_iff_ne.2 (by first | exact hx3 | omega))) ?_
   refine rP 27 54 (.bool true) ?_
   refine rP 28 55 (.bool true) ?_
   refine rZ 29 56 ?_
   refine rZ 30 57 ?_
   refine rZ 31 58 ?_
   refine rZ 32 59 ?_
   refine rZ 33 60 ?_
   refine rP 34 61 (.bool true) ?_
   refine rP 35 62 (.bool true) ?_
   refine rZ 36 63 ?_
   refine rZ 37 64 ?_
   refine rZ 38 65 ?_
   refine rZ 39 66 ?_
   refine rZ 40 67 ?_
   refine rZ 41 68 ?_
   refine rP 42 69 (.bool true) ?_
   refine rEnd 43 rfl (nxt (wp_cond_true (by kernel_rfl) (wp_seq (reg ?_))))
   refine rP 0 4 (.bool false) ?_
   refine rEnd 1 rfl (nxt (wp_ret (inR (thR (thR (inR (thR ?_)))))))
   refine rt (.bool false) ?_
   exact ⟨_, rfl, ⟨fun h_ => (by cases h_), fun ⟨h1_, h2_, h3_, h4_, h5_, h6_⟩ => (by omega)⟩, kk3⟩
  refine rQ 26 53 _ rfl rfl (qboolF (b := (m != m2)) (bne_eq_false_iff_eq.2 (by first | exact hx3 | omega))) ?_
  refine rP 27 54 (.bool false) ?_
  refine rP 28 55 (.bool false) ?_
  refine rP 29 56 (pt q6 36) ?_
  refine rQ 30 57 _ rfl rfl (ld 4 56 q6 36 (.bool b) (show World.cell? _ ⟨_, 0 + 36, _⟩ = _ from msg_ans hs (range_row hq6))) ?_
  refine rP 31 58 (pt q7 36) ?_
  refine rQ 32 59 _ rfl rfl (ld 4 58 q7 36 (.bool b2) (show World.cell? _ ⟨_, 0 + 36, _⟩ = _ from msg_ans hs2 (range_row hq7))) ?_
  cases b
  ·cases b2
   ·refine rP 33 60 (.bool false) ?_
    refine rP 34 61 (.bool false) ?_
    refine rP 35 62 (.bool false) ?_
    refine rP 36 63 (pt q6 35) ?_
    refine rQ 37 64 _ rfl rfl (ld 30 63 q6 35 (.slice A n c) (show World.cell? _ ⟨_, 0 + 35, _⟩ = _ from msg_items hs (range_row hq6))) ?_
    refine rP 38 65 (pt q7 35) ?_
    refine rQ 39 66 _ rfl rfl (ld 30 65 q7 35 (.slice B n2 c2) (show World.cell? _ ⟨_, 0 + 35, _⟩ = _ from msg_items hs2 (range_row hq7))) ?_
    refine rC 40 67 65 [.tmp 64, .tmp 66] #[30, 30] [.slice A n c, .slice B n2 c2] ?_
    refine (Same20f_any A n c I B n2 c2 I2 W11 (Mur.SlA.chg hl kk3 (fun g off e hl => trivial)) (Mur.SlA.chg hl2 kk3 (fun g off e hl => trivial)) (by omega)).mono ?_
    by_cases hpr2 : I = I2
    ·rw [decide_eq_true hpr2]
     rintro _ W12 ⟨rfl, ch11⟩
     have zz11 := ch11.size
     refine ⟨_, rfl, ?_⟩
     refine rP 41 68 (.bool false) ?_
     refine rP 42 69 (.bool false) ?_
     refine rEnd 43 rfl (nxt (wp_cond_false (by kernel_rfl) (wp_skip (inN (nxt (reg ?_))))))
     refine rP 0 17 (.int .i64 0) ?_
     refine rQ 1 18 _ rfl rfl (qint64 (n := 0 + 1) (z := 1) (by omega) (by omega) (by omega)) ?_
     refine rP 2 5 (.int .i64 1) ?_
     refine rEnd 3 rfl (nxt (Wk.rdS (wp_seq (wp_seq (reg ?_)))))
     refine rP 0 13 (.int .i64 1) ?_
     refine rP 1 14 (.slice (some ⟨g1, 0, none⟩) 1 1) ?_
     refine rP 2 15 (.int .i64 1) ?_
     refine rQ 3 16 _ rfl rfl (qboolF (b := decide ((1 : Int) < (1 : Int))) (decide_eq_false (by decide))) ?_
     refine rEnd 4 rfl (nxt (wp_cond_false (by kernel_rfl) (wp_exit (thX (thX (inX (nxt (wp_seq (reg ?_)))))))))
     refine rP 0 4 (.bool true) ?_
     refine rEnd 1 rfl (nxt (wp_ret ?_))
     have kk4 := Chg.step kk3 ch11 trivial
     refine rt (.bool true) ?_
     exact ⟨_, rfl, ⟨fun _ => ⟨UInt8.toNat_inj.1 (by omega), Classical.not_not.1 (hx2), hpr1, by omega, rfl, hpr2⟩, fun _ => rfl⟩, kk4⟩
    rw [decide_eq_false hpr2]
    rintro _ W13 ⟨rfl, ch12⟩
    have zz12 := ch12.size
    refine ⟨_, rfl, ?_⟩
    refine rP 41 68 (.bool true) ?_
    refine rP 42 69 (.bool true) ?_
    refine rEnd 43 rfl (nxt (wp_cond_true (by kernel_rfl) (wp_seq (reg ?_))))
    refine rP 0 4 (.bool false) ?_
    refine rEnd 1 rfl (nxt (wp_ret (inR (thR (thR (inR (thR ?_)))))))
    have kk5 := Chg.step kk3 ch12 trivial
    refine rt (.bool false) ?_
    exact ⟨_, rfl, ⟨fun h_ => (by cases h_), fun ⟨h1_, h2_, h3_, h4_, h5_, h6_⟩ => (absurd h6_ hpr2)⟩, kk5⟩
   refine rP 33 60 (.bool true) ?_
   refine rP 34 61 (.bool true) ?_
   refine rP 35 62 (.bool true) ?_
   refine rZ 36 63 ?_
   refine rZ 37 64 ?_
   refine rZ 38 65 ?_
   refine rZ 39 66 ?_
   refine rZ 40 67 ?_
   refine rZ 41 68 ?_
   refine rP 42 69 (.bool true) ?_
   refine rEnd 43 rfl (nxt (wp_cond_true (by kernel_rfl) (wp_seq (reg ?_))))
   refine rP 0 4 (.bool false) ?_
   refine rEnd 1 rfl (nxt (wp_ret (inR (thR (thR (inR (thR ?_)))))))
   refine rt (.bool false) ?_
   exact ⟨_, rfl, ⟨fun h_ => (by cases h_), fun ⟨h1_, h2_, h3_, h4_, h5_, h6_⟩ => (by cases h5_)⟩, kk3⟩
  cases b2
  ·refine rP 33 60 (.bool true) ?_
   refine rP 34 61 (.bool true) ?_
   refine rP 35 62 (.bool true) ?_
   refine rZ 36 63 ?_
   refine rZ 37 64 ?_
   refine rZ 38 65 ?_
   refine rZ 39 66 ?_
   refine rZ 40 67 ?_
   refine rZ 41 68 ?_
   refine rP 42 69 (.bool true) ?_
   refine rEnd 43 rfl (nxt (wp_cond_true (by kernel_rfl) (wp_seq (reg ?_))))
   refine rP 0 4 (.bool false) ?_
   refine rEnd 1 rfl (nxt (wp_ret (inR (thR (thR (inR (thR ?_)))))))
   refine rt (.bool false) ?_
   exact ⟨_, rfl, ⟨fun h_ => (by cases h_), fun ⟨h1_, h2_, h3_, h4_, h5_, h6_⟩ => (by cases h5_)⟩, kk3⟩
  refine rP 33 60 (.bool false) ?_
  refine rP 34 61 (.bool false) ?_
  refine rP 35 62 (.bool false) ?_
  refine rP 36 63 (pt q6 35) ?_
  refine rQ 37 64 _ rfl rfl (ld 30 63 q6 35 (.slice A n c) (show World.cell? _ ⟨_, 0 + 35, _⟩ = _ from msg_items hs (range_row hq6))) ?_
  refine rP 38 65 (pt q7 35) ?_
  refine rQ 39 66 _ rfl rfl (ld 30 65 q7 35 (.slice B n2 c2) (show World.cell? _ ⟨_, 0 + 35, _⟩ = _ from msg_items hs2 (range_row hq7))) ?_
  refine rC 40 67 65 [.tmp 64, .tmp 66] #[30, 30] [.slice A n c, .slice B n2 c2] ?_
  refine (Same20f_any A n c I B n2 c2 I2 W11 (Mur.SlA.chg hl kk3 (fun g off e hl => trivial)) (Mur.SlA.chg hl2 kk3 (fun g off e hl => trivial)) (by omega)).mono ?_
  by_cases hpr3 : I = I2
  ·rw [decide_eq_true hpr3]
   rintro _ W14 ⟨rfl, ch13⟩
   have zz13 := ch13.size
   refine ⟨_, rfl, ?_⟩
   refine rP 41 68 (.bool false) ?_
   refine rP 42 69 (.bool false) ?_
   refine rEnd 43 rfl (nxt (wp_cond_false (by kernel_rfl) (wp_skip (inN (nxt (reg ?_))))))
   refine rP 0 17 (.int .i64 0) ?_
   refine rQ 1 18 _ rfl rfl (qint64 (n := 0 + 1) (z := 1) (by omega) (by omega) (by omega)) ?_
   refine rP 2 5 (.int .i64 1) ?_
   refine rEnd 3 rfl (nxt (Wk.rdS (wp_seq (wp_seq (reg ?_)))))
   refine rP 0 13 (.int .i64 1) ?_
   refine rP 1 14 (.slice (some ⟨g1, 0, none⟩) 1 1) ?_
   refine rP 2 15 (.int .i64 1) ?_
   refine rQ 3 16 _ rfl rfl (qboolF (b := decide ((1 : Int) < (1 : Int))) (decide_eq_false (by decide))) ?_
   refine rEnd 4 rfl (nxt (wp_cond_false (by kernel_rfl) (wp_exit (thX (thX (inX (nxt (wp_seq (reg ?_)))))))))
   refine rP 0 4 (.bool true) ?_
   refine rEnd 1 rfl (nxt (wp_ret ?_))
   have kk6 := Chg.step kk3 ch13 trivial
   refine rt (.bool true) ?_
   exact ⟨_, rfl, ⟨fun _ => ⟨UInt8.toNat_inj.1 (by omega), Classical.not_not.1 (hx2), hpr1, by omega, rfl, hpr3⟩, fun _ => rfl⟩, kk6⟩
  rw [decide_eq_false hpr3]
  rintro _ W15 ⟨rfl, ch14⟩
  have zz14 := ch14.size
  refine ⟨_, rfl, ?_⟩
  refine rP 41 68 (.bool true) ?_
  refine rP 42 69 (.bool true) ?_
  refine rEnd 43 rfl (nxt (wp_cond_true (by kernel_rfl) (wp_seq (reg ?_))))
  refine rP 0 4 (.bool false) ?_
  refine rEnd 1 rfl (nxt (wp_ret (inR (thR (thR (inR (thR ?_)))))))
  have kk7 := Chg.step kk3 ch14 trivial
  refine rt (.bool false) ?_
  exact ⟨_, rfl, ⟨fun h_ => (by cases h_), fun ⟨h1_, h2_, h3_, h4_, h5_, h6_⟩ => (absurd h6_ hpr3)⟩, kk7⟩
 refine rQ 19 46 _ rfl rfl (boolT (b := !decide (s = s2)) (by rw [decide_eq_false hpr1]; rfl) (run_neq_dg digT s s2 hs hs2 _ (.tmp 43) (.tmp 45) 29 rfl (by kernel_rfl) (by kernel_rfl))) ?_
 refine rP 20 47 (.bool true) ?_
 refine rP 21 48 (.bool true) ?_
 refine rZ 22 49 ?_
 refine rZ 23 50 ?_
 refine rZ 24 51 ?_
 refine rZ 25 52 ?_
 refine rZ 26 53 ?_
 refine rP 27 54 (.bool true) ?_
 refine rP 28 55 (.bool true) ?_
 refine rZ 29 56 ?_
 refine rZ 30 57 ?_
 refine rZ 31 58 ?_
 refine rZ 32 59 ?_
 refine rZ 33 60 ?_
 refine rP 34 61 (.bool true) ?_
 refine rP 35 62 (.bool true) ?_
 refine rZ 36 63 ?_
 refine rZ 37 64 ?_
 refine rZ 38 65 ?_
 refine rZ 39 66 ?_
 refine rZ 40 67 ?_
 refine rZ 41 68 ?_
 refine rP 42 69 (.bool true) ?_
 refine rEnd 43 rfl (nxt (wp_cond_true (by kernel_rfl) (wp_seq (reg ?_))))
 refine rP 0 4 (.bool false) ?_
 refine rEnd 1 rfl (nxt (wp_ret (inR (thR (thR (inR (thR ?_)))))))
 refine rt (.bool false) ?_
 exact ⟨_, rfl, ⟨fun h_ => (by cases h_), fun ⟨h1_, h2_, h3_, h4_, h5_, h6_⟩ => (absurd h3_ hpr1)⟩, kk3⟩
end Go.Proofs.YtgbadghjnpbiaaaDoor
namespace Go.Proofs.YtgbadghjnpbiaaaDoor
open Go.RowKit Wk
open Mur (b8s Byt Own8 Seg Segs flat cutA attC Att SlA OwnA rowA msgC Frm Zs LiesF FrmIn frmP segs_cell frmL_sz claimC_length segs_rng attC_length frmL_att b8s_length segs_row run_neq_dg run_str byt_chg map_at take_sn updC msgC_length msg_eq)
set_option maxRecDepth 100000
set_option maxHeartbeats 4000000
def S25_F1 (b : Array Value) (u2 : Value) (u3 : Value) (u5 : Value) : Act := ⟨#[gd b 0, gd b 1, u2, u3, gd b 4, u5, gd b 6, gd b 7, gd b 8, gd b 9, gd b 10, gd b 11, gd b 12, gd b 13, gd b 14, gd b 15, gd b 16, gd b 17, gd b 18, gd b 19, gd b 20, gd b 21, gd b 22, gd b 23, gd b 24, gd b 25, gd b 26, gd b 27, gd b 28, gd b 29, gd b 30, gd b 31, gd b 32, gd b 33, gd b 34, gd b 35, gd b 36, gd b 37, gd b 38, gd b 39, gd b 40, gd b 41, gd b 42, gd b 43, gd b 44, gd b 45, gd b 46, gd b 47, gd b 48, gd b 49, gd b 50, gd b 51, gd b 52, gd b 53, gd b 54, gd b 55, gd b 56, gd b 57, gd b 58, gd b 59, gd b 60, gd b 61, gd b 62, gd b 63, gd b 64, gd b 65, gd b 66, gd b 67, gd b 68, gd b 69, gd b 70, gd b 71, gd b 72, gd b 73, gd b 74, gd b 75, gd b 76, gd b 77, gd b 78, gd b 79, gd b 80, gd b 81, gd b 82, gd b 83, gd b 84, gd b 85, gd b 86, gd b 87, gd b 88, gd b 89, gd b 90, gd b 91, gd b 92, gd b 93, gd b 94, gd b 95, gd b 96, gd b 97, gd b 98, gd b 99, gd b 100, gd b 101, gd b 102, gd b 103, gd b 104, gd b 105, gd b 106, gd b 107, gd b 108, gd b 109, gd b 110, gd b 111, gd b 112, gd b 113, gd b 114, gd b 115, gd b 116, gd b 117, gd b 118, gd b 119, gd b 120, gd b 121, gd b 122, gd b 123, gd b 124, gd b 125, gd b 126, gd b 127, gd b 128, gd b 129, gd b 130, gd b 131, gd b 132, gd b 133, gd b 134, gd b 135, gd b 136, gd b 137, gd b 138, gd b 139, gd b 140, gd b 141, gd b 142, gd b 143, gd b 144, gd b 145, gd b 146, gd b 147, gd b 148, gd b 149, gd b 150, gd b 151, gd b 152, gd b 153, gd b 154, gd b 155], []⟩
def S25_J8_1 (b : Array Value) (u2 : Value) (u3 : Value) (u6 : Value) (u7 : Value) : Act := ⟨#[gd b 0, gd b 1, u2, u3, gd b 4, gd b 5, u6, u7, gd b 8, gd b 9, gd b 10, gd b 11, gd b 12, gd b 13, gd b 14, gd b 15, gd b 16, gd b 17, gd b 18, gd b 19, gd b 20, gd b 21, gd b 22, gd b 23, gd b 24, gd b 25, gd b 26, gd b 27, gd b 28, gd b 29, gd b 30, gd b 31, gd b 32, gd b 33, gd b 34, gd b 35, gd b 36, gd b 37, gd b 38, gd b 39, gd b 40, gd b 41, gd b 42, gd b 43, gd b 44, gd b 45, gd b 46, gd b 47, gd b 48, gd b 49, gd b 50, gd b 51, gd b 52, gd b 53, gd b 54, gd b 55, gd b 56, gd b 57, gd b 58, gd b 59, gd b 60, gd b 61, gd b 62, gd b 63, gd b 64, gd b 65, gd b 66, gd b 67, gd b 68, gd b 69, gd b 70, gd b 71, gd b 72, gd b 73, gd b 74, gd b 75, gd b 76, gd b 77, gd b 78, gd b 79, gd b 80, gd b 81, gd b 82, gd b 83, gd b 84, gd b 85, gd b 86, gd b 87, gd b 88, gd b 89, gd b 90, gd b 91, gd b 92, gd b 93, gd b 94, gd b 95, gd b 96, gd b 97, gd b 98, gd b 99, gd b 100, gd b 101, gd b 102, gd b 103, gd b 104, gd b 105, gd b 106, gd b 107, gd b 108, gd b 109, gd b 110, gd b 111, gd b 112, gd b 113, gd b 114, gd b 115, gd b 116, gd b 117, gd b 118, gd b 119, gd b 120, gd b 121, gd b 122, gd b 123, gd b 124, gd b 125, gd b 126, gd b 127, gd b 128, gd b 129, gd b 130, gd b 131, gd b 132, gd b 133, gd b 134, gd b 135, gd b 136, gd b 137, gd b 138, gd b 139, gd b 140, gd b 141, gd b 142, gd b 143, gd b 144, gd b 145, gd b 146, gd b 147, gd b 148, gd b 149, gd b 150, gd b 151, gd b 152, gd b 153, gd b 154, gd b 155], []⟩
def S25_F2 (b : Array Value) (u2 : Value) (u3 : Value) (u6 : Value) (u7 : Value) (u8 : Value) : Act := ⟨#[gd b 0, gd b 1, u2, u3, gd b 4, gd b 5, u6, u7, u8, gd b 9, gd b 10, gd b 11, gd b 12, gd b 13, gd b 14, gd b 15, gd b 16, gd b 17, gd b 18, gd b 19, gd b 20, gd b 21, gd b 22, gd b 23, gd b 24, gd b 25, gd b 26, gd b 27, gd b 28, gd b 29, gd b 30, gd b 31, gd b 32, gd b 33, gd b 34, gd b 35, gd b 36, gd b 37, gd b 38, gd b 39, gd b 40, gd b 41, gd b 42, gd b 43, gd b 44, gd b 45, gd b 46, gd b 47, gd b 48, gd b 49, gd b 50, gd b 51, gd b 52, gd b 53, gd b 54, gd b 55, gd b 56, gd b 57, gd b 58, gd b 59, gd b 60, gd b 61, gd b 62, gd b 63, gd b 64, gd b 65, gd b 66, gd b 67, gd b 68, gd b 69, gd b 70, gd b 71, gd b 72, gd b 73, gd b 74, gd b 75, gd b 76, gd b 77, gd b 78, gd b 79, gd b 80, gd b 81, gd b 82, gd b 83, gd b 84, gd b 85, gd b 86, gd b 87, gd b 88, gd b 89, gd b 90, gd b 91, gd b 92, gd b 93, gd b 94, gd b 95, gd b 96, gd b 97, gd b 98, gd b 99, gd b 100, gd b 101, gd b 102, gd b 103, gd b 104, gd b 105, gd b 106, gd b 107, gd b 108, gd b 109, gd b 110, gd b 111, gd b 112, gd b 113, gd b 114, gd b 115, gd b 116, gd b 117, gd b 118, gd b 119, gd b 120, gd b 121, gd b 122, gd b 123, gd b 124, gd b 125, gd b 126, gd b 127, gd b 128, gd b 129, gd b 130, gd b 131, gd b 132, gd b 133, gd b 134, gd b 135, gd b 136, gd b 137, gd b 138, gd b 139, gd b 140, gd b 141, gd b 142, gd b 143, gd b 144, gd b 145, gd b 146, gd b 147, gd b 148, gd b 149, gd b 150, gd b 151, gd b 152, gd b 153, gd b 154, gd b 155], []⟩
theorem Same25_any (f : Frm) (z : Zs) (g : Frm) (y : Zs) (w : World) (hL : LiesF w z f) (hI : FrmIn f) (hM : LiesF w y g) (hJ : FrmIn g) : Calls Tryd.prog 15 #[.agg (frmP f z).flatten.toArray, .agg (frmP g y).flatten.toArray] w fun e w' => ∃ v, e = .returned (.bool v) ∧ (v = true ↔ f = g) ∧ Chg [] w w' := by
 have hLin_ : z.In fun g => g < w.heap.size → Wk.Off g [] := ⟨fun _ _ _ _ => trivial, fun _ _ _ _ => trivial, fun _ _ _ _ => trivial, fun _ _ _ _ => trivial, fun _ _ _ _ => trivial⟩
 have hLunc_ := hL.nu.nc
 have hLucm_ := hL.nu.cm
 have hLpnc_ := hL.np.nc
 have hLpcm_ := hL.np.cm
 have hLinc_ := hL.ni.nc
 have hLicm_ := hL.ni.cm
 have hLync_ := hL.ny.nc
 have hLycm_ := hL.ny.cm
 have hLfnc_ := hL.nf.nc
 have hLfcm_ := hL.nf.cm
 have hMin_ : y.In fun g => g < w.heap.size → Wk.Off g [] := ⟨fun _ _ _ _ => trivial, fun _ _ _ _ => trivial, fun _ _ _ _ => trivial, fun _ _ _ _ => trivial, fun _ _ _ _ => trivial⟩
 have hMunc_ := hM.nu.nc
 have hMucm_ := hM.nu.cm
 have hMpnc_ := hM.np.nc
 have hMpcm_ := hM.np.cm
 have hMinc_ := hM.ni.nc
 have hMicm_ := hM.ni.cm
 have hMync_ := hM.ny.nc
 have hMycm_ := hM.ny.cm
 have hMfnc_ := hM.nf.nc
 have hMfcm_ := hM.nf.cm
 have hLul_ := hL.upd.len
 rw [List.length_map] at hLul_
 have hLfl_ := hL.prf.len
 rw [List.length_map] at hLfl_
 have hMul_ := hM.upd.len
 rw [List.length_map] at hMul_
 have hMfl_ := hM.prf.len
 rw [List.length_map] at hMfl_
 refine calls_of_wp Tryd.func15 rfl ?_
 refine wp_seq (reg ?_)
 refine rX 0 2 rfl rfl (new_ex (pt w.heap.size 0) ((frmP f z).flatten.toArray) 39 (by kernel_rfl)) ?_
 rintro _ W1 ⟨rfl, hb1, ch1, sz1⟩
 have zz1 := ch1.size
 refine rX 1 3 rfl rfl (new_ex (pt W1.heap.size 0) ((frmP g y).flatten.toArray) 39 (by kernel_rfl)) ?_
 rintro _ W2 ⟨rfl, hb2, ch2, sz2⟩
 have zz2 := ch2.size
 refine rP 2 4 (.bool false) ?_
 refine rEnd 3 rfl (nxt (wp_seq (wp_seq (reg ?_))))
 refine rP 0 9 (pt w.heap.size 0) ?_
 refine rQ 1 10 _ rfl rfl (ld 5 9 w.heap.size 0 (.int .u8 ((f.kind.toNat : Nat) : Int)) (show World.cell? _ ⟨_, 0 + 0, _⟩ = _ from segs_cell (frmL_sz hI.ok.sum hI.ok.key f.att.hk f.att.hr f.att.ht hI.ok.root) (range_row (Chg.hp ch2 hb1 trivial)) 0 rfl rfl)) ?_
 refine rP 2 11 (pt W1.heap.size 0) ?_
 refine rQ 3 12 _ rfl rfl (ld 5 11 W1.heap.size 0 (.int .u8 ((g.kind.toNat : Nat) : Int)) (show World.cell? _ ⟨_, 0 + 0, _⟩ = _ from segs_cell (frmL_sz hJ.ok.sum hJ.ok.key g.att.hk g.att.hr g.att.ht hJ.ok.root) (range_row hb2) 0 rfl rfl)) ?_
 by_cases hx1 : ((f.kind.toNat : Nat) : Int) ≠ ((g.kind.toNat : Nat) : Int)
 ·refine rQ 4 13 _ rfl rfl (qboolT (b := (((f.kind.toNat : Nat) : Int) != ((g.kind.toNat : Nat) : Int))) (bne_iff_ne.2 (by first | exact hx1 | omega))) ?_
  refine Wk.many 156 60 5 [(13, .bool true)] 73 (.bool true) (by kernel_rfl) (by kernel_rfl) (by kernel_rfl) (by kernel_rfl) ?_
  intro bb1
  refine rEnd 65 rfl (nxt (wp_cond_true (by kernel_rfl) (wp_seq (reg ?_))))
  refine rP 0 4 (.bool false) ?_
  refine rEnd 1 rfl (nxt (wp_ret (thR ?_)))
  have kk1 : Chg [] w W1 := Chg.step ((Chg.refl _).more (by simp)) ch1 trivial
  have kk2 := Chg.step kk1 ch2 trivial
  refine rt (.bool false) ?_
  exact ⟨_, rfl, ⟨fun h_ => (by cases h_), fun e_ => absurd (congrArg (fun x_ : Frm => ((x_.kind.toNat : Nat) : Int)) e_) (by first | exact hx1 | omega)⟩, kk2⟩
 refine rQ 4 13 _ rfl rfl (qboolF (b := (((f.kind.toNat : Nat) : Int) != ((g.kind.toNat : Nat) : Int))) (bne_eq_false_iff_eq.2 (by first | exact hx1 | omega))) ?_
 refine rP 5 14 (.bool false) ?_
 refine rP 6 15 (pt w.heap.size 1) ?_
 refine rQ 7 16 _ rfl rfl (ld 3 15 w.heap.size 1 (.int .i64 f.frm) (show World.cell? _ ⟨_, 0 + 1, _⟩ = _ from segs_cell (frmL_sz hI.ok.sum hI.ok.key f.att.hk f.att.hr f.att.ht hI.ok.root) (range_row (Chg.hp ch2 hb1 trivial)) 1 rfl rfl)) ?_
 refine rP 8 17 (pt W1.heap.size 1) ?_
 refine rQ 9 18 _ rfl rfl (ld 3 17 W1.heap.size 1 (.int .i64 g.frm) (show World.cell? _ ⟨_, 0 + 1, _⟩ = _ from segs_cell (frmL_sz hJ.ok.sum hJ.ok.key g.att.hk g.att.hr g.att.ht hJ.ok.root) (range_row hb2) 1 rfl rfl)) ?_
 by_cases hx2 : f.frm ≠ g.frm
 ·refine rQ 10 19 _ rfl rfl (qboolT (b := (f.frm != g.frm)) (bne_iff_ne.2 (by first | exact hx2 | omega))) ?_
  refine Wk.many 156 54 11 [(14, .bool false), (19, .bool true)] 73 (.bool true) (by kernel_rfl) (by kernel_rfl) (by kernel_rfl) (by kernel_rfl) ?_
  intro bb2
  refine rEnd 65 rfl (nxt (wp_cond_true (by kernel_rfl) (wp_seq (reg ?_))))
  refine rP 0 4 (.bool false) ?_
  refine rEnd 1 rfl (nxt (wp_ret (thR ?_)))
  have kk3 : Chg [] w W1 := Chg.step ((Chg.refl _).more (by simp)) ch1 trivial
  have kk4 := Chg.step kk3 ch2 trivial
  refine rt (.bool false) ?_
  exact ⟨_, rfl, ⟨fun h_ => (by cases h_), fun e_ => absurd (congrArg (fun x_ : Frm => x_.frm) e_) (by first | exact hx2 | omega)⟩, kk4⟩
 refine rQ 10 19 _ rfl rfl (qboolF (b := (f.frm != g.frm)) (bne_eq_false_iff_eq.2 (by first | exact hx2 | omega))) ?_
 refine rP 11 20 (.bool false) ?_
 refine rP 12 21 (.bool false) ?_
 refine rP 13 22 (pt w.heap.size 2) ?_
 refine Wk.norm 156 [(2, pt w.heap.size 0), (3, pt W1.heap.size 0), (21, .bool false), (22, pt w.heap.size 2)] (by kernel_rfl) (by kernel_rfl) (by kernel_rfl) ?_
 intro bb3
 refine rQ 14 23 _ rfl rfl (ld 3 22 w.heap.size 2 (.int .i64 f.dst) (show World.cell? _ ⟨_, 0 + 2, _⟩ = _ from segs_cell (frmL_sz hI.ok.sum hI.ok.key f.att.hk f.att.hr f.att.ht hI.ok.root) (range_row (Chg.hp ch2 hb1 trivial)) 2 rfl rfl)) ?_
 refine rP 15 24 (pt W1.heap.size 2) ?_
 refine rQ 16 25 _ rfl rfl (ld 3 24 W1.heap.size 2 (.int .i64 g.dst) (show World.cell? _ ⟨_, 0 + 2, _⟩ = _ from segs_cell (frmL_sz hJ.ok.sum hJ.ok.key g.att.hk g.att.hr g.att.ht hJ.ok.root) (range_row hb2) 2 rfl rfl)) ?_
 by_cases hx3 : f.dst ≠ g.dst
 ·refine rQ 17 26 _ rfl rfl (qboolT (b := (f.dst != g.dst)) (bne_iff_ne.2 (by first | exact hx3 | omega))) ?_
  refine Wk.many 156 47 18 [(21, .bool false), (26, .bool true)] 73 (.bool true) (by kernel_rfl) (by kernel_rfl) (by kernel_rfl) (by kernel_rfl) ?_
  intro bb4
  refine rEnd 65 rfl (nxt (wp_cond_true (by kernel_rfl) (wp_seq (reg ?_))))
  refine rP 0 4 (.bool false) ?_
  refine rEnd 1 rfl (nxt (wp_ret (thR ?_)))
  have kk5 : Chg [] w W1 := Chg.step ((Chg.refl _).more (by simp)) ch1 trivial
  have kk6 := Chg.step kk5 ch2 trivial
  refine rt (.bool false) ?_
  exact ⟨_, rfl, ⟨fun h_ => (by cases h_), fun e_ => absurd (congrArg (fun x_ : Frm => x_.dst) e_) (by first | exact hx3 | omega)⟩, kk6⟩
 refine rQ 17 26 _ rfl rfl (qboolF (b := (f.dst != g.dst)) (bne_eq_false_iff_eq.2 (by first | exact hx3 | omega))) ?_
 refine rP 18 27 (.bool false) ?_
 refine rP 19 28 (.bool false) ?_
 refine rP 20 29 (pt w.heap.size 45) ?_
 refine rQ 21 30 (.agg ((Mur.claimC f.cKey f.cNode f.cInc f.cCnt f.cGone).toArray)) rfl rfl (loadR 34 (.tmp 29) rfl _ Tryd.underlying34 rfl w.heap.size 45 (by kernel_rfl) (Mur.claimC f.cKey f.cNode f.cInc f.cCnt f.cGone) (by rw [claimC_length hI.ok.key]; kernel_rfl) (show World.rangeAt _ _ (0 + 45) _ from segs_rng (frmL_sz hI.ok.sum hI.ok.key f.att.hk f.att.hr f.att.ht hI.ok.root) (range_row (Chg.hp ch2 hb1 trivial)) 14 5 rfl rfl)) ?_
 refine rP 22 31 (pt W1.heap.size 45) ?_
 refine rQ 23 32 (.agg ((Mur.claimC g.cKey g.cNode g.cInc g.cCnt g.cGone).toArray)) rfl rfl (loadR 34 (.tmp 31) rfl _ Tryd.underlying34 rfl W1.heap.size 45 (by kernel_rfl) (Mur.claimC g.cKey g.cNode g.cInc g.cCnt g.cGone) (by rw [claimC_length hJ.ok.key]; kernel_rfl) (show World.rangeAt _ _ (0 + 45) _ from segs_rng (frmL_sz hJ.ok.sum hJ.ok.key g.att.hk g.att.hr g.att.ht hJ.ok.root) (range_row hb2) 14 5 rfl rfl)) ?_
 by_cases hpr1 : f.cKey = g.cKey ∧ f.cNode = g.cNode ∧ f.cInc = g.cInc ∧ f.cCnt = g.cCnt ∧ f.cGone = g.cGone
 ·refine rQ 24 33 _ rfl rfl (boolF (b := !decide (f.cKey = g.cKey ∧ f.cNode = g.cNode ∧ f.cInc = g.cInc ∧ f.cCnt = g.cCnt ∧ f.cGone = g.cGone)) (by rw [decide_eq_true hpr1]; rfl) (run_neq_claim (.tmp 30) (.tmp 32) 34 rfl hI.ok.key hJ.ok.key (wf64 hI.cNo.1 hI.cNo.2) (wf64 hJ.cNo.1 hJ.cNo.2) hI.ok.inc hJ.ok.inc hI.ok.cnt hJ.ok.cnt (by kernel_rfl) (by kernel_rfl))) ?_
  refine rP 25 34 (.bool false) ?_
  refine rP 26 35 (.bool false) ?_
  refine rP 27 36 (pt w.heap.size 81) ?_
  refine Wk.norm 156 [(2, pt w.heap.size 0), (3, pt W1.heap.size 0), (35, .bool false), (36, pt w.heap.size 81)] (by kernel_rfl) (by kernel_rfl) (by kernel_rfl) ?_
  intro bb5
  refine rQ 28 37 (.agg ((Mur.attC f.att.k f.att.r f.att.n f.att.t).toArray)) rfl rfl (loadR 36 (.tmp 36) rfl _ Tryd.underlying36 rfl w.heap.size 81 (by kernel_rfl) (Mur.attC f.att.k f.att.r f.att.n f.att.t) (by rw [attC_length f.att.hk f.att.hr f.att.ht]; kernel_rfl) (show World.rangeAt _ _ (0 + 81) _ from segs_rng (frmL_sz hI.ok.sum hI.ok.key f.att.hk f.att.hr f.att.ht hI.ok.root) (range_row (Chg.hp ch2 hb1 trivial)) 19 4 frmL_att rfl)) ?_
  refine rP 29 38 (pt W1.heap.size 81) ?_
  refine rQ 30 39 (.agg ((Mur.attC g.att.k g.att.r g.att.n g.att.t).toArray)) rfl rfl (loadR 36 (.tmp 38) rfl _ Tryd.underlying36 rfl W1.heap.size 81 (by kernel_rfl) (Mur.attC g.att.k g.att.r g.att.n g.att.t) (by rw [attC_length g.att.hk g.att.hr g.att.ht]; kernel_rfl) (show World.rangeAt _ _ (0 + 81) _ from segs_rng (frmL_sz hJ.ok.sum hJ.ok.key g.att.hk g.att.hr g.att.ht hJ.ok.root) (range_row hb2) 19 4 frmL_att rfl)) ?_
  by_cases hpr2 : f.att = g.att
  ·refine rQ 31 40 _ rfl rfl (boolF (b := !decide (f.att.k = g.att.k ∧ f.att.r = g.att.r ∧ f.att.n = g.att.n ∧ f.att.t = g.att.t)) (by rw [decide_eq_true ((Mur.Att.eq_iff f.att g.att).1 hpr2)]; rfl) (run_neq_att (.tmp 37) (.tmp 39) 36 rfl f.att.hk f.att.hr f.att.ht g.att.hk g.att.hr g.att.ht f.att.hn g.att.hn (by kernel_rfl) (by kernel_rfl))) ?_
   refine rP 32 41 (.bool false) ?_
   refine rP 33 42 (.bool false) ?_
   refine rP 34 43 (pt w.heap.size 178) ?_
   refine rQ 35 44 (.agg ((b8s f.root).toArray)) rfl rfl (loadR 29 (.tmp 43) rfl _ Tryd.underlying29 rfl w.heap.size 178 (by kernel_rfl) (b8s f.root) (by rw [b8s_length, hI.ok.root]; kernel_rfl) (show World.rangeAt _ _ (0 + 178) _ from segs_row (frmL_sz hI.ok.sum hI.ok.key f.att.hk f.att.hr f.att.ht hI.ok.root) (range_row (Chg.hp ch2 hb1 trivial)) 23 rfl rfl)) ?_
   refine rP 36 45 (pt W1.heap.size 178) ?_
   refine rQ 37 46 (.agg ((b8s g.root).toArray)) rfl rfl (loadR 29 (.tmp 45) rfl _ Tryd.underlying29 rfl W1.heap.size 178 (by kernel_rfl) (b8s g.root) (by rw [b8s_length, hJ.ok.root]; kernel_rfl) (show World.rangeAt _ _ (0 + 178) _ from segs_row (frmL_sz hJ.ok.sum hJ.ok.key g.att.hk g.att.hr g.att.ht hJ.ok.root) (range_row hb2) 23 rfl rfl)) ?_
   by_cases hpr3 : f.root = g.root
   ·refine rQ 38 47 _ rfl rfl (boolF (b := !decide (f.root = g.root)) (by rw [decide_eq_true hpr3]; rfl) (run_neq_dg digT f.root g.root hI.ok.root hJ.ok.root _ (.tmp 44) (.tmp 46) 29 rfl (by kernel_rfl) (by kernel_rfl))) ?_
    refine rP 39 48 (.bool false) ?_
    refine rP 40 49 (.bool false) ?_
    refine rP 41 50 (pt w.heap.size 210) ?_
    refine Wk.norm 156 [(2, pt w.heap.size 0), (3, pt W1.heap.size 0), (49, .bool false), (50, pt w.heap.size 210)] (by kernel_rfl) (by kernel_rfl) (by kernel_rfl) ?_
    intro bb6
    refine rQ 42 51 _ rfl rfl (ld 3 50 w.heap.size 210 (.int .i64 f.chunk) (show World.cell? _ ⟨_, 0 + 210, _⟩ = _ from segs_cell (frmL_sz hI.ok.sum hI.ok.key f.att.hk f.att.hr f.att.ht hI.ok.root) (range_row (Chg.hp ch2 hb1 trivial)) 24 rfl rfl)) ?_
    refine rP 43 52 (pt W1.heap.size 210) ?_
    refine rQ 44 53 _ rfl rfl (ld 3 52 W1.heap.size 210 (.int .i64 g.chunk) (show World.cell? _ ⟨_, 0 + 210, _⟩ = _ from segs_cell (frmL_sz hJ.ok.sum hJ.ok.key g.att.hk g.att.hr g.att.ht hJ.ok.root) (range_row hb2) 24 rfl rfl)) ?_
    by_cases hx4 : f.chunk ≠ g.chunk
    ·refine rQ 45 54 _ rfl rfl (qboolT (b := (f.chunk != g.chunk)) (bne_iff_ne.2 (by first | exact hx4 | omega))) ?_
     refine Wk.many 156 19 46 [(49, .bool false), (54, .bool true)] 73 (.bool true) (by kernel_rfl) (by kernel_rfl) (by kernel_rfl) (by kernel_rfl) ?_
     intro bb7
     refine rEnd 65 rfl (nxt (wp_cond_true (by kernel_rfl) (wp_seq (reg ?_))))
     refine rP 0 4 (.bool false) ?_
     refine rEnd 1 rfl (nxt (wp_ret (thR ?_)))
     have kk7 : Chg [] w W1 := Chg.step ((Chg.refl _).more (by simp)) ch1 trivial
     have kk8 := Chg.step kk7 ch2 trivial
     refine rt (.bool false) ?_
     exact ⟨_, rfl, ⟨fun h_ => (by cases h_), fun e_ => absurd (congrArg (fun x_ : Frm => x_.chunk) e_) (by first | exact hx4 | omega)⟩, kk8⟩
    refine rQ 45 54 _ rfl rfl (qboolF (b := (f.chunk != g.chunk)) (bne_eq_false_iff_eq.2 (by first | exact hx4 | omega))) ?_
    refine rP 46 55 (.bool false) ?_
    refine rP 47 56 (.bool false) ?_
    refine rP 48 57 (pt w.heap.size 211) ?_
    refine rQ 49 58 _ rfl rfl (ld 22 57 w.heap.size 211 (.slice z.y.A z.y.n z.y.c) (show World.cell? _ ⟨_, 0 + 211, _⟩ = _ from segs_cell (frmL_sz hI.ok.sum hI.ok.key f.att.hk f.att.hr f.att.ht hI.ok.root) (range_row (Chg.hp ch2 hb1 trivial)) 25 rfl rfl)) ?_
    have kk9 : Chg [] w W1 := Chg.step ((Chg.refl _).more (by simp)) ch1 trivial
    have kk10 := Chg.step kk9 ch2 trivial
    refine rQ 50 59 (.string (Mur.str f.byt)) rfl rfl (run_str 22 9 (.tmp 58) 5 rfl Tryd.underlying22 Tryd.underlying5 Tryd.underlying9 z.y.A z.y.n z.y.c f.byt (by kernel_rfl) (byt_chg hL.byt kk10 (fun g off e hl => trivial))) ?_
    refine rP 51 60 (pt W1.heap.size 211) ?_
    refine rQ 52 61 _ rfl rfl (ld 22 60 W1.heap.size 211 (.slice y.y.A y.y.n y.y.c) (show World.cell? _ ⟨_, 0 + 211, _⟩ = _ from segs_cell (frmL_sz hJ.ok.sum hJ.ok.key g.att.hk g.att.hr g.att.ht hJ.ok.root) (range_row hb2) 25 rfl rfl)) ?_
    refine rQ 53 62 (.string (Mur.str g.byt)) rfl rfl (run_str 22 9 (.tmp 61) 5 rfl Tryd.underlying22 Tryd.underlying5 Tryd.underlying9 y.y.A y.y.n y.y.c g.byt (by kernel_rfl) (byt_chg hM.byt kk10 (fun g off e hl => trivial))) ?_
    by_cases hx5 : f.byt ≠ g.byt
    ·refine rQ 54 63 _ rfl rfl (boolT (b := decide (f.byt ≠ g.byt)) (decide_eq_true (hx5)) (Mur.strne 9 9 (.tmp 59) (.tmp 62) rfl f.byt g.byt (by kernel_rfl) (by kernel_rfl))) ?_
     refine Wk.many 156 10 55 [(56, .bool false), (63, .bool true)] 73 (.bool true) (by kernel_rfl) (by kernel_rfl) (by kernel_rfl) (by kernel_rfl) ?_
     intro bb8
     refine rEnd 65 rfl (nxt (wp_cond_true (by kernel_rfl) (wp_seq (reg ?_))))
     refine rP 0 4 (.bool false) ?_
     refine rEnd 1 rfl (nxt (wp_ret (thR ?_)))
     refine rt (.bool false) ?_
     exact ⟨_, rfl, ⟨fun h_ => (by cases h_), fun e_ => absurd (congrArg (fun x_ : Frm => x_.byt) e_) (hx5)⟩, kk10⟩
    refine rQ 54 63 _ rfl rfl (boolF (b := decide (f.byt ≠ g.byt)) (decide_eq_false (hx5)) (Mur.strne 9 9 (.tmp 59) (.tmp 62) rfl f.byt g.byt (by kernel_rfl) (by kernel_rfl))) ?_
    refine rP 55 64 (.bool false) ?_
    refine Wk.norm 156 [(2, pt w.heap.size 0), (3, pt W1.heap.size 0), (64, .bool false)] (by kernel_rfl) (by kernel_rfl) (by kernel_rfl) ?_
    intro bb9
    refine rP 56 65 (.bool false) ?_
    refine rP 57 66 (pt w.heap.size 212) ?_
    refine rQ 58 67 _ rfl rfl (ld 37 66 w.heap.size 212 (.slice z.f.A z.f.n z.f.c) (show World.cell? _ ⟨_, 0 + 212, _⟩ = _ from segs_cell (frmL_sz hI.ok.sum hI.ok.key f.att.hk f.att.hr f.att.ht hI.ok.root) (range_row (Chg.hp ch2 hb1 trivial)) 26 rfl rfl)) ?_
    refine rP 59 68 (.int .i64 ((z.f.n : Nat) : Int)) ?_
    refine rP 60 69 (pt W1.heap.size 212) ?_
    refine rQ 61 70 _ rfl rfl (ld 37 69 W1.heap.size 212 (.slice y.f.A y.f.n y.f.c) (show World.cell? _ ⟨_, 0 + 212, _⟩ = _ from segs_cell (frmL_sz hJ.ok.sum hJ.ok.key g.att.hk g.att.hr g.att.ht hJ.ok.root) (range_row hb2) 26 rfl rfl)) ?_
    refine rP 62 71 (.int .i64 ((y.f.n : Nat) : Int)) ?_
    by_cases hx6 : ((z.f.n : Nat) : Int) ≠ ((y.f.n : Nat) : Int)
    ·refine rQ 63 72 _ rfl rfl (qboolT (b := (((z.f.n : Nat) : Int) != ((y.f.n : Nat) : Int))) (bne_iff_ne.2 (by first | exact hx6 | omega))) ?_
     refine rP 64 73 (.bool true) ?_
     refine rEnd 65 rfl (nxt (wp_cond_true (by kernel_rfl) (wp_seq (reg ?_))))
     refine rP 0 4 (.bool false) ?_
     refine rEnd 1 rfl (nxt (wp_ret (thR ?_)))
     refine rt (.bool false) ?_
     exact ⟨_, rfl, ⟨fun h_ => (by cases h_), fun e_ => by have h1_ : f.prf.length = g.prf.length := congrArg (fun x_ : Frm => x_.prf.length) e_; have h2_ : f.pUpd.length = g.pUpd.length := congrArg (fun x_ : Frm => x_.pUpd.length) e_; omega⟩, kk10⟩
    refine rQ 63 72 _ rfl rfl (qboolF (b := (((z.f.n : Nat) : Int) != ((y.f.n : Nat) : Int))) (bne_eq_false_iff_eq.2 (by first | exact hx6 | omega))) ?_
    refine rP 64 73 (.bool false) ?_
    refine rEnd 65 rfl (nxt (wp_cond_false (by kernel_rfl) (wp_skip (nxt (wp_seq (wp_seq (reg ?_)))))))
    refine rP 0 5 (.int .i64 0) ?_
    refine rEnd 1 rfl (nxt (wp_block ?_))
    have hne_A : z.f.n = y.f.n := by omega
    refine Wk.loop (fun m_ a wr => ∃ (iA : Nat), m_ = z.f.n - iA ∧ a = S25_F1 a.tmps (pt w.heap.size 0) (pt W1.heap.size 0) (.int .i64 ((iA : Nat) : Int)) ∧ iA ≤ z.f.n ∧ f.prf.take iA = g.prf.take iA ∧ wr.heap[w.heap.size]? = some (.cells (frmP f z).flatten.toArray 39 (0, 0)) ∧ wr.heap[W1.heap.size]? = some (.cells (frmP g y).flatten.toArray 39 (0, 0)) ∧ Chg [] w wr) (z.f.n - 0) ?_ ?_
    ·refine ⟨0, rfl, by kernel_rfl, (by omega), rfl, (Chg.hp ch2 hb1 trivial), hb2, kk10⟩
    rintro mm1 aa1 W3 ⟨iA, hmm1, hF1, hi_A, htkA, hbxA0, hbxA1, HB⟩
    generalize aa1.tmps = bb10 at hF1
    subst hF1
    have hzB := HB.size
    have hbs0_ := (Array.getElem?_eq_some_iff.1 hbxA0).1
    have hbs1_ := (Array.getElem?_eq_some_iff.1 hbxA1).1
    by_cases hlt : iA < z.f.n
    ·obtain ⟨xa, hxa⟩ : ∃ x_, f.prf[iA]? = some x_ := ⟨_, List.getElem?_eq_getElem (by omega)⟩
     obtain ⟨g1, o1, hAxa_, hr1⟩ := hL.prf.row (map_at b8s hxa) (by decide)
     obtain ⟨xb, hxb⟩ : ∃ x_, g.prf[iA]? = some x_ := ⟨_, List.getElem?_eq_getElem (by omega)⟩
     obtain ⟨g2, o2, hAxb_, hr2⟩ := hM.prf.row (map_at b8s hxb) (by decide)
     refine wp_seq (wp_seq (reg ?_))
     refine rP 0 74 (.int .i64 ((iA : Nat) : Int)) ?_
     refine rP 1 75 (pt w.heap.size 212) ?_
     refine rQ 2 76 _ rfl rfl (ld 37 75 w.heap.size 212 (.slice z.f.A z.f.n z.f.c) (show World.cell? _ ⟨_, 0 + 212, _⟩ = _ from segs_cell (frmL_sz hI.ok.sum hI.ok.key f.att.hk f.att.hr f.att.ht hI.ok.root) (range_row hbxA0) 26 rfl rfl)) ?_
     refine rP 3 77 (.int .i64 ((z.f.n : Nat) : Int)) ?_
     refine rQ 4 78 _ rfl rfl (qboolT (b := decide (((iA : Nat) : Int) < ((z.f.n : Nat) : Int))) (decide_eq_true (by omega))) ?_
     refine rEnd 5 rfl (nxt (wp_cond_true (by kernel_rfl) (wp_skip (nxt (wp_seq (wp_block (wp_seq ?_)))))))
     refine dReg ([]) (by kernel_rfl) ?_
     intro W4 ch3 sz3
     have zz3 := ch3.size
     have sS1 : Chg ([]) W4 W4 := (Chg.refl _).more (by simp)
     refine dW 0 81 (pt w.heap.size 212) sS1 ?_
     refine dV 1 82 (.slice z.f.A z.f.n z.f.c) rfl rfl (fun w' hw' => (ld 37 81 w.heap.size 212 (.slice z.f.A z.f.n z.f.c) (show World.cell? _ ⟨_, 0 + 212, _⟩ = _ from segs_cell (frmL_sz hI.ok.sum hI.ok.key f.att.hk f.att.hr f.att.ht hI.ok.root) (range_row (Chg.hp hw' (Chg.hp ch3 hbxA0 trivial) trivial)) 26 rfl rfl))) sS1 ?_
     refine dW 2 83 (.int .i64 ((iA : Nat) : Int)) sS1 ?_
     refine dV 3 84 (pt g1 (o1 + iA * 32)) rfl rfl (fun w' hw' => (index_sl 37 29 (.tmp 82) (.tmp 83) rfl Tryd.underlying37 32 (by kernel_rfl) g1 o1 z.f.n z.f.c iA .i64 (by rw [← hAxa_]; kernel_rfl) (by kernel_rfl) (by omega))) sS1 ?_
     have kk11 := Chg.step HB ch3 trivial
     refine dV 4 85 (.agg ((b8s xa).toArray)) rfl rfl (fun w' hw' => (loadR 29 (.tmp 84) rfl _ Tryd.underlying29 rfl g1 (o1 + iA * 32) (by kernel_rfl) (b8s xa) (by rw [b8s_length, hI.ok.prf xa (List.mem_of_getElem? hxa)]; kernel_rfl) (Chg.range hw' (Chg.range kk11 hr1 trivial) trivial))) sS1 ?_
     refine dW 5 86 (pt W1.heap.size 212) sS1 ?_
     refine dV 6 87 (.slice y.f.A y.f.n y.f.c) rfl rfl (fun w' hw' => (ld 37 86 W1.heap.size 212 (.slice y.f.A y.f.n y.f.c) (show World.cell? _ ⟨_, 0 + 212, _⟩ = _ from segs_cell (frmL_sz hJ.ok.sum hJ.ok.key g.att.hk g.att.hr g.att.ht hJ.ok.root) (range_row (Chg.hp hw' (Chg.hp ch3 hbxA1 trivial) trivial)) 26 rfl rfl))) sS1 ?_
     refine dW 7 88 (.int .i64 ((iA : Nat) : Int)) sS1 ?_
     refine dV 8 89 (pt g2 (o2 + iA * 32)) rfl rfl (fun w' hw' => (index_sl 37 29 (.tmp 87) (.tmp 88) rfl Tryd.underlying37 32 (by kernel_rfl) g2 o2 y.f.n y.f.c iA .i64 (by rw [← hAxb_]; kernel_rfl) (by kernel_rfl) (by omega))) sS1 ?_
     refine dV 9 90 (.agg ((b8s xb).toArray)) rfl rfl (fun w' hw' => (loadR 29 (.tmp 89) rfl _ Tryd.underlying29 rfl g2 (o2 + iA * 32) (by kernel_rfl) (b8s xb) (by rw [b8s_length, hJ.ok.prf xb (List.mem_of_getElem? hxb)]; kernel_rfl) (Chg.range hw' (Chg.range kk11 hr2 trivial) trivial))) sS1 ?_
     by_cases hpr4 : xa = xb
     ·refine dV 10 91 (.bool false) rfl rfl (fun w' hw' => (boolF (b := !decide (xa = xb)) (by rw [decide_eq_true hpr4]; rfl) (run_neq_dg digT xa xb (hI.ok.prf xa (List.mem_of_getElem? hxa)) (hJ.ok.prf xb (List.mem_of_getElem? hxb)) _ (.tmp 85) (.tmp 90) 29 rfl (by kernel_rfl) (by kernel_rfl)))) sS1 ?_
      refine dEnd (by kernel_rfl) (nxt (wp_cond_false (by kernel_rfl) (wp_skip (inN (nxt (reg ?_))))))
      refine rP 0 79 (.int .i64 ((iA : Nat) : Int)) ?_
      refine rQ 1 80 _ rfl rfl (qint64 (n := ((iA : Nat) : Int) + 1) (z := ((iA + 1 : Nat) : Int)) (by omega) (by omega) (by omega)) ?_
      refine rP 2 5 (.int .i64 ((iA + 1 : Nat) : Int)) ?_
      refine rEnd 3 rfl (nxt ?_)
      refine ⟨_, ?_, iA + 1, rfl, by kernel_rfl, (by omega), (by rw [take_sn hxa, take_sn hxb, htkA, hpr4]), (Chg.hp ch3 hbxA0 trivial), (Chg.hp ch3 hbxA1 trivial), kk11⟩
      omega
     refine dV 10 91 (.bool true) rfl rfl (fun w' hw' => (boolT (b := !decide (xa = xb)) (by rw [decide_eq_false hpr4]; rfl) (run_neq_dg digT xa xb (hI.ok.prf xa (List.mem_of_getElem? hxa)) (hJ.ok.prf xb (List.mem_of_getElem? hxb)) _ (.tmp 85) (.tmp 90) 29 rfl (by kernel_rfl) (by kernel_rfl)))) sS1 ?_
     refine dEnd (by kernel_rfl) (nxt (wp_cond_true (by kernel_rfl) (wp_seq (reg ?_))))
     refine rP 0 4 (.bool false) ?_
     refine rEnd 1 rfl (nxt (wp_ret (inR (thR (thR (inR (thR ?_)))))))
     refine rt (.bool false) ?_
     exact ⟨_, rfl, ⟨fun h_ => (by cases h_), fun e_ => absurd (Option.some.inj (by rw [← hxa, ← hxb, e_])) hpr4⟩, kk11⟩
    rw [List.take_of_length_le (show f.prf.length ≤ iA by omega), List.take_of_length_le (show g.prf.length ≤ iA by omega)] at htkA
    refine wp_seq (wp_seq (reg ?_))
    refine rP 0 74 (.int .i64 ((iA : Nat) : Int)) ?_
    refine rP 1 75 (pt w.heap.size 212) ?_
    refine rQ 2 76 _ rfl rfl (ld 37 75 w.heap.size 212 (.slice z.f.A z.f.n z.f.c) (show World.cell? _ ⟨_, 0 + 212, _⟩ = _ from segs_cell (frmL_sz hI.ok.sum hI.ok.key f.att.hk f.att.hr f.att.ht hI.ok.root) (range_row hbxA0) 26 rfl rfl)) ?_
    refine rP 3 77 (.int .i64 ((z.f.n : Nat) : Int)) ?_
    refine rQ 4 78 _ rfl rfl (qboolF (b := decide (((iA : Nat) : Int) < ((z.f.n : Nat) : Int))) (decide_eq_false (by omega))) ?_
    refine rEnd 5 rfl (nxt (wp_cond_false (by kernel_rfl) (wp_exit (thX (thX (inX (nxt (wp_seq ?_))))))))
    refine Wk.cut (fun a wj => ∃ (q6 : Nat) (q7 : Nat), a = S25_J8_1 a.tmps (pt w.heap.size 0) (pt W1.heap.size 0) (pt q6 0) (pt q7 0) ∧ Chg [] W3 wj ∧ wj.heap[q6]? = some (.cells #[.int .i64 f.pTo, .int .u8 ((f.pKind.toNat : Nat) : Int), .int .u64 ((f.pSeq : Nat) : Int), .int .i64 f.pAbout, .slice z.u.A z.u.n z.u.c] 27 (0, 0)) ∧ wj.heap[q7]? = some (.cells #[.int .i64 g.pTo, .int .u8 ((g.pKind.toNat : Nat) : Int), .int .u64 ((g.pSeq : Nat) : Int), .int .i64 g.pAbout, .slice y.u.A y.u.n y.u.c] 27 (0, 0))) ?_ ?_
    ·refine dReg ([]) (by kernel_rfl) ?_
     intro W5 ch4 sz4
     have zz4 := ch4.size
     have sS2 : Chg ([]) W5 W5 := (Chg.refl _).more (by simp)
     refine dW 0 92 (pt w.heap.size 3) sS2 ?_
     refine dV 1 93 (.agg #[.int .i64 f.pTo, .int .u8 ((f.pKind.toNat : Nat) : Int), .int .u64 ((f.pSeq : Nat) : Int), .int .i64 f.pAbout, .slice z.u.A z.u.n z.u.c]) rfl rfl (fun w' hw' => (loadR 27 (.tmp 92) rfl _ Tryd.underlying27 rfl w.heap.size 3 (by kernel_rfl) [.int .i64 f.pTo, .int .u8 ((f.pKind.toNat : Nat) : Int), .int .u64 ((f.pSeq : Nat) : Int), .int .i64 f.pAbout, .slice z.u.A z.u.n z.u.c] (by kernel_rfl) (show World.rangeAt _ _ (0 + 3) _ from segs_rng (frmL_sz hI.ok.sum hI.ok.key f.att.hk f.att.hr f.att.ht hI.ok.root) (range_row (Chg.hp hw' (Chg.hp ch4 hbxA0 trivial) trivial)) 3 5 rfl rfl))) sS2 ?_
     refine dW 2 94 (pt W1.heap.size 3) sS2 ?_
     refine dV 3 95 (.agg #[.int .i64 g.pTo, .int .u8 ((g.pKind.toNat : Nat) : Int), .int .u64 ((g.pSeq : Nat) : Int), .int .i64 g.pAbout, .slice y.u.A y.u.n y.u.c]) rfl rfl (fun w' hw' => (loadR 27 (.tmp 94) rfl _ Tryd.underlying27 rfl W1.heap.size 3 (by kernel_rfl) [.int .i64 g.pTo, .int .u8 ((g.pKind.toNat : Nat) : Int), .int .u64 ((g.pSeq : Nat) : Int), .int .i64 g.pAbout, .slice y.u.A y.u.n y.u.c] (by kernel_rfl) (show World.rangeAt _ _ (0 + 3) _ from segs_rng (frmL_sz hJ.ok.sum hJ.ok.key g.att.hk g.att.hr g.att.ht hJ.ok.root) (range_row (Chg.hp hw' (Chg.hp ch4 hbxA1 trivial) trivial)) 3 5 rfl rfl))) sS2 ?_
     refine dOp2 4 5 (by kernel_rfl) ?_ ?_
     ·refine oEx (some 6) _ rfl rfl (by kernel_rfl) (new_ex (pt W5.heap.size 0) #[.int .i64 0, .int .u8 0, .int .u64 0, .int .i64 0, .slice none 0 0] 27 (by kernel_rfl)) ?_
      rintro _ W6 ⟨rfl, hb3, ch5, sz5⟩
      have zz5 := ch5.size
      have sS3 := Chg.step sS2 ch5 trivial
      refine ⟨sS3, ?_⟩
      refine dOp 5 (by kernel_rfl) ?_
      refine oEx (some 7) _ rfl rfl (by kernel_rfl) (new_ex (pt W6.heap.size 0) #[.int .i64 0, .int .u8 0, .int .u64 0, .int .i64 0, .slice none 0 0] 27 (by kernel_rfl)) ?_
      rintro _ W7 ⟨rfl, hb4, ch6, sz6⟩
      have zz6 := ch6.size
      have sS4 := Chg.step sS3 ch6 trivial
      refine ⟨sS4, ?_⟩
      refine dOp 6 (by kernel_rfl) ?_
      refine oExS none _ rfl rfl (by kernel_rfl) (Wk.storeR 27 (.tmp 6) (.tmp 93) rfl W5.heap.size 0 (by kernel_rfl) ([.int .i64 f.pTo, .int .u8 ((f.pKind.toNat : Nat) : Int), .int .u64 ((f.pSeq : Nat) : Int), .int .i64 f.pAbout, .slice z.u.A z.u.n z.u.c]) (by kernel_rfl) (by kernel_rfl) (by intro v hv; simp at hv; rcases hv with h | h | h | h | h <;> (subst h; rfl)) 27 ([.int .i64 0, .int .u8 0, .int .u64 0, .int .i64 0, .slice none 0 0]) (Chg.hp ch6 hb3 trivial) (by simp)) ?_
      rintro W8 ⟨hb5, ch7⟩
      replace hb5 : W8.heap[W5.heap.size]? = some (.cells #[.int .i64 f.pTo, .int .u8 ((f.pKind.toNat : Nat) : Int), .int .u64 ((f.pSeq : Nat) : Int), .int .i64 f.pAbout, .slice z.u.A z.u.n z.u.c] 27 (0, 0)) := hb5
      have zz7 := ch7.size
      have sS5 := Chg.step sS4 ch7 ⟨.inr (by omega), trivial⟩
      refine ⟨sS5, ?_⟩
      refine dOp 7 (by kernel_rfl) ?_
      refine oExS none _ rfl rfl (by kernel_rfl) (Wk.storeR 27 (.tmp 7) (.tmp 95) rfl W6.heap.size 0 (by kernel_rfl) ([.int .i64 g.pTo, .int .u8 ((g.pKind.toNat : Nat) : Int), .int .u64 ((g.pSeq : Nat) : Int), .int .i64 g.pAbout, .slice y.u.A y.u.n y.u.c]) (by kernel_rfl) (by kernel_rfl) (by intro v hv; simp at hv; rcases hv with h | h | h | h | h <;> (subst h; rfl)) 27 ([.int .i64 0, .int .u8 0, .int .u64 0, .int .i64 0, .slice none 0 0]) (Chg.hp ch7 hb4 ⟨by omega, trivial⟩) (by simp)) ?_
      rintro W10 ⟨hb6, ch8⟩
      replace hb6 : W10.heap[W6.heap.size]? = some (.cells #[.int .i64 g.pTo, .int .u8 ((g.pKind.toNat : Nat) : Int), .int .u64 ((g.pSeq : Nat) : Int), .int .i64 g.pAbout, .slice y.u.A y.u.n y.u.c] 27 (0, 0)) := hb6
      have zz8 := ch8.size
      have sS6 := Chg.step sS5 ch8 ⟨.inr (by omega), trivial⟩
      refine ⟨sS6, ?_⟩
      refine dEnd (by kernel_rfl) (nxt ?_)
      exact ⟨W5.heap.size, W6.heap.size, by kernel_rfl, (Chg.step (Chg.step (Chg.step (Chg.step (Chg.step ((Chg.refl _).more (by simp) : Chg [] W3 W3) ch4 trivial) ch5 trivial) ch6 trivial) ch7 ⟨.inr (by omega), trivial⟩) ch8 ⟨.inr (by omega), trivial⟩), (Chg.hp ch8 hb5 ⟨by omega, trivial⟩), hb6⟩
     refine oEx (some 7) _ rfl rfl (by kernel_rfl) (new_ex (pt W5.heap.size 0) #[.int .i64 0, .int .u8 0, .int .u64 0, .int .i64 0, .slice none 0 0] 27 (by kernel_rfl)) ?_
     rintro _ W11 ⟨rfl, hb7, ch9, sz7⟩
     have zz9 := ch9.size
     have sS7 := Chg.step sS2 ch9 trivial
     refine ⟨sS7, ?_⟩
     refine dOp 4 (by kernel_rfl) ?_
     refine oEx (some 6) _ rfl rfl (by kernel_rfl) (new_ex (pt W11.heap.size 0) #[.int .i64 0, .int .u8 0, .int .u64 0, .int .i64 0, .slice none 0 0] 27 (by kernel_rfl)) ?_
     rintro _ W12 ⟨rfl, hb8, ch10, sz8⟩
     have zz10 := ch10.size
     have sS8 := Chg.step sS7 ch10 trivial
     refine ⟨sS8, ?_⟩
     refine dOp 6 (by kernel_rfl) ?_
     refine oExS none _ rfl rfl (by kernel_rfl) (Wk.storeR 27 (.tmp 6) (.tmp 93) rfl W11.heap.size 0 (by kernel_rfl) ([.int .i64 f.pTo, .int .u8 ((f.pKind.toNat : Nat) : Int), .int .u64 ((f.pSeq : Nat) : Int), .int .i64 f.pAbout, .slice z.u.A z.u.n z.u.c]) (by kernel_rfl) (by kernel_rfl) (by intro v hv; simp at hv; rcases hv with h | h | h | h | h <;> (subst h; rfl)) 27 ([.int .i64 0, .int .u8 0, .int .u64 0, .int .i64 0, .slice none 0 0]) hb8 (by simp)) ?_
     rintro W13 ⟨hb9, ch11⟩
     replace hb9 : W13.heap[W11.heap.size]? = some (.cells #[.int .i64 f.pTo, .int .u8 ((f.pKind.toNat : Nat) : Int), .int .u64 ((f.pSeq : Nat) : Int), .int .i64 f.pAbout, .slice z.u.A z.u.n z.u.c] 27 (0, 0)) := hb9
     have zz11 := ch11.size
     have sS9 := Chg.step sS8 ch11 ⟨.inr (by omega), trivial⟩
     refine ⟨sS9, ?_⟩
     refine dOp 7 (by kernel_rfl) ?_
     refine oExS none _ rfl rfl (by kernel_rfl) (Wk.storeR 27 (.tmp 7) (.tmp 95) rfl W5.heap.size 0 (by kernel_rfl) ([.int .i64 g.pTo, .int .u8 ((g.pKind.toNat : Nat) : Int), .int .u64 ((g.pSeq : Nat) : Int), .int .i64 g.pAbout, .slice y.u.A y.u.n y.u.c]) (by kernel_rfl) (by kernel_rfl) (by intro v hv; simp at hv; rcases hv with h | h | h | h | h <;> (subst h; rfl)) 27 ([.int .i64 0, .int .u8 0, .int .u64 0, .int .i64 0, .slice none 0 0]) (Chg.hp ch11 (Chg.hp ch10 hb7 trivial) ⟨by omega, trivial⟩) (by simp)) ?_
     rintro W14 ⟨hb10, ch12⟩
     replace hb10 : W14.heap[W5.heap.size]? = some (.cells #[.int .i64 g.pTo, .int .u8 ((g.pKind.toNat : Nat) : Int), .int .u64 ((g.pSeq : Nat) : Int), .int .i64 g.pAbout, .slice y.u.A y.u.n y.u.c] 27 (0, 0)) := hb10
     have zz12 := ch12.size
     have sS10 := Chg.step sS9 ch12 ⟨.inr (by omega), trivial⟩
     refine ⟨sS10, ?_⟩
     refine dEnd (by kernel_rfl) (nxt ?_)
     exact ⟨W11.heap.size, W5.heap.size, by kernel_rfl, (Chg.step (Chg.step (Chg.step (Chg.step (Chg.step ((Chg.refl _).more (by simp) : Chg [] W3 W3) ch4 trivial) ch9 trivial) ch10 trivial) ch11 ⟨.inr (by omega), trivial⟩) ch12 ⟨.inr (by omega), trivial⟩), (Chg.hp ch12 hb9 ⟨by omega, trivial⟩), hb10⟩
    rintro aa2 W15 ⟨q6, q7, hF2, ch13, hq6, hq7⟩
    have zz13 := ch13.size
    generalize aa2.tmps = bb11 at hF2
    subst hF2
    refine nxt (wp_seq (wp_seq (reg ?_)))
    refine rP 0 96 (pt q6 0) ?_
    refine rQ 1 97 _ rfl rfl (ld 3 96 q6 0 (.int .i64 f.pTo) ((cell_of_row _ _ 0 _ _ _ hq6).trans rfl)) ?_
    refine rP 2 98 (pt q7 0) ?_
    refine rQ 3 99 _ rfl rfl (ld 3 98 q7 0 (.int .i64 g.pTo) ((cell_of_row _ _ 0 _ _ _ hq7).trans rfl)) ?_
    by_cases hx7 : f.pTo ≠ g.pTo
    ·refine rQ 4 100 _ rfl rfl (qboolT (b := (f.pTo != g.pTo)) (bne_iff_ne.2 (by first | exact hx7 | omega))) ?_
     refine Wk.many 156 30 5 [(100, .bool true)] 130 (.bool true) (by kernel_rfl) (by kernel_rfl) (by kernel_rfl) (by kernel_rfl) ?_
     intro bb12
     refine rEnd 35 rfl (nxt (wp_cond_true (by kernel_rfl) (wp_seq (reg ?_))))
     refine rP 0 4 (.bool false) ?_
     refine rEnd 1 rfl (nxt (wp_ret (thR ?_)))
     have kk12 := Chg.step HB ch13 trivial
     refine rt (.bool false) ?_
     exact ⟨_, rfl, ⟨fun h_ => (by cases h_), fun e_ => absurd (congrArg (fun x_ : Frm => x_.pTo) e_) (by first | exact hx7 | omega)⟩, kk12⟩
    refine rQ 4 100 _ rfl rfl (qboolF (b := (f.pTo != g.pTo)) (bne_eq_false_iff_eq.2 (by first | exact hx7 | omega))) ?_
    refine rP 5 101 (.bool false) ?_
    refine rP 6 102 (pt q6 1) ?_
    refine rQ 7 103 _ rfl rfl (ld 5 102 q6 1 (.int .u8 ((f.pKind.toNat : Nat) : Int)) ((cell_of_row _ _ 1 _ _ _ hq6).trans rfl)) ?_
    refine rP 8 104 (pt q7 1) ?_
    refine rQ 9 105 _ rfl rfl (ld 5 104 q7 1 (.int .u8 ((g.pKind.toNat : Nat) : Int)) ((cell_of_row _ _ 1 _ _ _ hq7).trans rfl)) ?_
    by_cases hx8 : ((f.pKind.toNat : Nat) : Int) ≠ ((g.pKind.toNat : Nat) : Int)
    ·refine rQ 10 106 _ rfl rfl (qboolT (b := (((f.pKind.toNat : Nat) : Int) != ((g.pKind.toNat : Nat) : Int))) (bne_iff_ne.2 (by first | exact hx8 | omega))) ?_
     refine Wk.many 156 24 11 [(101, .bool false), (106, .bool true)] 130 (.bool true) (by kernel_rfl) (by kernel_rfl) (by kernel_rfl) (by kernel_rfl) ?_
     intro bb13
     refine rEnd 35 rfl (nxt (wp_cond_true (by kernel_rfl) (wp_seq (reg ?_))))
     refine rP 0 4 (.bool false) ?_
     refine rEnd 1 rfl (nxt (wp_ret (thR ?_)))
     have kk13 := Chg.step HB ch13 trivial
     refine rt (.bool false) ?_
     exact ⟨_, rfl, ⟨fun h_ => (by cases h_), fun e_ => absurd (congrArg (fun x_ : Frm => ((x_.pKind.toNat : Nat) : Int)) e_) (by first | exact hx8 | omega)⟩, kk13⟩
    refine rQ 10 106 _ rfl rfl (qboolF (b := (((f.pKind.toNat : Nat) : Int) != ((g.pKind.toNat : Nat) : Int))) (bne_eq_false_iff_eq.2 (by first | exact hx8 | omega))) ?_
    refine rP 11 107 (.bool false) ?_
    refine rP 12 108 (.bool false) ?_
    refine rP 13 109 (pt q6 2) ?_
    refine Wk.norm 156 [(2, pt w.heap.size 0), (3, pt W1.heap.size 0), (6, pt q6 0), (7, pt q7 0), (108, .bool false), (109, pt q6 2)] (by kernel_rfl) (by kernel_rfl) (by kernel_rfl) ?_
    intro bb14
    refine rQ 14 110 _ rfl rfl (ld 24 109 q6 2 (.int .u64 ((f.pSeq : Nat) : Int)) ((cell_of_row _ _ 2 _ _ _ hq6).trans rfl)) ?_
    refine rP 15 111 (pt q7 2) ?_
    refine rQ 16 112 _ rfl rfl (ld 24 111 q7 2 (.int .u64 ((g.pSeq : Nat) : Int)) ((cell_of_row _ _ 2 _ _ _ hq7).trans rfl)) ?_
    by_cases hx9 : ((f.pSeq : Nat) : Int) ≠ ((g.pSeq : Nat) : Int)
    ·refine rQ 17 113 _ rfl rfl (qboolT (b := (((f.pSeq : Nat) : Int) != ((g.pSeq : Nat) : Int))) (bne_iff_ne.2 (by first | exact hx9 | omega))) ?_
     refine Wk.many 156 17 18 [(108, .bool false), (113, .bool true)] 130 (.bool true) (by kernel_rfl) (by kernel_rfl) (by kernel_rfl) (by kernel_rfl) ?_
     intro bb15
     refine rEnd 35 rfl (nxt (wp_cond_true (by kernel_rfl) (wp_seq (reg ?_))))
     refine rP 0 4 (.bool false) ?_
     refine rEnd 1 rfl (nxt (wp_ret (thR ?_)))
     have kk14 := Chg.step HB ch13 trivial
     refine rt (.bool false) ?_
     exact ⟨_, rfl, ⟨fun h_ => (by cases h_), fun e_ => absurd (congrArg (fun x_ : Frm => ((x_.pSeq : Nat) : Int)) e_) (by first | exact hx9 | omega)⟩, kk14⟩
    refine rQ 17 113 _ rfl rfl (qboolF (b := (((f.pSeq : Nat) : Int) != ((g.pSeq : Nat) : Int))) (bne_eq_false_iff_eq.2 (by first | exact hx9 | omega))) ?_
    refine rP 18 114 (.bool false) ?_
    refine rP 19 115 (.bool false) ?_
    refine rP 20 116 (pt q6 3) ?_
    refine rQ 21 117 _ rfl rfl (ld 3 116 q6 3 (.int .i64 f.pAbout) ((cell_of_row _ _ 3 _ _ _ hq6).trans rfl)) ?_
    refine rP 22 118 (pt q7 3) ?_
    refine rQ 23 119 _ rfl rfl (ld 3 118 q7 3 (.int .i64 g.pAbout) ((cell_of_row _ _ 3 _ _ _ hq7).trans rfl)) ?_
    by_cases hx10 : f.pAbout ≠ g.pAbout
    ·refine rQ 24 120 _ rfl rfl (qboolT (b := (f.pAbout != g.pAbout)) (bne_iff_ne.2 (by first | exact hx10 | omega))) ?_
     refine Wk.many 156 10 25 [(115, .bool false), (120, .bool true)] 130 (.bool true) (by kernel_rfl) (by kernel_rfl) (by kernel_rfl) (by kernel_rfl) ?_
     intro bb16
     refine rEnd 35 rfl (nxt (wp_cond_true (by kernel_rfl) (wp_seq (reg ?_))))
     refine rP 0 4 (.bool false) ?_
     refine rEnd 1 rfl (nxt (wp_ret (thR ?_)))
     have kk15 := Chg.step HB ch13 trivial
     refine rt (.bool false) ?_
     exact ⟨_, rfl, ⟨fun h_ => (by cases h_), fun e_ => absurd (congrArg (fun x_ : Frm => x_.pAbout) e_) (by first | exact hx10 | omega)⟩, kk15⟩
    refine rQ 24 120 _ rfl rfl (qboolF (b := (f.pAbout != g.pAbout)) (bne_eq_false_iff_eq.2 (by first | exact hx10 | omega))) ?_
    refine rP 25 121 (.bool false) ?_
    refine rP 26 122 (.bool false) ?_
    refine rP 27 123 (pt q6 4) ?_
    refine Wk.norm 156 [(2, pt w.heap.size 0), (3, pt W1.heap.size 0), (6, pt q6 0), (7, pt q7 0), (122, .bool false), (123, pt q6 4)] (by kernel_rfl) (by kernel_rfl) (by kernel_rfl) ?_
    intro bb17
    refine rQ 28 124 _ rfl rfl (ld 25 123 q6 4 (.slice z.u.A z.u.n z.u.c) ((cell_of_row _ _ 4 _ _ _ hq6).trans rfl)) ?_
    refine rP 29 125 (.int .i64 ((z.u.n : Nat) : Int)) ?_
    refine rP 30 126 (pt q7 4) ?_
    refine rQ 31 127 _ rfl rfl (ld 25 126 q7 4 (.slice y.u.A y.u.n y.u.c) ((cell_of_row _ _ 4 _ _ _ hq7).trans rfl)) ?_
    refine rP 32 128 (.int .i64 ((y.u.n : Nat) : Int)) ?_
    by_cases hx11 : ((z.u.n : Nat) : Int) ≠ ((y.u.n : Nat) : Int)
    ·refine rQ 33 129 _ rfl rfl (qboolT (b := (((z.u.n : Nat) : Int) != ((y.u.n : Nat) : Int))) (bne_iff_ne.2 (by first | exact hx11 | omega))) ?_
     refine rP 34 130 (.bool true) ?_
     refine rEnd 35 rfl (nxt (wp_cond_true (by kernel_rfl) (wp_seq (reg ?_))))
     refine rP 0 4 (.bool false) ?_
     refine rEnd 1 rfl (nxt (wp_ret (thR ?_)))
     have kk16 := Chg.step HB ch13 trivial
     refine rt (.bool false) ?_
     exact ⟨_, rfl, ⟨fun h_ => (by cases h_), fun e_ => by have h1_ : f.prf.length = g.prf.length := congrArg (fun x_ : Frm => x_.prf.length) e_; have h2_ : f.pUpd.length = g.pUpd.length := congrArg (fun x_ : Frm => x_.pUpd.length) e_; omega⟩, kk16⟩
    refine rQ 33 129 _ rfl rfl (qboolF (b := (((z.u.n : Nat) : Int) != ((y.u.n : Nat) : Int))) (bne_eq_false_iff_eq.2 (by first | exact hx11 | omega))) ?_
    refine rP 34 130 (.bool false) ?_
    refine rEnd 35 rfl (nxt (wp_cond_false (by kernel_rfl) (wp_skip (nxt (wp_seq (wp_seq (reg ?_)))))))
    refine rP 0 8 (.int .i64 0) ?_
    refine rEnd 1 rfl (nxt (wp_block ?_))
    have hne_B : z.u.n = y.u.n := by omega
    refine Wk.loop (fun m_ a wr => ∃ (iB : Nat), m_ = z.u.n - iB ∧ a = S25_F2 a.tmps (pt w.heap.size 0) (pt W1.heap.size 0) (pt q6 0) (pt q7 0) (.int .i64 ((iB : Nat) : Int)) ∧ iB ≤ z.u.n ∧ f.pUpd.take iB = g.pUpd.take iB ∧ wr.heap[w.heap.size]? = some (.cells (frmP f z).flatten.toArray 39 (0, 0)) ∧ wr.heap[W1.heap.size]? = some (.cells (frmP g y).flatten.toArray 39 (0, 0)) ∧ wr.heap[q6]? = some (.cells #[.int .i64 f.pTo, .int .u8 ((f.pKind.toNat : Nat) : Int), .int .u64 ((f.pSeq : Nat) : Int), .int .i64 f.pAbout, .slice z.u.A z.u.n z.u.c] 27 (0, 0)) ∧ wr.heap[q7]? = some (.cells #[.int .i64 g.pTo, .int .u8 ((g.pKind.toNat : Nat) : Int), .int .u64 ((g.pSeq : Nat) : Int), .int .i64 g.pAbout, .slice y.u.A y.u.n y.u.c] 27 (0, 0)) ∧ Chg [] w wr) (z.u.n - 0) ?_ ?_
    ·have kk17 := Chg.step HB ch13 trivial
     refine ⟨0, rfl, by kernel_rfl, (by omega), rfl, (Chg.hp ch13 hbxA0 trivial), (Chg.hp ch13 hbxA1 trivial), hq6, hq7, kk17⟩
    rintro mm2 aa3 W16 ⟨iB, hmm2, hF3, hi_B, htkB, hbxB0, hbxB1, hbxB2, hbxB3, HB⟩
    generalize aa3.tmps = bb18 at hF3
    subst hF3
    have hzB := HB.size
    have hbs0_ := (Array.getElem?_eq_some_iff.1 hbxB0).1
    have hbs1_ := (Array.getElem?_eq_some_iff.1 hbxB1).1
    have hbs2_ := (Array.getElem?_eq_some_iff.1 hbxB2).1
    have hbs3_ := (Array.getElem?_eq_some_iff.1 hbxB3).1
    by_cases hlt : iB < z.u.n
    ·obtain ⟨xa, hxa⟩ : ∃ x_, f.pUpd[iB]? = some x_ := ⟨_, List.getElem?_eq_getElem (by omega)⟩
     obtain ⟨g1, o1, hAxa_, hr1⟩ := hL.upd.row (map_at updC hxa) (by decide)
     obtain ⟨xb, hxb⟩ : ∃ x_, g.pUpd[iB]? = some x_ := ⟨_, List.getElem?_eq_getElem (by omega)⟩
     obtain ⟨g2, o2, hAxb_, hr2⟩ := hM.upd.row (map_at updC hxb) (by decide)
     refine wp_seq (wp_seq (reg ?_))
     refine rP 0 131 (.int .i64 ((iB : Nat) : Int)) ?_
     refine rP 1 132 (pt q6 4) ?_
     refine rQ 2 133 _ rfl rfl (ld 25 132 q6 4 (.slice z.u.A z.u.n z.u.c) ((cell_of_row _ _ 4 _ _ _ hbxB2).trans rfl)) ?_
     refine rP 3 134 (.int .i64 ((z.u.n : Nat) : Int)) ?_
     refine rQ 4 135 _ rfl rfl (qboolT (b := decide (((iB : Nat) : Int) < ((z.u.n : Nat) : Int))) (decide_eq_true (by omega))) ?_
     refine rEnd 5 rfl (nxt (wp_cond_true (by kernel_rfl) (wp_skip (nxt (wp_seq (wp_block (wp_seq ?_)))))))
     refine dReg ([]) (by kernel_rfl) ?_
     intro W17 ch14 sz9
     have zz14 := ch14.size
     have sS11 : Chg ([]) W17 W17 := (Chg.refl _).more (by simp)
     refine dW 0 138 (pt q6 4) sS11 ?_
     refine dV 1 139 (.slice z.u.A z.u.n z.u.c) rfl rfl (fun w' hw' => (ld 25 138 q6 4 (.slice z.u.A z.u.n z.u.c) ((cell_of_row _ _ 4 _ _ _ (Chg.hp hw' (Chg.hp ch14 hbxB2 trivial) trivial)).trans rfl))) sS11 ?_
     refine dW 2 140 (.int .i64 ((iB : Nat) : Int)) sS11 ?_
     refine dV 3 141 (pt g1 (o1 + iB * 3)) rfl rfl (fun w' hw' => (index_sl 25 66 (.tmp 139) (.tmp 140) rfl Tryd.underlying25 3 (by kernel_rfl) g1 o1 z.u.n z.u.c iB .i64 (by rw [← hAxa_]; kernel_rfl) (by kernel_rfl) (by omega))) sS11 ?_
     have kk18 := Chg.step HB ch14 trivial
     refine dV 4 142 (.agg ((updC xa).toArray)) rfl rfl (fun w' hw' => (loadR 66 (.tmp 141) rfl _ Tryd.underlying66 rfl g1 (o1 + iB * 3) (by kernel_rfl) (updC xa) (by kernel_rfl) (Chg.range hw' (Chg.range kk18 hr1 trivial) trivial))) sS11 ?_
     refine dW 5 143 (pt q7 4) sS11 ?_
     refine dV 6 144 (.slice y.u.A y.u.n y.u.c) rfl rfl (fun w' hw' => (ld 25 143 q7 4 (.slice y.u.A y.u.n y.u.c) ((cell_of_row _ _ 4 _ _ _ (Chg.hp hw' (Chg.hp ch14 hbxB3 trivial) trivial)).trans rfl))) sS11 ?_
     refine dW 7 145 (.int .i64 ((iB : Nat) : Int)) sS11 ?_
     refine dV 8 146 (pt g2 (o2 + iB * 3)) rfl rfl (fun w' hw' => (index_sl 25 66 (.tmp 144) (.tmp 145) rfl Tryd.underlying25 3 (by kernel_rfl) g2 o2 y.u.n y.u.c iB .i64 (by rw [← hAxb_]; kernel_rfl) (by kernel_rfl) (by omega))) sS11 ?_
     refine dV 9 147 (.agg ((updC xb).toArray)) rfl rfl (fun w' hw' => (loadR 66 (.tmp 146) rfl _ Tryd.underlying66 rfl g2 (o2 + iB * 3) (by kernel_rfl) (updC xb) (by kernel_rfl) (Chg.range hw' (Chg.range kk18 hr2 trivial) trivial))) sS11 ?_
     by_cases hpr5 : xa = xb
     ·refine dV 10 148 (.bool false) rfl rfl (fun w' hw' => (boolF (b := !decide (xa = xb)) (by rw [decide_eq_true hpr5]; rfl) (run_neq_upd (.tmp 142) (.tmp 147) 66 rfl (wf64 (hI.upd xa (List.mem_of_getElem? hxa)).1 (hI.upd xa (List.mem_of_getElem? hxa)).2) (wf64 (hJ.upd xb (List.mem_of_getElem? hxb)).1 (hJ.upd xb (List.mem_of_getElem? hxb)).2) (hI.ok.upd xa (List.mem_of_getElem? hxa)) (hJ.ok.upd xb (List.mem_of_getElem? hxb)) (by kernel_rfl) (by kernel_rfl)))) sS11 ?_
      refine dEnd (by kernel_rfl) (nxt (wp_cond_false (by kernel_rfl) (wp_skip (inN (nxt (reg ?_))))))
      refine rP 0 136 (.int .i64 ((iB : Nat) : Int)) ?_
      refine rQ 1 137 _ rfl rfl (qint64 (n := ((iB : Nat) : Int) + 1) (z := ((iB + 1 : Nat) : Int)) (by omega) (by omega) (by omega)) ?_
      refine rP 2 8 (.int .i64 ((iB + 1 : Nat) : Int)) ?_
      refine rEnd 3 rfl (nxt ?_)
      refine ⟨_, ?_, iB + 1, rfl, by kernel_rfl, (by omega), (by rw [take_sn hxa, take_sn hxb, htkB, hpr5]), (Chg.hp ch14 hbxB0 trivial), (Chg.hp ch14 hbxB1 trivial), (Chg.hp ch14 hbxB2 trivial), (Chg.hp ch14 hbxB3 trivial), kk18⟩
      omega
     refine dV 10 148 (.bool true) rfl rfl (fun w' hw' => (boolT (b := !decide (xa = xb)) (by rw [decide_eq_false hpr5]; rfl) (run_neq_upd (.tmp 142) (.tmp 147) 66 rfl (wf64 (hI.upd xa (List.mem_of_getElem? hxa)).1 (hI.upd xa (List.mem_of_getElem? hxa)).2) (wf64 (hJ.upd xb (List.mem_of_getElem? hxb)).1 (hJ.upd xb (List.mem_of_getElem? hxb)).2) (hI.ok.upd xa (List.mem_of_getElem? hxa)) (hJ.ok.upd xb (List.mem_of_getElem? hxb)) (by kernel_rfl) (by kernel_rfl)))) sS11 ?_
     refine dEnd (by kernel_rfl) (nxt (wp_cond_true (by kernel_rfl) (wp_seq (reg ?_))))
     refine rP 0 4 (.bool false) ?_
     refine rEnd 1 rfl (nxt (wp_ret (inR (thR (thR (inR (thR ?_)))))))
     refine rt (.bool false) ?_
     exact ⟨_, rfl, ⟨fun h_ => (by cases h_), fun e_ => absurd (Option.some.inj (by rw [← hxa, ← hxb, e_])) hpr5⟩, kk18⟩
    rw [List.take_of_length_le (show f.pUpd.length ≤ iB by omega), List.take_of_length_le (show g.pUpd.length ≤ iB by omega)] at htkB
    refine wp_seq (wp_seq (reg ?_))
    refine rP 0 131 (.int .i64 ((iB : Nat) : Int)) ?_
    refine rP 1 132 (pt q6 4) ?_
    refine rQ 2 133 _ rfl rfl (ld 25 132 q6 4 (.slice z.u.A z.u.n z.u.c) ((cell_of_row _ _ 4 _ _ _ hbxB2).trans rfl)) ?_
    refine rP 3 134 (.int .i64 ((z.u.n : Nat) : Int)) ?_
    refine rQ 4 135 _ rfl rfl (qboolF (b := decide (((iB : Nat) : Int) < ((z.u.n : Nat) : Int))) (decide_eq_false (by omega))) ?_
    refine rEnd 5 rfl (nxt (wp_cond_false (by kernel_rfl) (wp_exit (thX (thX (inX (nxt (wp_seq (reg ?_)))))))))
    refine rP 0 149 (pt w.heap.size 8) ?_
    refine rQ 1 150 (.agg ((Mur.msgC f.gos.kind z.p.A z.p.n z.p.c f.gos.sum f.gos.cnt z.i.A z.i.n z.i.c f.gos.ans).toArray)) rfl rfl (loadR 32 (.tmp 149) rfl _ Tryd.underlying32 rfl w.heap.size 8 (by kernel_rfl) (Mur.msgC f.gos.kind z.p.A z.p.n z.p.c f.gos.sum f.gos.cnt z.i.A z.i.n z.i.c f.gos.ans) (by rw [msgC_length hI.ok.sum]; kernel_rfl) (show World.rangeAt _ _ (0 + 8) _ from segs_rng (frmL_sz hI.ok.sum hI.ok.key f.att.hk f.att.hr f.att.ht hI.ok.root) (range_row hbxB0) 8 6 rfl rfl)) ?_
    refine rX 2 151 rfl rfl (Mur.buildR1 80 32 (.tmp 150) rfl Tryd.underlying80 Mur.msgZ 37 104 msgI (msgC_length rfl) (by decide) (by decide) (Mur.msgC f.gos.kind z.p.A z.p.n z.p.c f.gos.sum f.gos.cnt z.i.A z.i.n z.i.c f.gos.ans) (msgC_length hI.ok.sum) (by kernel_rfl)) ?_
    rintro _ W18 ⟨rfl, hb11, ch15, sz10⟩
    have zz15 := ch15.size
    refine rP 3 152 (pt W1.heap.size 8) ?_
    refine rQ 4 153 (.agg ((Mur.msgC g.gos.kind y.p.A y.p.n y.p.c g.gos.sum g.gos.cnt y.i.A y.i.n y.i.c g.gos.ans).toArray)) rfl rfl (loadR 32 (.tmp 152) rfl _ Tryd.underlying32 rfl W1.heap.size 8 (by kernel_rfl) (Mur.msgC g.gos.kind y.p.A y.p.n y.p.c g.gos.sum g.gos.cnt y.i.A y.i.n y.i.c g.gos.ans) (by rw [msgC_length hJ.ok.sum]; kernel_rfl) (show World.rangeAt _ _ (0 + 8) _ from segs_rng (frmL_sz hJ.ok.sum hJ.ok.key g.att.hk g.att.hr g.att.ht hJ.ok.root) (range_row (Chg.hp ch15 hbxB1 trivial)) 8 6 rfl rfl)) ?_
    refine rX 5 154 rfl rfl (Mur.buildR1 80 32 (.tmp 153) rfl Tryd.underlying80 Mur.msgZ 37 104 msgI (msgC_length rfl) (by decide) (by decide) (Mur.msgC g.gos.kind y.p.A y.p.n y.p.c g.gos.sum g.gos.cnt y.i.A y.i.n y.i.c g.gos.ans) (msgC_length hJ.ok.sum) (by kernel_rfl)) ?_
    rintro _ W19 ⟨rfl, hb12, ch16, sz11⟩
    have zz16 := ch16.size
    refine rC 6 155 33 [.tmp 151, .tmp 154] #[80, 80] [.slice (some ⟨W16.heap.size, 0, none⟩) 1 1, .slice (some ⟨W18.heap.size, 0, none⟩) 1 1] ?_
    have kk19 := Chg.step HB ch15 trivial
    have kk20 := Chg.step kk19 ch16 trivial
    refine (Same21_any W16.heap.size W18.heap.size f.gos.kind z.p.A z.p.n z.p.c f.gos.sum f.gos.cnt z.i.A z.i.n z.i.c f.gos.ans f.gos.pre f.gos.items g.gos.kind y.p.A y.p.n y.p.c g.gos.sum g.gos.cnt y.i.A y.i.n y.i.c g.gos.ans g.gos.pre g.gos.items W19 hI.ok.sum hJ.ok.sum (Chg.hp ch16 hb11 trivial) hb12 (LiesF.chg hL kk20 hLin_).pre (LiesF.chg hM kk20 hMin_).pre (LiesF.chg hL kk20 hLin_).its (LiesF.chg hM kk20 hMin_).its (by omega)).mono ?_
    rintro _ W20 ⟨bv1, rfl, hif1, ch17⟩
    have zz17 := ch17.size
    cases bv1
    ·refine ⟨_, rfl, ?_⟩
     refine rP 7 4 (.bool false) ?_
     refine rEnd 8 rfl (nxt (wp_ret ?_))
     have kk21 := Chg.step kk20 ch17 trivial
     refine rt (.bool false) ?_
     exact ⟨_, rfl, ⟨fun h_ => (by cases h_), fun e_ => absurd (msg_eq.1 (congrArg (fun x_ : Frm => x_.gos) e_)) (fun q_ => Bool.noConfusion (hif1.2 q_))⟩, kk21⟩
    refine ⟨_, rfl, ?_⟩
    refine rP 7 4 (.bool true) ?_
    refine rEnd 8 rfl (nxt (wp_ret ?_))
    have kk22 := Chg.step kk20 ch17 trivial
    refine rt (.bool true) ?_
    exact ⟨_, rfl, ⟨fun _ => Mur.frm_eq2 (UInt8.toNat_inj.1 (by have h_ := (Classical.not_not.1 (by first | exact hx1 | omega)); omega)) (Classical.not_not.1 (by first | exact hx2 | omega)) (Classical.not_not.1 (by first | exact hx3 | omega)) hpr1 hpr2 hpr3 (Classical.not_not.1 (by first | exact hx4 | omega)) (Classical.not_not.1 (hx5)) htkA (Classical.not_not.1 (by first | exact hx7 | omega)) (UInt8.toNat_inj.1 (by have h_ := (Classical.not_not.1 (by first | exact hx8 | omega)); omega)) (by have h_ := (Classical.not_not.1 (by first | exact hx9 | omega)); omega) (Classical.not_not.1 (by first | exact hx10 | omega)) htkB (msg_eq.2 (hif1.1 rfl)), fun _ => rfl⟩, kk22⟩
   refine rQ 38 47 _ rfl rfl (boolT (b := !decide (f.root = g.root)) (by rw [decide_eq_false hpr3]; rfl) (run_neq_dg digT f.root g.root hI.ok.root hJ.ok.root _ (.tmp 44) (.tmp 46) 29 rfl (by kernel_rfl) (by kernel_rfl))) ?_
   refine Wk.many 156 26 39 [(42, .bool false), (47, .bool true)] 73 (.bool true) (by kernel_rfl) (by kernel_rfl) (by kernel_rfl) (by kernel_rfl) ?_
   intro bb19
   refine rEnd 65 rfl (nxt (wp_cond_true (by kernel_rfl) (wp_seq (reg ?_))))
   refine rP 0 4 (.bool false) ?_
   refine rEnd 1 rfl (nxt (wp_ret (thR ?_)))
   have kk23 : Chg [] w W1 := Chg.step ((Chg.refl _).more (by simp)) ch1 trivial
   have kk24 := Chg.step kk23 ch2 trivial
   refine rt (.bool false) ?_
   exact ⟨_, rfl, ⟨fun h_ => (by cases h_), fun e_ => absurd (congrArg (fun x_ : Frm => x_.root) e_) hpr3⟩, kk24⟩
  refine rQ 31 40 _ rfl rfl (boolT (b := !decide (f.att.k = g.att.k ∧ f.att.r = g.att.r ∧ f.att.n = g.att.n ∧ f.att.t = g.att.t)) (by rw [decide_eq_false (fun q_ => hpr2 ((Mur.Att.eq_iff f.att g.att).2 q_))]; rfl) (run_neq_att (.tmp 37) (.tmp 39) 36 rfl f.att.hk f.att.hr f.att.ht g.att.hk g.att.hr g.att.ht f.att.hn g.att.hn (by kernel_rfl) (by kernel_rfl))) ?_
  refine Wk.many 156 33 32 [(35, .bool false), (40, .bool true)] 73 (.bool true) (by kernel_rfl) (by kernel_rfl) (by kernel_rfl) (by kernel_rfl) ?_
  intro bb20
  refine rEnd 65 rfl (nxt (wp_cond_true (by kernel_rfl) (wp_seq (reg ?_))))
  refine rP 0 4 (.bool false) ?_
  refine rEnd 1 rfl (nxt (wp_ret (thR ?_)))
  have kk25 : Chg [] w W1 := Chg.step ((Chg.refl _).more (by simp)) ch1 trivial
  have kk26 := Chg.step kk25 ch2 trivial
  refine rt (.bool false) ?_
  exact ⟨_, rfl, ⟨fun h_ => (by cases h_), fun e_ => absurd (congrArg (fun x_ : Frm => x_.att) e_) hpr2⟩, kk26⟩
 refine rQ 24 33 _ rfl rfl (boolT (b := !decide (f.cKey = g.cKey ∧ f.cNode = g.cNode ∧ f.cInc = g.cInc ∧ f.cCnt = g.cCnt ∧ f.cGone = g.cGone)) (by rw [decide_eq_false hpr1]; rfl) (run_neq_claim (.tmp 30) (.tmp 32) 34 rfl hI.ok.key hJ.ok.key (wf64 hI.cNo.1 hI.cNo.2) (wf64 hJ.cNo.1 hJ.cNo.2) hI.ok.inc hJ.ok.inc hI.ok.cnt hJ.ok.cnt (by kernel_rfl) (by kernel_rfl))) ?_
 refine Wk.many 156 40 25 [(28, .bool false), (33, .bool true)] 73 (.bool true) (by kernel_rfl) (by kernel_rfl) (by kernel_rfl) (by kernel_rfl) ?_
 intro bb21
 refine rEnd 65 rfl (nxt (wp_cond_true (by kernel_rfl) (wp_seq (reg ?_))))
 refine rP 0 4 (.bool false) ?_
 refine rEnd 1 rfl (nxt (wp_ret (thR ?_)))
 have kk27 : Chg [] w W1 := Chg.step ((Chg.refl _).more (by simp)) ch1 trivial
 have kk28 := Chg.step kk27 ch2 trivial
 refine rt (.bool false) ?_
 exact ⟨_, rfl, ⟨fun h_ => (by cases h_), fun e_ => absurd ⟨(congrArg (fun x_ : Frm => x_.cKey) e_), (congrArg (fun x_ : Frm => x_.cNode) e_), (congrArg (fun x_ : Frm => x_.cInc) e_), (congrArg (fun x_ : Frm => x_.cCnt) e_), (congrArg (fun x_ : Frm => x_.cGone) e_)⟩ hpr1⟩, kk28⟩
end Go.Proofs.YtgbadghjnpbiaaaDoor
