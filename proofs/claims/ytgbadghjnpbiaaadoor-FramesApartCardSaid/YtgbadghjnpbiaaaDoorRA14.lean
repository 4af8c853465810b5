/- What the row rests on, part 14. -/
import Derived.Test.YtgbadghjnpbiaaaDoorRA11
import Derived.Test.YtgbadghjnpbiaaaDoorRA13
import Derived.Test.YtgbadghjnpbiaaaDoorRA6
import Derived.Test.YtgbadghjnpbiaaaDoorRA4
import Derived.Test.YtgbadghjnpbiaaaDoorRA8
import Derived.Test.YtgbadghjnpbiaaaDoorRA5
namespace Go.Proofs.YtgbadghjnpbiaaaDoor
open Go.RowKit Wk
open Mur (b8s Byt Own8 Seg Segs flat cutA attC Att SlA OwnA rowA msgC byt_chg ok_cons frmP LiesF FrmIn headM run_built frmL_size frmL_sz frmL_all zs0 lies_none sl0_in store_seg1 segs_cell kind_of rd_tg_no rd_none run_neq_dg may_head rd_un)
set_option maxRecDepth 100000
set_option maxHeartbeats 4000000
theorem TagF_any (s : List UInt8) (A : Option Addr) (n c : Nat) (T : List UInt8 → List UInt8) (b : List UInt8) (B : Option Addr) (m d : Nat) (w : World) (hv : ShaVars w) (hb : Byt w A n s) (hnc : n ≤ c ∧ c ≤ 9223372036854775807) (ha : A = none → c = 0) (hn : n ≤ 1000000) (hT : ∀ x, T x = Mur.hmac s (18 :: x)) (hTl : ∀ x, (T x).length = 32) (hbB : Byt w B m b) (hmd : m ≤ d ∧ d ≤ 9223372036854775807) (hbn : B = none → d = 0) (hm : m ≤ 1000000) : Calls Tryd.prog 22 #[.slice A n c, .slice B m d] w fun e w' => e = .returned (.agg (b8s (T b)).toArray) ∧ Chg [] w w' := by
 have HV := Go.Lib.hid hv
 clear hv
 have HBY := Go.Lib.hid hb
 clear hb
 have HA := Go.Lib.hid ha
 clear ha
 have hbl2_ := hbB.1
 have hTl_ := hTl
 refine calls_of_wp Tryd.func22 rfl ?_
 refine wp_seq (reg ?_)
 refine rX 0 4 rfl rfl (new_ex (pt w.heap.size 0) Z32 29 (by kernel_rfl)) ?_
 rintro _ W1 ⟨rfl, hb1, ch1, sz1⟩
 have zz1 := ch1.size
 refine rEnd 1 rfl (nxt (wp_seq (reg ?_)))
 refine rP 0 5 (.slice A n c) ?_
 refine rX 1 6 rfl rfl (new_ex (.slice (some ⟨W1.heap.size, 0, none⟩) 1 1) #[.int .u8 18] 5 (by kernel_rfl)) ?_
 rintro _ W2 ⟨rfl, hb2, ch2, sz2⟩
 have zz2 := ch2.size
 refine rP 2 7 (.slice B m d) ?_
 refine rX 3 8 rfl rfl (new_ex (.slice (some ⟨W2.heap.size, 0, none⟩) 2 2) #[.slice (some ⟨W1.heap.size, 0, none⟩) 1 1, .slice B m d] 22 (by kernel_rfl)) ?_
 rintro _ W3 ⟨rfl, hb3, ch3, sz3⟩
 have zz3 := ch3.size
 refine rC 4 9 48 [.tmp 5, .tmp 8] #[22, 127] [.slice A n c, .slice (some ⟨W2.heap.size, 0, none⟩) 2 2] ?_
 have kk1 : Chg [] w W1 := Chg.step ((Chg.refl _).more (by simp)) ch1 trivial
 have kk2 := Chg.step kk1 ch2 trivial
 have kk3 := Chg.step kk2 ch3 trivial
 have hby1 := (Mur.byt_row [18] (Chg.hp ch3 hb2 trivial))
 have hby2 := (byt_chg hbB kk3 (fun g off e hl => trivial))
 refine (Tag_any s A n c ([⟨(some ⟨W1.heap.size, 0, none⟩), 1, 1, ([18])⟩, ⟨B, m, d, b⟩]) (some ⟨W2.heap.size, 0, none⟩) 2 2 W3 (HV.out.below (Chg.below0 kk3)) (byt_chg HBY.out kk3 (fun g off e hl => trivial)) (by omega) HA.out (by omega) (Mur.segs_lit [⟨(some ⟨W1.heap.size, 0, none⟩), 1, 1, ([18])⟩, ⟨B, m, d, b⟩] 2 hb3 (ok_cons ⟨(show 1 ≤ 1 by omega), (fun h => by cases h), hby1, (show 1 ≤ Go.maxLen by first | omega | (unfold Go.maxLen; omega))⟩ (ok_cons ⟨(show m ≤ d by omega), hbn, hby2, (show d ≤ Go.maxLen by first | omega | (unfold Go.maxLen; omega))⟩ Mur.ok_nil)) rfl) (by omega) (by show (([18]) ++ (b ++ [])).length ≤ _; simp only [List.length_append, List.length_nil, List.length_cons]; have hl0 := hby1.1; have hl1 := hby2.1; omega)).mono ?_
 rintro _ W4 ⟨dd1, hd1, hdl1, rfl, ch4⟩
 have zz4 := ch4.size
 refine ⟨_, rfl, ?_⟩
 refine rY 5 rfl rfl (Mur.storeAll 29 (.tmp 4) (.tmp 9) rfl w.heap.size (by kernel_rfl) dd1 32 hdl1 (by kernel_rfl) (by kernel_rfl) 29 Z32 (Chg.hp ch4 (Chg.hp ch3 (Chg.hp ch2 hb1 trivial) trivial) trivial) rfl) ?_
 rintro W5 ⟨hb4, ch5⟩
 have zz5 := ch5.size
 refine rEnd 6 rfl (nxt (wp_ret ?_))
 have hd_ : dd1 = T b := by rw [hT, hd1.out, Mur.tag_flat]
 have kk4 := Chg.step kk3 ch4 trivial
 have kk5 := Chg.step kk4 ch5 ⟨.inr (by omega), trivial⟩
 refine Wk.ret (.agg (b8s dd1).toArray) rfl (results_cell_row rfl _ _ w.heap.size 29 (b8s dd1).toArray (0, 0) _ (by kernel_rfl) hb4 Tryd.underlying29 rfl (by rw [List.size_toArray, Mur.b8s_length, hdl1]; kernel_rfl)) ?_
 exact ⟨by rw [hd_], kk5⟩
theorem ReadF_any (s : List UInt8) (A : Option Addr) (n c : Nat) (T : List UInt8 → List UInt8) (b : List UInt8) (B : Option Addr) (m d : Nat) (w : World) (hv : ShaVars w) (hb : Byt w A n s) (hnc : n ≤ c ∧ c ≤ 9223372036854775807) (ha : A = none → c = 0) (hn : n ≤ 1000000) (hT : ∀ x, T x = Mur.hmac s (18 :: x)) (hTl : ∀ x, (T x).length = 32) (hbB : Byt w B m b) (hmd : m ≤ d ∧ d ≤ 9223372036854775807) (hbn : B = none → d = 0) : Calls Tryd.prog 7 #[.slice A n c, .slice B m d] w fun e w' => ∃ (F : Mur.Frm) (Z : Mur.Zs) (er : Nat), e = .returned (.tuple #[.agg (frmP F Z).flatten.toArray, .int .i64 ((er : Nat) : Int)]) ∧ LiesF w' Z F ∧ Z.In (fun g => w.heap.size ≤ g) ∧ ((er = 0 ∧ Mur.readAll T b = .ok F ∧ FrmIn F) ∨ (er = 3 ∧ Mur.readAll T b = .long ∧ F = headM 0 0 0) ∨ (er = 5 ∧ Mur.readAll T b = .form ∧ F = headM 0 0 0) ∨ (er = 250 ∧ Mur.readAll T b = .tag ∧ F = headM 0 0 0)) ∧ Chg [] w w' := by
 have HV := Go.Lib.hid hv
 clear hv
 have HBY := Go.Lib.hid hb
 clear hb
 have HA := Go.Lib.hid ha
 clear ha
 have hbl2_ := hbB.1
 have hBlt : ∀ a, B = some a → 0 < m → a.block < w.heap.size := fun a e hn => Mur.byt_lt hbB e hn
 refine calls_of_wp Tryd.func7 rfl ?_
 refine wp_seq (reg ?_)
 refine rX 0 4 rfl rfl (new_ex (pt w.heap.size 0) ((frmh 0 0 0).flatten.toArray) 39 (by kernel_rfl)) ?_
 rintro _ W1 ⟨rfl, hb1, ch1, sz1⟩
 have zz1 := ch1.size
 refine rP 1 5 (.int .i64 0) ?_
 refine rEnd 2 rfl (nxt (wp_seq (wp_seq (reg ?_))))
 refine rP 0 10 (.slice B m d) ?_
 refine rP 1 11 (.int .i64 ((m : Nat) : Int)) ?_
 by_cases hx1 : ((m : Nat) : Int) > (2000 : Int)
 ·refine rQ 2 12 _ rfl rfl (qboolT (b := decide (((m : Nat) : Int) > (2000 : Int))) (decide_eq_true (by first | exact hx1 | omega))) ?_
  refine rEnd 3 rfl (nxt (wp_cond_true (by kernel_rfl) (wp_seq (reg ?_))))
  refine rQ 0 13 (.agg ((frmh 0 0 0).flatten.toArray)) rfl rfl (run_built 39 _ rfl [] (by kernel_rfl) _ built_head0) ?_
  refine rY 1 rfl rfl (Mur.storeArr 39 (.tmp 4) (.tmp 13) rfl w.heap.size (by kernel_rfl) (frmh 0 0 0).flatten.toArray 213 (frmL_size (frmL_sz rfl rfl rfl rfl rfl rfl)) frmL_all (by kernel_rfl) (by kernel_rfl) 39 ((frmh 0 0 0).flatten.toArray) hb1 (frmL_size (frmL_sz rfl rfl rfl rfl rfl rfl))) ?_
  rintro W2 ⟨hb2, ch2⟩
  have zz2 := ch2.size
  refine rP 2 5 (.int .i64 3) ?_
  refine rEnd 3 rfl (nxt (wp_ret (thR ?_)))
  have kk1 : Chg [] w W1 := Chg.step ((Chg.refl _).more (by simp)) ch1 trivial
  have kk2 := Chg.step kk1 ch2 ⟨.inr (by omega), trivial⟩
  refine Wk.ret (.tuple #[.agg (frmh 0 0 0).flatten.toArray, .int .i64 3]) rfl (results_frm rfl _ _ w.heap.size (frmh 0 0 0).flatten.toArray (0, 0) (.int .i64 3) (by kernel_rfl) hb2 (frmL_size (frmL_sz rfl rfl rfl rfl rfl rfl)) (by kernel_rfl)) ?_
  exact ⟨headM 0 0 0, zs0, 3, rfl, lies_none rfl rfl rfl rfl rfl, ⟨sl0_in, sl0_in, sl0_in, sl0_in, sl0_in⟩, .inr (.inl ⟨rfl, Mur.readAll_long (by omega), rfl⟩), kk2⟩
 refine rQ 2 12 _ rfl rfl (qboolF (b := decide (((m : Nat) : Int) > (2000 : Int))) (decide_eq_false (by first | exact hx1 | omega))) ?_
 refine rEnd 3 rfl (nxt (wp_cond_false (by kernel_rfl) (wp_skip (nxt (wp_seq (reg ?_))))))
 refine rP 0 14 (.slice B m d) ?_
 refine rP 1 15 (.agg #[.slice B m d, .int .i64 0, .bool false]) ?_
 refine rX 2 16 rfl rfl (new_ex (pt W1.heap.size 0) #[.slice B m d, .int .i64 0, .bool false] 56 (by kernel_rfl)) ?_
 rintro _ W3 ⟨rfl, hb3, ch3, sz2⟩
 have zz3 := ch3.size
 refine rP 3 6 (pt W1.heap.size 0) ?_
 refine rEnd 4 rfl (nxt (wp_seq (reg ?_)))
 refine rP 0 17 (pt W1.heap.size 0) ?_
 refine rC 1 18 16 [.tmp 17] #[54] [pt W1.heap.size 0] ?_
 have kk3 : Chg [] w W1 := Chg.step ((Chg.refl _).more (by simp)) ch1 trivial
 have kk4 := Chg.step kk3 ch3 trivial
 refine (Rkind_any W1.heap.size B m d b 0 false W3 hb3 (byt_chg hbB kk4 (fun g off e hl => trivial)) ⟨by omega, by omega⟩ (fun a_ e_ hn_ => by have := hBlt a_ e_ hn_; omega) (by omega) (by omega)).mono ?_
 rintro _ W4 ⟨at1, bad1, v1, rfl, hat1, hr1, hst1, hlt1, ch4⟩
 have zz4 := ch4.size
 refine ⟨_, rfl, ?_⟩
 refine rQ 2 19 (.agg ((frmh (UInt8.ofNat v1) 0 0).flatten.toArray)) rfl rfl (run_built 39 _ rfl [(0, .int .u8 (((UInt8.ofNat v1).toNat : Nat) : Int))] (by kernel_rfl) _ (built_head1 (UInt8.ofNat v1))) ?_
 refine rX 3 7 rfl rfl (new_ex (pt W4.heap.size 0) ((frmh 0 0 0).flatten.toArray) 39 (by kernel_rfl)) ?_
 rintro _ W5 ⟨rfl, hb4, ch5, sz3⟩
 have zz5 := ch5.size
 refine rY 4 rfl rfl (Mur.storeArr 39 (.tmp 7) (.tmp 19) rfl W4.heap.size (by kernel_rfl) (frmh (UInt8.ofNat v1) 0 0).flatten.toArray 213 (frmL_size (frmL_sz rfl rfl rfl rfl rfl rfl)) frmL_all (by kernel_rfl) (by kernel_rfl) 39 ((frmh 0 0 0).flatten.toArray) hb4 (frmL_size (frmL_sz rfl rfl rfl rfl rfl rfl))) ?_
 rintro W6 ⟨hb5, ch6⟩
 have zz6 := ch6.size
 refine rEnd 5 rfl (nxt (wp_seq (reg ?_)))
 refine rP 0 20 (pt W1.heap.size 0) ?_
 refine rC 1 21 17 [.tmp 20] #[54] [pt W1.heap.size 0] ?_
 have kk5 := Chg.step kk4 ch4 ⟨.inr (by omega), trivial⟩
 have kk6 := Chg.step kk5 ch5 trivial
 have kk7 := Chg.step kk6 ch6 ⟨.inr (by omega), trivial⟩
 refine (Rint_any W1.heap.size B m d b at1 bad1 W6 (Chg.hp ch6 (Chg.hp ch5 hr1 trivial) ⟨by omega, trivial⟩) (byt_chg hbB kk7 (fun g off e hl => trivial)) ⟨by omega, by omega⟩ (fun a_ e_ hn_ => by have := hBlt a_ e_ hn_; omega) (by omega) (by omega)).mono ?_
 rintro _ W7 ⟨at2, bad2, v2, rfl, hat2, hr2, hst2, hlt2, ch7⟩
 have zz7 := ch7.size
 refine ⟨_, rfl, ?_⟩
 refine rP 2 22 (pt W4.heap.size 1) ?_
 refine rY 3 rfl rfl (store_seg1 3 (.tmp 22) (.tmp 21) rfl (by kernel_rfl) 1 (by kernel_rfl) (.int .i64 ((v2 : Nat) : Int)) (by kernel_rfl) rfl 39 (frmL_sz rfl rfl rfl rfl rfl rfl) (Chg.hp ch7 hb5 ⟨by omega, trivial⟩) 1 rfl rfl (frmh (UInt8.ofNat v1) ((v2 : Nat) : Int) 0) rfl) ?_
 rintro W8 ⟨hb6, ch8⟩
 have zz8 := ch8.size
 refine rEnd 4 rfl (nxt (wp_seq (reg ?_)))
 refine rP 0 23 (pt W1.heap.size 0) ?_
 refine rC 1 24 17 [.tmp 23] #[54] [pt W1.heap.size 0] ?_
 have kk8 := Chg.step kk7 ch7 ⟨.inr (by omega), trivial⟩
 have kk9 := Chg.step kk8 ch8 ⟨.inr (by omega), trivial⟩
 refine (Rint_any W1.heap.size B m d b at2 bad2 W8 (Chg.hp ch8 hr2 ⟨by omega, trivial⟩) (byt_chg hbB kk9 (fun g off e hl => trivial)) ⟨by omega, by omega⟩ (fun a_ e_ hn_ => by have := hBlt a_ e_ hn_; omega) (by omega) (by omega)).mono ?_
 rintro _ W10 ⟨at3, bad3, v3, rfl, hat3, hr3, hst3, hlt3, ch9⟩
 have zz9 := ch9.size
 refine ⟨_, rfl, ?_⟩
 refine rP 2 25 (pt W4.heap.size 2) ?_
 refine rY 3 rfl rfl (store_seg1 3 (.tmp 25) (.tmp 24) rfl (by kernel_rfl) 2 (by kernel_rfl) (.int .i64 ((v3 : Nat) : Int)) (by kernel_rfl) rfl 39 (frmL_sz rfl rfl rfl rfl rfl rfl) (Chg.hp ch9 hb6 ⟨by omega, trivial⟩) 2 rfl rfl (frmh (UInt8.ofNat v1) ((v2 : Nat) : Int) ((v3 : Nat) : Int)) rfl) ?_
 rintro W11 ⟨hb7, ch10⟩
 have zz10 := ch10.size
 refine rEnd 4 rfl (nxt (wp_seq (reg ?_)))
 refine rP 0 26 (pt W1.heap.size 0) ?_
 refine rC 1 27 18 [.tmp 26, .tmp 7] #[54, 60] [pt W1.heap.size 0, pt W4.heap.size 0] ?_
 have kk10 := Chg.step kk9 ch9 ⟨.inr (by omega), trivial⟩
 have kk11 := Chg.step kk10 ch10 ⟨.inr (by omega), trivial⟩
 refine (Rfields_any W1.heap.size B m d b at3 bad3 W4.heap.size (UInt8.ofNat v1) v2 v3 W11 (Chg.hp ch10 hr3 ⟨by omega, trivial⟩) (byt_chg hbB kk11 (fun g off e hl => trivial)) ⟨by omega, by omega⟩ (fun a_ e_ hn_ => by have := hBlt a_ e_ hn_; omega) (by omega) (by omega) hb7 (by omega) (fun a_ e_ hn_ => by have := hBlt a_ e_ hn_; omega)).mono ?_
 rintro _ W12 ⟨at4, bad4, FF1, ZZ1, rfl, hat4, hr4, hfr1, hLs1, hZin1, hFk1, hAlt1, ch11⟩
 have zz11 := ch11.size
 have hI : FrmIn FF1 := by rcases hAlt1 with ⟨_, _, rfl, h_⟩ | ⟨_, rfl, _⟩; exact Mur.frmIn_of (by omega) (by omega) h_; exact Mur.frmIn_head _ (by omega) (by omega)
 refine ⟨_, rfl, ?_⟩
 refine rEnd 2 rfl (nxt (wp_seq (reg ?_)))
 refine rP 0 28 (pt W1.heap.size 0) ?_
 refine rP 1 29 (pt W1.heap.size 0) ?_
 refine rP 2 30 (pt W1.heap.size 1) ?_
 refine rQ 3 31 _ rfl rfl (ld 3 30 W1.heap.size 1 (.int .i64 ((at4 : Nat) : Int)) ((cell_of_row _ _ 1 _ _ _ hr4).trans rfl)) ?_
 refine rP 4 8 (.int .i64 ((at4 : Nat) : Int)) ?_
 refine rEnd 5 rfl (nxt (wp_seq (reg ?_)))
 refine rX 0 9 rfl rfl (new_ex (pt W12.heap.size 0) Z32 29 (by kernel_rfl)) ?_
 rintro _ W13 ⟨rfl, hb8, ch12, sz4⟩
 have zz12 := ch12.size
 refine rEnd 1 rfl (nxt (wp_seq (wp_seq (reg ?_))))
 refine rP 0 32 (pt W4.heap.size 0) ?_
 refine rQ 1 33 _ rfl rfl (ld 5 32 W4.heap.size 0 (.int .u8 ((FF1.kind.toNat : Nat) : Int)) (show World.cell? _ ⟨_, 0 + 0, _⟩ = _ from segs_cell (frmL_sz hI.ok.sum hI.ok.key FF1.att.hk FF1.att.hr FF1.att.ht hI.ok.root) (range_row (Chg.hp ch12 hfr1 trivial)) 0 rfl rfl)) ?_
 refine rC 2 34 19 [.tmp 33] #[5] [.int .u8 ((FF1.kind.toNat : Nat) : Int)] ?_
 refine (Tagged_any FF1.kind W13).mono ?_
 by_cases hpr1 : FF1.kind.toNat ≤ 4
 ·rw [decide_eq_true hpr1]
  rintro _ W14 ⟨rfl, ch13⟩
  have zz13 := ch13.size
  refine ⟨_, rfl, ?_⟩
  refine rEnd 3 rfl (nxt (wp_cond_true (by kernel_rfl) (reg ?_)))
  refine rP 0 35 (pt W1.heap.size 0) ?_
  refine rC 1 36 20 [.tmp 35] #[54] [pt W1.heap.size 0] ?_
  have kk12 := Chg.step kk11 ch11 ⟨.inr (by omega), ⟨.inr (by omega), trivial⟩⟩
  have kk13 := Chg.step kk12 ch12 trivial
  have kk14 := Chg.step kk13 ch13 trivial
  refine (Rdigest_any W1.heap.size B m d b at4 bad4 W14 (Chg.hp ch13 (Chg.hp ch12 hr4 trivial) trivial) (byt_chg hbB kk14 (fun g off e hl => trivial)) ⟨by omega, by omega⟩ (fun a_ e_ hn_ => by have := hBlt a_ e_ hn_; omega) (by omega) (by omega)).mono ?_
  rintro _ W15 ⟨at5, bad5, x1, rfl, hat5, hr5, hst4, hl1, ch14⟩
  have zz14 := ch14.size
  refine ⟨_, rfl, ?_⟩
  refine rY 2 rfl rfl (Mur.storeAll 29 (.tmp 9) (.tmp 36) rfl W12.heap.size (by kernel_rfl) x1 32 hl1 (by kernel_rfl) (by kernel_rfl) 29 Z32 (Chg.hp ch14 (Chg.hp ch13 hb8 trivial) ⟨by omega, trivial⟩) rfl) ?_
  rintro W16 ⟨hb9, ch15⟩
  have zz15 := ch15.size
  refine rEnd 3 rfl (nxt (wp_seq (wp_block (wp_seq (reg ?_)))))
  refine rP 0 38 (pt W1.heap.size 0) ?_
  refine rP 1 39 (pt W1.heap.size 0) ?_
  refine rP 2 40 (pt W1.heap.size 2) ?_
  refine rQ 3 41 _ rfl rfl (ld 4 40 W1.heap.size 2 (.bool bad5) ((cell_of_row _ _ 2 _ _ _ (Chg.hp ch15 hr5 ⟨by omega, trivial⟩)).trans rfl)) ?_
  refine rP 4 42 (.bool bad5) ?_
  cases bad5
  ·refine rP 5 43 (pt W1.heap.size 0) ?_
   refine rP 6 44 (pt W1.heap.size 0) ?_
   refine rP 7 45 (pt W1.heap.size 1) ?_
   refine rQ 8 46 _ rfl rfl (ld 3 45 W1.heap.size 1 (.int .i64 ((at5 : Nat) : Int)) ((cell_of_row _ _ 1 _ _ _ (Chg.hp ch15 hr5 ⟨by omega, trivial⟩)).trans rfl)) ?_
   refine rP 9 47 (.slice B m d) ?_
   refine rP 10 48 (.int .i64 ((m : Nat) : Int)) ?_
   by_cases hx2 : ((at5 : Nat) : Int) ≠ ((m : Nat) : Int)
   ·refine rQ 11 49 _ rfl rfl (qboolT (b := (((at5 : Nat) : Int) != ((m : Nat) : Int))) (bne_iff_ne.2 (by first | exact hx2 | omega))) ?_
    refine rP 12 50 (.bool true) ?_
    refine rP 13 51 (.bool true) ?_
    refine rZ 14 52 ?_
    refine rZ 15 53 ?_
    refine rZ 16 54 ?_
    refine rP 17 55 (.bool true) ?_
    refine rP 18 37 (.bool true) ?_
    refine rEnd 19 rfl (nxt (wp_cond_true (by kernel_rfl) (wp_seq (reg ?_))))
    refine rQ 0 56 (.agg ((frmh 0 0 0).flatten.toArray)) rfl rfl (run_built 39 _ rfl [] (by kernel_rfl) _ built_head0) ?_
    refine rY 1 rfl rfl (Mur.storeArr 39 (.tmp 4) (.tmp 56) rfl w.heap.size (by kernel_rfl) (frmh 0 0 0).flatten.toArray 213 (frmL_size (frmL_sz rfl rfl rfl rfl rfl rfl)) frmL_all (by kernel_rfl) (by kernel_rfl) 39 ((frmh 0 0 0).flatten.toArray) (Chg.hp ch15 (Chg.hp ch14 (Chg.hp ch13 (Chg.hp ch12 (Chg.hp ch11 (Chg.hp ch10 (Chg.hp ch9 (Chg.hp ch8 (Chg.hp ch7 (Chg.hp ch6 (Chg.hp ch5 (Chg.hp ch4 (Chg.hp ch3 hb1 trivial) ⟨by omega, trivial⟩) trivial) ⟨by omega, trivial⟩) ⟨by omega, trivial⟩) ⟨by omega, trivial⟩) ⟨by omega, trivial⟩) ⟨by omega, trivial⟩) ⟨by omega, ⟨by omega, trivial⟩⟩) trivial) trivial) ⟨by omega, trivial⟩) ⟨by omega, trivial⟩) (frmL_size (frmL_sz rfl rfl rfl rfl rfl rfl))) ?_
    rintro W17 ⟨hb10, ch16⟩
    have zz16 := ch16.size
    refine rP 2 5 (.int .i64 5) ?_
    refine rEnd 3 rfl (nxt (wp_ret (inR (thR ?_))))
    have kk15 := Chg.step kk14 ch14 ⟨.inr (by omega), trivial⟩
    have kk16 := Chg.step kk15 ch15 ⟨.inr (by omega), trivial⟩
    have kk17 := Chg.step kk16 ch16 ⟨.inr (by omega), trivial⟩
    have hhd_ : Mur.Step (Mur.pSeq Mur.readK (Mur.pSeq Mur.readI Mur.readI)) b 0 false _ _ (v1, (v2, v3)) := hst1.seq (hst2.seq hst3)
    rcases hAlt1 with ⟨cc_, hcc_, hFe_, _⟩ | ⟨hkn_, hFe_, _, _⟩
    ·have hrf_ := hhd_.fra hcc_
     have hof_ : FF1 = Mur.ofFra ⟨v2, v3, cc_⟩ := hFe_
     have hkk_ : FF1.kind.toNat = (⟨v2, v3, cc_⟩ : Mur.Fra).con.kind := by rw [hof_]; exact kind_of _
     refine Wk.ret (.tuple #[.agg (frmh 0 0 0).flatten.toArray, .int .i64 5]) rfl (results_frm rfl _ _ w.heap.size (frmh 0 0 0).flatten.toArray (0, 0) (.int .i64 5) (by kernel_rfl) hb10 (frmL_size (frmL_sz rfl rfl rfl rfl rfl rfl)) (by kernel_rfl)) ?_
     exact ⟨headM 0 0 0, zs0, 5, rfl, lies_none rfl rfl rfl rfl rfl, ⟨sl0_in, sl0_in, sl0_in, sl0_in, sl0_in⟩, .inr (.inr (.inl ⟨rfl, rd_tg_no (by omega) (by omega) hrf_ (by rw [← hkk_]; exact hpr1) hst4 (fun e_ => by omega), rfl⟩)), kk17⟩
    refine Wk.ret (.tuple #[.agg (frmh 0 0 0).flatten.toArray, .int .i64 5]) rfl (results_frm rfl _ _ w.heap.size (frmh 0 0 0).flatten.toArray (0, 0) (.int .i64 5) (by kernel_rfl) hb10 (frmL_size (frmL_sz rfl rfl rfl rfl rfl rfl)) (by kernel_rfl)) ?_
    exact ⟨headM 0 0 0, zs0, 5, rfl, lies_none rfl rfl rfl rfl rfl, ⟨sl0_in, sl0_in, sl0_in, sl0_in, sl0_in⟩, .inr (.inr (.inl ⟨rfl, rd_none (by omega) hhd_ hkn_, rfl⟩)), kk17⟩
   refine rQ 11 49 _ rfl rfl (qboolF (b := (((at5 : Nat) : Int) != ((m : Nat) : Int))) (bne_eq_false_iff_eq.2 (by first | exact hx2 | omega))) ?_
   refine rP 12 50 (.bool false) ?_
   refine rP 13 51 (.bool false) ?_
   refine rQ 14 52 (.agg ((frmP FF1 ZZ1).flatten.toArray)) rfl rfl (Mur.loadArr 39 (.tmp 7) rfl _ Tryd.underlying39 rfl W4.heap.size (by kernel_rfl) (frmP FF1 ZZ1).flatten.toArray 213 (frmL_size (frmL_sz hI.ok.sum hI.ok.key FF1.att.hk FF1.att.hr FF1.att.ht hI.ok.root)) (by kernel_rfl) 39 (0, 0) (Chg.hp ch15 (Chg.hp ch14 (Chg.hp ch13 (Chg.hp ch12 hfr1 trivial) trivial) ⟨by omega, trivial⟩) ⟨by omega, trivial⟩)) ?_
   refine rC 15 53 21 [.tmp 52] #[39] [.agg ((frmP FF1 ZZ1).flatten.toArray)] ?_
   have kk18 : Chg [W1.heap.size, w.heap.size] (W12) W13 := Chg.step ((Chg.refl _).more (by simp)) ch12 trivial
   have kk19 := Chg.step kk18 ch13 trivial
   have kk20 := Chg.step kk19 ch14 ⟨.inl (by simp), trivial⟩
   have kk21 := Chg.step kk20 ch15 ⟨.inr (by omega), trivial⟩
   refine (MayF_any FF1 ZZ1 W16 (LiesF.chg hLs1 kk21 ⟨(fun g off e => fun _ => (by have h_ : W11.heap.size ≤ g := hZin1.1 g off e; exact ⟨by omega, ⟨by omega, trivial⟩⟩)), (fun g off e => fun _ => (by have h_ : W11.heap.size ≤ g := hZin1.2.1 g off e; exact ⟨by omega, ⟨by omega, trivial⟩⟩)), (fun g off e => fun _ => (by have h_ : W11.heap.size ≤ g := hZin1.2.2.1 g off e; exact ⟨by omega, ⟨by omega, trivial⟩⟩)), (fun g off e => fun _ => (by have h_ : W11.heap.size ≤ g := hZin1.2.2.2.1 g off e; exact ⟨by omega, ⟨by omega, trivial⟩⟩)), (fun g off e => fun _ => (by have h_ : W11.heap.size ≤ g := hZin1.2.2.2.2 g off e; exact ⟨by omega, ⟨by omega, trivial⟩⟩))⟩) hI).mono ?_
   rintro _ W18 ⟨bv1, rfl, hif1, ch17⟩
   have zz17 := ch17.size
   cases bv1
   ·refine ⟨_, rfl, ?_⟩
    refine rP 16 54 (.bool true) ?_
    refine rP 17 55 (.bool true) ?_
    refine rP 18 37 (.bool true) ?_
    refine rEnd 19 rfl (nxt (wp_cond_true (by kernel_rfl) (wp_seq (reg ?_))))
    refine rQ 0 56 (.agg ((frmh 0 0 0).flatten.toArray)) rfl rfl (run_built 39 _ rfl [] (by kernel_rfl) _ built_head0) ?_
    refine rY 1 rfl rfl (Mur.storeArr 39 (.tmp 4) (.tmp 56) rfl w.heap.size (by kernel_rfl) (frmh 0 0 0).flatten.toArray 213 (frmL_size (frmL_sz rfl rfl rfl rfl rfl rfl)) frmL_all (by kernel_rfl) (by kernel_rfl) 39 ((frmh 0 0 0).flatten.toArray) (Chg.hp ch17 (Chg.hp ch15 (Chg.hp ch14 (Chg.hp ch13 (Chg.hp ch12 (Chg.hp ch11 (Chg.hp ch10 (Chg.hp ch9 (Chg.hp ch8 (Chg.hp ch7 (Chg.hp ch6 (Chg.hp ch5 (Chg.hp ch4 (Chg.hp ch3 hb1 trivial) ⟨by omega, trivial⟩) trivial) ⟨by omega, trivial⟩) ⟨by omega, trivial⟩) ⟨by omega, trivial⟩) ⟨by omega, trivial⟩) ⟨by omega, trivial⟩) ⟨by omega, ⟨by omega, trivial⟩⟩) trivial) trivial) ⟨by omega, trivial⟩) ⟨by omega, trivial⟩) trivial) (frmL_size (frmL_sz rfl rfl rfl rfl rfl rfl))) ?_
    rintro W19 ⟨hb11, ch18⟩
    have zz18 := ch18.size
    refine rP 2 5 (.int .i64 5) ?_
    refine rEnd 3 rfl (nxt (wp_ret (inR (thR ?_))))
    have kk22 := Chg.step kk14 ch14 ⟨.inr (by omega), trivial⟩
    have kk23 := Chg.step kk22 ch15 ⟨.inr (by omega), trivial⟩
    have kk24 := Chg.step kk23 ch17 trivial
    have kk25 := Chg.step kk24 ch18 ⟨.inr (by omega), trivial⟩
    have hhd_ : Mur.Step (Mur.pSeq Mur.readK (Mur.pSeq Mur.readI Mur.readI)) b 0 false _ _ (v1, (v2, v3)) := hst1.seq (hst2.seq hst3)
    rcases hAlt1 with ⟨cc_, hcc_, hFe_, _⟩ | ⟨hkn_, hFe_, _, _⟩
    ·have hrf_ := hhd_.fra hcc_
     have hof_ : FF1 = Mur.ofFra ⟨v2, v3, cc_⟩ := hFe_
     have hkk_ : FF1.kind.toNat = (⟨v2, v3, cc_⟩ : Mur.Fra).con.kind := by rw [hof_]; exact kind_of _
     refine Wk.ret (.tuple #[.agg (frmh 0 0 0).flatten.toArray, .int .i64 5]) rfl (results_frm rfl _ _ w.heap.size (frmh 0 0 0).flatten.toArray (0, 0) (.int .i64 5) (by kernel_rfl) hb11 (frmL_size (frmL_sz rfl rfl rfl rfl rfl rfl)) (by kernel_rfl)) ?_
     exact ⟨headM 0 0 0, zs0, 5, rfl, lies_none rfl rfl rfl rfl rfl, ⟨sl0_in, sl0_in, sl0_in, sl0_in, sl0_in⟩, .inr (.inr (.inl ⟨rfl, rd_tg_no (by omega) (by omega) hrf_ (by rw [← hkk_]; exact hpr1) hst4 (fun e_ => by rw [← hof_]; exact (fun q_ => Bool.noConfusion (hif1.2 q_))), rfl⟩)), kk25⟩
    refine Wk.ret (.tuple #[.agg (frmh 0 0 0).flatten.toArray, .int .i64 5]) rfl (results_frm rfl _ _ w.heap.size (frmh 0 0 0).flatten.toArray (0, 0) (.int .i64 5) (by kernel_rfl) hb11 (frmL_size (frmL_sz rfl rfl rfl rfl rfl rfl)) (by kernel_rfl)) ?_
    exact ⟨headM 0 0 0, zs0, 5, rfl, lies_none rfl rfl rfl rfl rfl, ⟨sl0_in, sl0_in, sl0_in, sl0_in, sl0_in⟩, .inr (.inr (.inl ⟨rfl, rd_none (by omega) hhd_ hkn_, rfl⟩)), kk25⟩
   refine ⟨_, rfl, ?_⟩
   refine rP 16 54 (.bool false) ?_
   refine rP 17 55 (.bool false) ?_
   refine rP 18 37 (.bool false) ?_
   refine rEnd 19 rfl (nxt (wp_cond_false (by kernel_rfl) (wp_seq ?_)))
   refine dReg ([]) (by kernel_rfl) ?_
   intro W20 ch19 sz5
   have zz19 := ch19.size
   have sS1 : Chg ([]) W20 W20 := (Chg.refl _).more (by simp)
   refine dW 0 58 (pt W4.heap.size 0) sS1 ?_
   refine dV 1 59 (.int .u8 ((FF1.kind.toNat : Nat) : Int)) rfl rfl (fun w' hw' => (ld 5 58 W4.heap.size 0 (.int .u8 ((FF1.kind.toNat : Nat) : Int)) (show World.cell? _ ⟨_, 0 + 0, _⟩ = _ from segs_cell (frmL_sz hI.ok.sum hI.ok.key FF1.att.hk FF1.att.hr FF1.att.ht hI.ok.root) (range_row (Chg.hp hw' (Chg.hp ch19 (Chg.hp ch17 (Chg.hp ch15 (Chg.hp ch14 (Chg.hp ch13 (Chg.hp ch12 hfr1 trivial) trivial) ⟨by omega, trivial⟩) ⟨by omega, trivial⟩) trivial) trivial) trivial)) 0 rfl rfl))) sS1 ?_
   refine dOp 2 (by kernel_rfl) ?_
   refine oCall (some 60) 19 [.tmp 59] #[5] [.int .u8 ((FF1.kind.toNat : Nat) : Int)] rfl rfl (by kernel_rfl) rfl (by kernel_rfl) (by kernel_rfl) ?_
   refine (Tagged_any FF1.kind W20).mono ?_
   rw [decide_eq_true hpr1]
   rintro _ W21 ⟨rfl, ch20⟩
   have zz20 := ch20.size
   have sS2 := Chg.step sS1 ch20 trivial
   refine ⟨_, rfl, sS2, ?_⟩
   refine dW 3 61 (.bool true) sS2 ?_
   refine dV 4 62 (.agg ((b8s x1).toArray)) rfl rfl (fun w' hw' => (Mur.loadAll 29 (.tmp 9) rfl _ Tryd.underlying29 rfl W12.heap.size (by kernel_rfl) x1 32 hl1 (by kernel_rfl) 29 (0, 0) (Chg.hp hw' (Chg.hp ch19 (Chg.hp ch17 hb9 trivial) trivial) trivial))) sS2 ?_
   refine dW 5 63 (.slice A n c) sS2 ?_
   refine dW 6 64 (.slice B m d) sS2 ?_
   refine dW 7 65 (.int .i64 ((at4 : Nat) : Int)) sS2 ?_
   have kk26 := Chg.step kk14 ch14 ⟨.inr (by omega), trivial⟩
   have kk27 := Chg.step kk26 ch15 ⟨.inr (by omega), trivial⟩
   have kk28 := Chg.step kk27 ch17 trivial
   have kk29 := Chg.step kk28 ch19 trivial
   obtain ⟨Ac1, hAc1⟩ : ∃ x_, x_ = Mur.cutA B d 0 := ⟨_, rfl⟩
   have hbc1 : Byt w Ac1 at4 (b.take at4) := by rw [hAc1]; exact Mur.byt_to hbB at4 (by omega) (by omega)
   refine dV 8 66 (.slice Ac1 at4 d) rfl rfl (fun w' hw' => (by rw [hAc1]; exact Mur.run_op_cut_to 22 (.tmp 64) (.tmp 65) rfl 5 Tryd.underlying22 (by kernel_rfl) B m d at4 (by kernel_rfl) (by kernel_rfl) (by omega) (by omega))) sS2 ?_
   refine dOp 9 (by kernel_rfl) ?_
   refine oCall (some 67) 22 [.tmp 63, .tmp 66] #[22, 22] [.slice A n c, .slice Ac1 at4 d] rfl rfl (by kernel_rfl) rfl (by kernel_rfl) (by kernel_rfl) ?_
   have kk30 := Chg.step kk29 ch20 trivial
   refine (TagF_any s A n c T (b.take at4) Ac1 at4 d W21 (HV.out.below (Chg.below0 kk30)) (byt_chg HBY.out kk30 (fun g off e hl => trivial)) ⟨by omega, by omega⟩ HA.out (by omega) hT hTl (byt_chg hbc1 kk30 (fun g off e hl => trivial)) ⟨by omega, by omega⟩ (fun h_ => by rw [hAc1] at h_; exact Mur.cutA_nil hbn h_) (by omega)).mono ?_
   rintro _ W22 ⟨rfl, ch21⟩
   have zz21 := ch21.size
   have sS3 := Chg.step sS2 ch21 trivial
   refine ⟨_, rfl, sS3, ?_⟩
   by_cases hdg_ : x1 = T (b.take at4)
   ·refine dV 10 68 (.bool false) rfl rfl (fun w' hw' => (boolF (b := !decide (x1 = T (b.take at4))) (by rw [decide_eq_true hdg_]; rfl) (run_neq_dg digT x1 (T (b.take at4)) hl1 (hTl (b.take at4)) _ (.tmp 62) (.tmp 67) 29 rfl (by kernel_rfl) (by kernel_rfl)))) sS3 ?_
    refine dW 11 69 (.bool false) sS3 ?_
    refine dW 12 57 (.bool false) sS3 ?_
    refine dEnd (by kernel_rfl) (nxt (wp_cond_false (by kernel_rfl) (wp_skip (inN (nxt (wp_seq (reg ?_)))))))
    refine rQ 0 71 (.agg ((frmP FF1 ZZ1).flatten.toArray)) rfl rfl (Mur.loadArr 39 (.tmp 7) rfl _ Tryd.underlying39 rfl W4.heap.size (by kernel_rfl) (frmP FF1 ZZ1).flatten.toArray 213 (frmL_size (frmL_sz hI.ok.sum hI.ok.key FF1.att.hk FF1.att.hr FF1.att.ht hI.ok.root)) (by kernel_rfl) 39 (0, 0) (Chg.hp ch21 (Chg.hp ch20 (Chg.hp ch19 (Chg.hp ch17 (Chg.hp ch15 (Chg.hp ch14 (Chg.hp ch13 (Chg.hp ch12 hfr1 trivial) trivial) ⟨by omega, trivial⟩) ⟨by omega, trivial⟩) trivial) trivial) trivial) trivial)) ?_
    refine rY 1 rfl rfl (Mur.storeArr 39 (.tmp 4) (.tmp 71) rfl w.heap.size (by kernel_rfl) (frmP FF1 ZZ1).flatten.toArray 213 (frmL_size (frmL_sz hI.ok.sum hI.ok.key FF1.att.hk FF1.att.hr FF1.att.ht hI.ok.root)) frmL_all (by kernel_rfl) (by kernel_rfl) 39 ((frmh 0 0 0).flatten.toArray) (Chg.hp ch21 (Chg.hp ch20 (Chg.hp ch19 (Chg.hp ch17 (Chg.hp ch15 (Chg.hp ch14 (Chg.hp ch13 (Chg.hp ch12 (Chg.hp ch11 (Chg.hp ch10 (Chg.hp ch9 (Chg.hp ch8 (Chg.hp ch7 (Chg.hp ch6 (Chg.hp ch5 (Chg.hp ch4 (Chg.hp ch3 hb1 trivial) ⟨by omega, trivial⟩) trivial) ⟨by omega, trivial⟩) ⟨by omega, trivial⟩) ⟨by omega, trivial⟩) ⟨by omega, trivial⟩) ⟨by omega, trivial⟩) ⟨by omega, ⟨by omega, trivial⟩⟩) trivial) trivial) ⟨by omega, trivial⟩) ⟨by omega, trivial⟩) trivial) trivial) trivial) trivial) (frmL_size (frmL_sz rfl rfl rfl rfl rfl rfl))) ?_
    rintro W23 ⟨hb12, ch22⟩
    have zz22 := ch22.size
    refine rP 2 5 (.int .i64 0) ?_
    refine rEnd 3 rfl (nxt (wp_ret ?_))
    have kk31 := Chg.step kk30 ch21 trivial
    have kk32 := Chg.step kk31 ch22 ⟨.inr (by omega), trivial⟩
    have hhd_ : Mur.Step (Mur.pSeq Mur.readK (Mur.pSeq Mur.readI Mur.readI)) b 0 false _ _ (v1, (v2, v3)) := hst1.seq (hst2.seq hst3)
    rcases hAlt1 with ⟨cc_, hcc_, hFe_, _⟩ | ⟨hkn_, hFe_, _, _⟩
    ·have hrf_ := hhd_.fra hcc_
     have hof_ : FF1 = Mur.ofFra ⟨v2, v3, cc_⟩ := hFe_
     have hkk_ : FF1.kind.toNat = (⟨v2, v3, cc_⟩ : Mur.Fra).con.kind := by rw [hof_]; exact kind_of _
     have kk33 := Chg.step kk21 ch17 trivial
     have kk34 := Chg.step kk33 ch19 trivial
     have kk35 := Chg.step kk34 ch20 trivial
     have kk36 := Chg.step kk35 ch21 trivial
     have kk37 := Chg.step kk36 ch22 ⟨.inl (by simp), trivial⟩
     refine Wk.ret (.tuple #[.agg (frmP FF1 ZZ1).flatten.toArray, .int .i64 0]) rfl (results_frm rfl _ _ w.heap.size (frmP FF1 ZZ1).flatten.toArray (0, 0) (.int .i64 0) (by kernel_rfl) hb12 (frmL_size (frmL_sz hI.ok.sum hI.ok.key FF1.att.hk FF1.att.hr FF1.att.ht hI.ok.root)) (by kernel_rfl)) ?_
     exact ⟨FF1, ZZ1, 0, rfl, (LiesF.chg hLs1 kk37 ⟨(fun g off e => fun _ => (by have h_ : W11.heap.size ≤ g := hZin1.1 g off e; exact ⟨by omega, ⟨by omega, trivial⟩⟩)), (fun g off e => fun _ => (by have h_ : W11.heap.size ≤ g := hZin1.2.1 g off e; exact ⟨by omega, ⟨by omega, trivial⟩⟩)), (fun g off e => fun _ => (by have h_ : W11.heap.size ≤ g := hZin1.2.2.1 g off e; exact ⟨by omega, ⟨by omega, trivial⟩⟩)), (fun g off e => fun _ => (by have h_ : W11.heap.size ≤ g := hZin1.2.2.2.1 g off e; exact ⟨by omega, ⟨by omega, trivial⟩⟩)), (fun g off e => fun _ => (by have h_ : W11.heap.size ≤ g := hZin1.2.2.2.2 g off e; exact ⟨by omega, ⟨by omega, trivial⟩⟩))⟩), ⟨fun g off e => by have h_ : W11.heap.size ≤ g := hZin1.1 g off e; show w.heap.size ≤ g; omega, fun g off e => by have h_ : W11.heap.size ≤ g := hZin1.2.1 g off e; show w.heap.size ≤ g; omega, fun g off e => by have h_ : W11.heap.size ≤ g := hZin1.2.2.1 g off e; show w.heap.size ≤ g; omega, fun g off e => by have h_ : W11.heap.size ≤ g := hZin1.2.2.2.1 g off e; show w.heap.size ≤ g; omega, fun g off e => by have h_ : W11.heap.size ≤ g := hZin1.2.2.2.2 g off e; show w.heap.size ≤ g; omega⟩, .inl ⟨rfl, (by rw [hof_]; exact Mur.rd_tg_ok (by omega) hrf_ (by rw [← hkk_]; exact hpr1) hst4 (by omega) (by rw [← hof_]; exact (hif1.1 rfl)) hdg_), hI⟩, kk32⟩
    exact absurd (hFe_ ▸ (hif1.1 rfl)) (may_head hkn_)
   refine dV 10 68 (.bool true) rfl rfl (fun w' hw' => (boolT (b := !decide (x1 = T (b.take at4))) (by rw [decide_eq_false hdg_]; rfl) (run_neq_dg digT x1 (T (b.take at4)) hl1 (hTl (b.take at4)) _ (.tmp 62) (.tmp 67) 29 rfl (by kernel_rfl) (by kernel_rfl)))) sS3 ?_
   refine dW 11 69 (.bool true) sS3 ?_
   refine dW 12 57 (.bool true) sS3 ?_
   refine dEnd (by kernel_rfl) (nxt (wp_cond_true (by kernel_rfl) (wp_seq (reg ?_))))
   refine rQ 0 70 (.agg ((frmh 0 0 0).flatten.toArray)) rfl rfl (run_built 39 _ rfl [] (by kernel_rfl) _ built_head0) ?_
   refine rY 1 rfl rfl (Mur.storeArr 39 (.tmp 4) (.tmp 70) rfl w.heap.size (by kernel_rfl) (frmh 0 0 0).flatten.toArray 213 (frmL_size (frmL_sz rfl rfl rfl rfl rfl rfl)) frmL_all (by kernel_rfl) (by kernel_rfl) 39 ((frmh 0 0 0).flatten.toArray) (Chg.hp ch21 (Chg.hp ch20 (Chg.hp ch19 (Chg.hp ch17 (Chg.hp ch15 (Chg.hp ch14 (Chg.hp ch13 (Chg.hp ch12 (Chg.hp ch11 (Chg.hp ch10 (Chg.hp ch9 (Chg.hp ch8 (Chg.hp ch7 (Chg.hp ch6 (Chg.hp ch5 (Chg.hp ch4 (Chg.hp ch3 hb1 trivial) ⟨by omega, trivial⟩) trivial) ⟨by omega, trivial⟩) ⟨by omega, trivial⟩) ⟨by omega, trivial⟩) ⟨by omega, trivial⟩) ⟨by omega, trivial⟩) ⟨by omega, ⟨by omega, trivial⟩⟩) trivial) trivial) ⟨by omega, trivial⟩) ⟨by omega, trivial⟩) trivial) trivial) trivial) trivial) (frmL_size (frmL_sz rfl rfl rfl rfl rfl rfl))) ?_
   rintro W24 ⟨hb13, ch23⟩
   have zz23 := ch23.size
   refine rP 2 5 (.int .i64 250) ?_
   refine rEnd 3 rfl (nxt (wp_ret (inR (thR ?_))))
   have kk38 := Chg.step kk30 ch21 trivial
   have kk39 := Chg.step kk38 ch23 ⟨.inr (by omega), trivial⟩
   have hhd_ : Mur.Step (Mur.pSeq Mur.readK (Mur.pSeq Mur.readI Mur.readI)) b 0 false _ _ (v1, (v2, v3)) := hst1.seq (hst2.seq hst3)
   rcases hAlt1 with ⟨cc_, hcc_, hFe_, _⟩ | ⟨hkn_, hFe_, _, _⟩
   ·have hrf_ := hhd_.fra hcc_
    have hof_ : FF1 = Mur.ofFra ⟨v2, v3, cc_⟩ := hFe_
    have hkk_ : FF1.kind.toNat = (⟨v2, v3, cc_⟩ : Mur.Fra).con.kind := by rw [hof_]; exact kind_of _
    refine Wk.ret (.tuple #[.agg (frmh 0 0 0).flatten.toArray, .int .i64 250]) rfl (results_frm rfl _ _ w.heap.size (frmh 0 0 0).flatten.toArray (0, 0) (.int .i64 250) (by kernel_rfl) hb13 (frmL_size (frmL_sz rfl rfl rfl rfl rfl rfl)) (by kernel_rfl)) ?_
    exact ⟨headM 0 0 0, zs0, 250, rfl, lies_none rfl rfl rfl rfl rfl, ⟨sl0_in, sl0_in, sl0_in, sl0_in, sl0_in⟩, .inr (.inr (.inr ⟨rfl, Mur.rd_tg_tag (by omega) hrf_ (by rw [← hkk_]; exact hpr1) hst4 (by omega) (by rw [← hof_]; exact (hif1.1 rfl)) hdg_, rfl⟩)), kk39⟩
   exact absurd (hFe_ ▸ (hif1.1 rfl)) (may_head hkn_)
  refine rZ 5 43 ?_
  refine rZ 6 44 ?_
  refine rZ 7 45 ?_
  refine rZ 8 46 ?_
  refine rZ 9 47 ?_
  refine rZ 10 48 ?_
  refine rZ 11 49 ?_
  refine rP 12 50 (.bool true) ?_
  refine rP 13 51 (.bool true) ?_
  refine rZ 14 52 ?_
  refine rZ 15 53 ?_
  refine rZ 16 54 ?_
  refine rP 17 55 (.bool true) ?_
  refine rP 18 37 (.bool true) ?_
  refine rEnd 19 rfl (nxt (wp_cond_true (by kernel_rfl) (wp_seq (reg ?_))))
  refine rQ 0 56 (.agg ((frmh 0 0 0).flatten.toArray)) rfl rfl (run_built 39 _ rfl [] (by kernel_rfl) _ built_head0) ?_
  refine rY 1 rfl rfl (Mur.storeArr 39 (.tmp 4) (.tmp 56) rfl w.heap.size (by kernel_rfl) (frmh 0 0 0).flatten.toArray 213 (frmL_size (frmL_sz rfl rfl rfl rfl rfl rfl)) frmL_all (by kernel_rfl) (by kernel_rfl) 39 ((frmh 0 0 0).flatten.toArray) (Chg.hp ch15 (Chg.hp ch14 (Chg.hp ch13 (Chg.hp ch12 (Chg.hp ch11 (Chg.hp ch10 (Chg.hp ch9 (Chg.hp ch8 (Chg.hp ch7 (Chg.hp ch6 (Chg.hp ch5 (Chg.hp ch4 (Chg.hp ch3 hb1 trivial) ⟨by omega, trivial⟩) trivial) ⟨by omega, trivial⟩) ⟨by omega, trivial⟩) ⟨by omega, trivial⟩) ⟨by omega, trivial⟩) ⟨by omega, trivial⟩) ⟨by omega, ⟨by omega, trivial⟩⟩) trivial) trivial) ⟨by omega, trivial⟩) ⟨by omega, trivial⟩) (frmL_size (frmL_sz rfl rfl rfl rfl rfl rfl))) ?_
  rintro W25 ⟨hb14, ch24⟩
  have zz24 := ch24.size
  refine rP 2 5 (.int .i64 5) ?_
  refine rEnd 3 rfl (nxt (wp_ret (inR (thR ?_))))
  have kk40 := Chg.step kk14 ch14 ⟨.inr (by omega), trivial⟩
  have kk41 := Chg.step kk40 ch15 ⟨.inr (by omega), trivial⟩
  have kk42 := Chg.step kk41 ch24 ⟨.inr (by omega), trivial⟩
  have hhd_ : Mur.Step (Mur.pSeq Mur.readK (Mur.pSeq Mur.readI Mur.readI)) b 0 false _ _ (v1, (v2, v3)) := hst1.seq (hst2.seq hst3)
  rcases hAlt1 with ⟨cc_, hcc_, hFe_, _⟩ | ⟨hkn_, hFe_, _, _⟩
  ·have hrf_ := hhd_.fra hcc_
   have hof_ : FF1 = Mur.ofFra ⟨v2, v3, cc_⟩ := hFe_
   have hkk_ : FF1.kind.toNat = (⟨v2, v3, cc_⟩ : Mur.Fra).con.kind := by rw [hof_]; exact kind_of _
   refine Wk.ret (.tuple #[.agg (frmh 0 0 0).flatten.toArray, .int .i64 5]) rfl (results_frm rfl _ _ w.heap.size (frmh 0 0 0).flatten.toArray (0, 0) (.int .i64 5) (by kernel_rfl) hb14 (frmL_size (frmL_sz rfl rfl rfl rfl rfl rfl)) (by kernel_rfl)) ?_
   exact ⟨headM 0 0 0, zs0, 5, rfl, lies_none rfl rfl rfl rfl rfl, ⟨sl0_in, sl0_in, sl0_in, sl0_in, sl0_in⟩, .inr (.inr (.inl ⟨rfl, Mur.rd_tg_bad (by omega) hrf_ (by rw [← hkk_]; exact hpr1) hst4, rfl⟩)), kk42⟩
  refine Wk.ret (.tuple #[.agg (frmh 0 0 0).flatten.toArray, .int .i64 5]) rfl (results_frm rfl _ _ w.heap.size (frmh 0 0 0).flatten.toArray (0, 0) (.int .i64 5) (by kernel_rfl) hb14 (frmL_size (frmL_sz rfl rfl rfl rfl rfl rfl)) (by kernel_rfl)) ?_
  exact ⟨headM 0 0 0, zs0, 5, rfl, lies_none rfl rfl rfl rfl rfl, ⟨sl0_in, sl0_in, sl0_in, sl0_in, sl0_in⟩, .inr (.inr (.inl ⟨rfl, rd_none (by omega) hhd_ hkn_, rfl⟩)), kk42⟩
 rw [decide_eq_false hpr1]
 rintro _ W26 ⟨rfl, ch25⟩
 have zz25 := ch25.size
 refine ⟨_, rfl, ?_⟩
 refine rEnd 3 rfl (nxt (wp_cond_false (by kernel_rfl) (wp_skip (nxt (wp_seq (wp_block (wp_seq (reg ?_))))))))
 refine rP 0 38 (pt W1.heap.size 0) ?_
 refine rP 1 39 (pt W1.heap.size 0) ?_
 refine rP 2 40 (pt W1.heap.size 2) ?_
 refine rQ 3 41 _ rfl rfl (ld 4 40 W1.heap.size 2 (.bool bad4) ((cell_of_row _ _ 2 _ _ _ (Chg.hp ch25 (Chg.hp ch12 hr4 trivial) trivial)).trans rfl)) ?_
 refine rP 4 42 (.bool bad4) ?_
 cases bad4
 ·refine rP 5 43 (pt W1.heap.size 0) ?_
  refine rP 6 44 (pt W1.heap.size 0) ?_
  refine rP 7 45 (pt W1.heap.size 1) ?_
  refine rQ 8 46 _ rfl rfl (ld 3 45 W1.heap.size 1 (.int .i64 ((at4 : Nat) : Int)) ((cell_of_row _ _ 1 _ _ _ (Chg.hp ch25 (Chg.hp ch12 hr4 trivial) trivial)).trans rfl)) ?_
  refine rP 9 47 (.slice B m d) ?_
  refine rP 10 48 (.int .i64 ((m : Nat) : Int)) ?_
  by_cases hx3 : ((at4 : Nat) : Int) ≠ ((m : Nat) : Int)
  ·refine rQ 11 49 _ rfl rfl (qboolT (b := (((at4 : Nat) : Int) != ((m : Nat) : Int))) (bne_iff_ne.2 (by first | exact hx3 | omega))) ?_
   refine rP 12 50 (.bool true) ?_
   refine rP 13 51 (.bool true) ?_
   refine rZ 14 52 ?_
   refine rZ 15 53 ?_
   refine rZ 16 54 ?_
   refine rP 17 55 (.bool true) ?_
   refine rP 18 37 (.bool true) ?_
   refine rEnd 19 rfl (nxt (wp_cond_true (by kernel_rfl) (wp_seq (reg ?_))))
   refine rQ 0 56 (.agg ((frmh 0 0 0).flatten.toArray)) rfl rfl (run_built 39 _ rfl [] (by kernel_rfl) _ built_head0) ?_
   refine rY 1 rfl rfl (Mur.storeArr 39 (.tmp 4) (.tmp 56) rfl w.heap.size (by kernel_rfl) (frmh 0 0 0).flatten.toArray 213 (frmL_size (frmL_sz rfl rfl rfl rfl rfl rfl)) frmL_all (by kernel_rfl) (by kernel_rfl) 39 ((frmh 0 0 0).flatten.toArray) (Chg.hp ch25 (Chg.hp ch12 (Chg.hp ch11 (Chg.hp ch10 (Chg.hp ch9 (Chg.hp ch8 (Chg.hp ch7 (Chg.hp ch6 (Chg.hp ch5 (Chg.hp ch4 (Chg.hp ch3 hb1 trivial) ⟨by omega, trivial⟩) trivial) ⟨by omega, trivial⟩) ⟨by omega, trivial⟩) ⟨by omega, trivial⟩) ⟨by omega, trivial⟩) ⟨by omega, trivial⟩) ⟨by omega, ⟨by omega, trivial⟩⟩) trivial) trivial) (frmL_size (frmL_sz rfl rfl rfl rfl rfl rfl))) ?_
   rintro W27 ⟨hb15, ch26⟩
   have zz26 := ch26.size
   refine rP 2 5 (.int .i64 5) ?_
   refine rEnd 3 rfl (nxt (wp_ret (inR (thR ?_))))
   have kk43 := Chg.step kk11 ch11 ⟨.inr (by omega), ⟨.inr (by omega), trivial⟩⟩
   have kk44 := Chg.step kk43 ch12 trivial
   have kk45 := Chg.step kk44 ch25 trivial
   have kk46 := Chg.step kk45 ch26 ⟨.inr (by omega), trivial⟩
   have hhd_ : Mur.Step (Mur.pSeq Mur.readK (Mur.pSeq Mur.readI Mur.readI)) b 0 false _ _ (v1, (v2, v3)) := hst1.seq (hst2.seq hst3)
   rcases hAlt1 with ⟨cc_, hcc_, hFe_, _⟩ | ⟨hkn_, hFe_, _, _⟩
   ·have hrf_ := hhd_.fra hcc_
    have hof_ : FF1 = Mur.ofFra ⟨v2, v3, cc_⟩ := hFe_
    have hkk_ : FF1.kind.toNat = (⟨v2, v3, cc_⟩ : Mur.Fra).con.kind := by rw [hof_]; exact kind_of _
    refine Wk.ret (.tuple #[.agg (frmh 0 0 0).flatten.toArray, .int .i64 5]) rfl (results_frm rfl _ _ w.heap.size (frmh 0 0 0).flatten.toArray (0, 0) (.int .i64 5) (by kernel_rfl) hb15 (frmL_size (frmL_sz rfl rfl rfl rfl rfl rfl)) (by kernel_rfl)) ?_
    exact ⟨headM 0 0 0, zs0, 5, rfl, lies_none rfl rfl rfl rfl rfl, ⟨sl0_in, sl0_in, sl0_in, sl0_in, sl0_in⟩, .inr (.inr (.inl ⟨rfl, rd_un (by omega) (by omega) hrf_ (by rw [← hkk_]; exact hpr1) (fun e_ => by omega), rfl⟩)), kk46⟩
   refine Wk.ret (.tuple #[.agg (frmh 0 0 0).flatten.toArray, .int .i64 5]) rfl (results_frm rfl _ _ w.heap.size (frmh 0 0 0).flatten.toArray (0, 0) (.int .i64 5) (by kernel_rfl) hb15 (frmL_size (frmL_sz rfl rfl rfl rfl rfl rfl)) (by kernel_rfl)) ?_
   exact ⟨headM 0 0 0, zs0, 5, rfl, lies_none rfl rfl rfl rfl rfl, ⟨sl0_in, sl0_in, sl0_in, sl0_in, sl0_in⟩, .inr (.inr (.inl ⟨rfl, rd_none (by omega) hhd_ hkn_, rfl⟩)), kk46⟩
  refine rQ 11 49 _ rfl rfl (qboolF (b := (((at4 : Nat) : Int) != ((m : Nat) : Int))) (bne_eq_false_iff_eq.2 (by first | exact hx3 | omega))) ?_
  refine rP 12 50 (.bool false) ?_
  refine rP 13 51 (.bool false) ?_
  refine rQ 14 52 (.agg ((frmP FF1 ZZ1).flatten.toArray)) rfl rfl (Mur.loadArr 39 (.tmp 7) rfl _ Tryd.underlying39 rfl W4.heap.size (by kernel_rfl) (frmP FF1 ZZ1).flatten.toArray 213 (frmL_size (frmL_sz hI.ok.sum hI.ok.key FF1.att.hk FF1.att.hr FF1.att.ht hI.ok.root)) (by kernel_rfl) 39 (0, 0) (Chg.hp ch25 (Chg.hp ch12 hfr1 trivial) trivial)) ?_
  refine rC 15 53 21 [.tmp 52] #[39] [.agg ((frmP FF1 ZZ1).flatten.toArray)] ?_
  have kk47 : Chg [W1.heap.size, w.heap.size] (W12) W13 := Chg.step ((Chg.refl _).more (by simp)) ch12 trivial
  have kk48 := Chg.step kk47 ch25 trivial
  refine (MayF_any FF1 ZZ1 W26 (LiesF.chg hLs1 kk48 ⟨(fun g off e => fun _ => (by have h_ : W11.heap.size ≤ g := hZin1.1 g off e; exact ⟨by omega, ⟨by omega, trivial⟩⟩)), (fun g off e => fun _ => (by have h_ : W11.heap.size ≤ g := hZin1.2.1 g off e; exact ⟨by omega, ⟨by omega, trivial⟩⟩)), (fun g off e => fun _ => (by have h_ : W11.heap.size ≤ g := hZin1.2.2.1 g off e; exact ⟨by omega, ⟨by omega, trivial⟩⟩)), (fun g off e => fun _ => (by have h_ : W11.heap.size ≤ g := hZin1.2.2.2.1 g off e; exact ⟨by omega, ⟨by omega, trivial⟩⟩)), (fun g off e => fun _ => (by have h_ : W11.heap.size ≤ g := hZin1.2.2.2.2 g off e; exact ⟨by omega, ⟨by omega, trivial⟩⟩))⟩) hI).mono ?_
  rintro _ W28 ⟨bv2, rfl, hif2, ch27⟩
  have zz27 := ch27.size
  cases bv2
  ·refine ⟨_, rfl, ?_⟩
   refine rP 16 54 (.bool true) ?_
   refine rP 17 55 (.bool true) ?_
   refine rP 18 37 (.bool true) ?_
   refine rEnd 19 rfl (nxt (wp_cond_true (by kernel_rfl) (wp_seq (reg ?_))))
   refine rQ 0 56 (.agg ((frmh 0 0 0).flatten.toArray)) rfl rfl (run_built 39 _ rfl [] (by kernel_rfl) _ built_head0) ?_
   refine rY 1 rfl rfl (Mur.storeArr 39 (.tmp 4) (.tmp 56) rfl w.heap.size (by kernel_rfl) (frmh 0 0 0).flatten.toArray 213 (frmL_size (frmL_sz rfl rfl rfl rfl rfl rfl)) frmL_all (by kernel_rfl) (by kernel_rfl) 39 ((frmh 0 0 0).flatten.toArray) (Chg.hp ch27 (Chg.hp ch25 (Chg.hp ch12 (Chg.hp ch11 (Chg.hp ch10 (Chg.hp ch9 (Chg.hp ch8 (Chg.hp ch7 (Chg.hp ch6 (Chg.hp ch5 (Chg.hp ch4 (Chg.hp ch3 hb1 trivial) ⟨by omega, trivial⟩) trivial) ⟨by omega, trivial⟩) ⟨by omega, trivial⟩) ⟨by omega, trivial⟩) ⟨by omega, trivial⟩) ⟨by omega, trivial⟩) ⟨by omega, ⟨by omega, trivial⟩⟩) trivial) trivial) trivial) (frmL_size (frmL_sz rfl rfl rfl rfl rfl rfl))) ?_
   rintro W29 ⟨hb16, ch28⟩
   have zz28 := ch28.size
   refine rP 2 5 (.int .i64 5) ?_
   refine rEnd 3 rfl (nxt (wp_ret (inR (thR ?_))))
   have kk49 := Chg.step kk11 ch11 ⟨.inr (by omega), ⟨.inr (by omega), trivial⟩⟩
   have kk50 := Chg.step kk49 ch12 trivial
   have kk51 := Chg.step kk50 ch25 trivial
   have kk52 := Chg.step kk51 ch27 trivial
   have kk53 := Chg.step kk52 ch28 ⟨.inr (by omega), trivial⟩
   have hhd_ : Mur.Step (Mur.pSeq Mur.readK (Mur.pSeq Mur.readI Mur.readI)) b 0 false _ _ (v1, (v2, v3)) := hst1.seq (hst2.seq hst3)
   rcases hAlt1 with ⟨cc_, hcc_, hFe_, _⟩ | ⟨hkn_, hFe_, _, _⟩
   ·have hrf_ := hhd_.fra hcc_
    have hof_ : FF1 = Mur.ofFra ⟨v2, v3, cc_⟩ := hFe_
    have hkk_ : FF1.kind.toNat = (⟨v2, v3, cc_⟩ : Mur.Fra).con.kind := by rw [hof_]; exact kind_of _
    refine Wk.ret (.tuple #[.agg (frmh 0 0 0).flatten.toArray, .int .i64 5]) rfl (results_frm rfl _ _ w.heap.size (frmh 0 0 0).flatten.toArray (0, 0) (.int .i64 5) (by kernel_rfl) hb16 (frmL_size (frmL_sz rfl rfl rfl rfl rfl rfl)) (by kernel_rfl)) ?_
    exact ⟨headM 0 0 0, zs0, 5, rfl, lies_none rfl rfl rfl rfl rfl, ⟨sl0_in, sl0_in, sl0_in, sl0_in, sl0_in⟩, .inr (.inr (.inl ⟨rfl, rd_un (by omega) (by omega) hrf_ (by rw [← hkk_]; exact hpr1) (fun e_ => by rw [← hof_]; exact (fun q_ => Bool.noConfusion (hif2.2 q_))), rfl⟩)), kk53⟩
   refine Wk.ret (.tuple #[.agg (frmh 0 0 0).flatten.toArray, .int .i64 5]) rfl (results_frm rfl _ _ w.heap.size (frmh 0 0 0).flatten.toArray (0, 0) (.int .i64 5) (by kernel_rfl) hb16 (frmL_size (frmL_sz rfl rfl rfl rfl rfl rfl)) (by kernel_rfl)) ?_
   exact ⟨headM 0 0 0, zs0, 5, rfl, lies_none rfl rfl rfl rfl rfl, ⟨sl0_in, sl0_in, sl0_in, sl0_in, sl0_in⟩, .inr (.inr (.inl ⟨rfl, rd_none (by omega) hhd_ hkn_, rfl⟩)), kk53⟩
  refine ⟨_, rfl, ?_⟩
  refine rP 16 54 (.bool false) ?_
  refine rP 17 55 (.bool false) ?_
  refine rP 18 37 (.bool false) ?_
  refine rEnd 19 rfl (nxt (wp_cond_false (by kernel_rfl) (wp_seq ?_)))
  refine dReg ([]) (by kernel_rfl) ?_
  intro W30 ch29 sz6
  have zz29 := ch29.size
  have sS4 : Chg ([]) W30 W30 := (Chg.refl _).more (by simp)
  refine dW 0 58 (pt W4.heap.size 0) sS4 ?_
  refine dV 1 59 (.int .u8 ((FF1.kind.toNat : Nat) : Int)) rfl rfl (fun w' hw' => (ld 5 58 W4.heap.size 0 (.int .u8 ((FF1.kind.toNat : Nat) : Int)) (show World.cell? _ ⟨_, 0 + 0, _⟩ = _ from segs_cell (frmL_sz hI.ok.sum hI.ok.key FF1.att.hk FF1.att.hr FF1.att.ht hI.ok.root) (range_row (Chg.hp hw' (Chg.hp ch29 (Chg.hp ch27 (Chg.hp ch25 (Chg.hp ch12 hfr1 trivial) trivial) trivial) trivial) trivial)) 0 rfl rfl))) sS4 ?_
  refine dOp 2 (by kernel_rfl) ?_
  refine oCall (some 60) 19 [.tmp 59] #[5] [.int .u8 ((FF1.kind.toNat : Nat) : Int)] rfl rfl (by kernel_rfl) rfl (by kernel_rfl) (by kernel_rfl) ?_
  refine (Tagged_any FF1.kind W30).mono ?_
  rw [decide_eq_false hpr1]
  rintro _ W31 ⟨rfl, ch30⟩
  have zz30 := ch30.size
  have sS5 := Chg.step sS4 ch30 trivial
  refine ⟨_, rfl, sS5, ?_⟩
  refine dW 3 61 (.bool false) sS5 ?_
  refine dZ 4 62 sS5 ?_
  refine dZ 5 63 sS5 ?_
  refine dZ 6 64 sS5 ?_
  refine dZ 7 65 sS5 ?_
  refine dZ 8 66 sS5 ?_
  refine dZ 9 67 sS5 ?_
  refine dZ 10 68 sS5 ?_
  refine dW 11 69 (.bool false) sS5 ?_
  refine dW 12 57 (.bool false) sS5 ?_
  refine dEnd (by kernel_rfl) (nxt (wp_cond_false (by kernel_rfl) (wp_skip (inN (nxt (wp_seq (reg ?_)))))))
  refine rQ 0 71 (.agg ((frmP FF1 ZZ1).flatten.toArray)) rfl rfl (Mur.loadArr 39 (.tmp 7) rfl _ Tryd.underlying39 rfl W4.heap.size (by kernel_rfl) (frmP FF1 ZZ1).flatten.toArray 213 (frmL_size (frmL_sz hI.ok.sum hI.ok.key FF1.att.hk FF1.att.hr FF1.att.ht hI.ok.root)) (by kernel_rfl) 39 (0, 0) (Chg.hp ch30 (Chg.hp ch29 (Chg.hp ch27 (Chg.hp ch25 (Chg.hp ch12 hfr1 trivial) trivial) trivial) trivial) trivial)) ?_
  refine rY 1 rfl rfl (Mur.storeArr 39 (.tmp 4) (.tmp 71) rfl w.heap.size (by kernel_rfl) (frmP FF1 ZZ1).flatten.toArray 213 (frmL_size (frmL_sz hI.ok.sum hI.ok.key FF1.att.hk FF1.att.hr FF1.att.ht hI.ok.root)) frmL_all (by kernel_rfl) (by kernel_rfl) 39 ((frmh 0 0 0).flatten.toArray) (Chg.hp ch30 (Chg.hp ch29 (Chg.hp ch27 (Chg.hp ch25 (Chg.hp ch12 (Chg.hp ch11 (Chg.hp ch10 (Chg.hp ch9 (Chg.hp ch8 (Chg.hp ch7 (Chg.hp ch6 (Chg.hp ch5 (Chg.hp ch4 (Chg.hp ch3 hb1 trivial) ⟨by omega, trivial⟩) trivial) ⟨by omega, trivial⟩) ⟨by omega, trivial⟩) ⟨by omega, trivial⟩) ⟨by omega, trivial⟩) ⟨by omega, trivial⟩) ⟨by omega, ⟨by omega, trivial⟩⟩) trivial) trivial) trivial) trivial) trivial) (frmL_size (frmL_sz rfl rfl rfl rfl rfl rfl))) ?_
  rintro W32 ⟨hb17, ch31⟩
  have zz31 := ch31.size
  refine rP 2 5 (.int .i64 0) ?_
  refine rEnd 3 rfl (nxt (wp_ret ?_))
  have kk54 := Chg.step kk11 ch11 ⟨.inr (by omega), ⟨.inr (by omega), trivial⟩⟩
  have kk55 := Chg.step kk54 ch12 trivial
  have kk56 := Chg.step kk55 ch25 trivial
  have kk57 := Chg.step kk56 ch27 trivial
  have kk58 := Chg.step kk57 ch29 trivial
  have kk59 := Chg.step kk58 ch30 trivial
  have kk60 := Chg.step kk59 ch31 ⟨.inr (by omega), trivial⟩
  have hhd_ : Mur.Step (Mur.pSeq Mur.readK (Mur.pSeq Mur.readI Mur.readI)) b 0 false _ _ (v1, (v2, v3)) := hst1.seq (hst2.seq hst3)
  rcases hAlt1 with ⟨cc_, hcc_, hFe_, _⟩ | ⟨hkn_, hFe_, _, _⟩
  ·have hrf_ := hhd_.fra hcc_
   have hof_ : FF1 = Mur.ofFra ⟨v2, v3, cc_⟩ := hFe_
   have hkk_ : FF1.kind.toNat = (⟨v2, v3, cc_⟩ : Mur.Fra).con.kind := by rw [hof_]; exact kind_of _
   have kk61 := Chg.step kk48 ch27 trivial
   have kk62 := Chg.step kk61 ch29 trivial
   have kk63 := Chg.step kk62 ch30 trivial
   have kk64 := Chg.step kk63 ch31 ⟨.inl (by simp), trivial⟩
   refine Wk.ret (.tuple #[.agg (frmP FF1 ZZ1).flatten.toArray, .int .i64 0]) rfl (results_frm rfl _ _ w.heap.size (frmP FF1 ZZ1).flatten.toArray (0, 0) (.int .i64 0) (by kernel_rfl) hb17 (frmL_size (frmL_sz hI.ok.sum hI.ok.key FF1.att.hk FF1.att.hr FF1.att.ht hI.ok.root)) (by kernel_rfl)) ?_
   exact ⟨FF1, ZZ1, 0, rfl, (LiesF.chg hLs1 kk64 ⟨(fun g off e => fun _ => (by have h_ : W11.heap.size ≤ g := hZin1.1 g off e; exact ⟨by omega, ⟨by omega, trivial⟩⟩)), (fun g off e => fun _ => (by have h_ : W11.heap.size ≤ g := hZin1.2.1 g off e; exact ⟨by omega, ⟨by omega, trivial⟩⟩)), (fun g off e => fun _ => (by have h_ : W11.heap.size ≤ g := hZin1.2.2.1 g off e; exact ⟨by omega, ⟨by omega, trivial⟩⟩)), (fun g off e => fun _ => (by have h_ : W11.heap.size ≤ g := hZin1.2.2.2.1 g off e; exact ⟨by omega, ⟨by omega, trivial⟩⟩)), (fun g off e => fun _ => (by have h_ : W11.heap.size ≤ g := hZin1.2.2.2.2 g off e; exact ⟨by omega, ⟨by omega, trivial⟩⟩))⟩), ⟨fun g off e => by have h_ : W11.heap.size ≤ g := hZin1.1 g off e; show w.heap.size ≤ g; omega, fun g off e => by have h_ : W11.heap.size ≤ g := hZin1.2.1 g off e; show w.heap.size ≤ g; omega, fun g off e => by have h_ : W11.heap.size ≤ g := hZin1.2.2.1 g off e; show w.heap.size ≤ g; omega, fun g off e => by have h_ : W11.heap.size ≤ g := hZin1.2.2.2.1 g off e; show w.heap.size ≤ g; omega, fun g off e => by have h_ : W11.heap.size ≤ g := hZin1.2.2.2.2 g off e; show w.heap.size ≤ g; omega⟩, .inl ⟨rfl, (by rw [hof_]; exact Mur.rd_un_ok (by omega) hrf_ (by rw [← hkk_]; exact hpr1) (by omega) (by rw [← hof_]; exact (hif2.1 rfl))), hI⟩, kk60⟩
  exact absurd (hFe_ ▸ (hif2.1 rfl)) (may_head hkn_)
 refine rZ 5 43 ?_
 refine rZ 6 44 ?_
 refine rZ 7 45 ?_
 refine rZ 8 46 ?_
 refine rZ 9 47 ?_
 refine rZ 10 48 ?_
 refine rZ 11 49 ?_
 refine rP 12 50 (.bool true) ?_
 refine rP 13 51 (.bool true) ?_
 refine rZ 14 52 ?_
 refine rZ 15 53 ?_
 refine rZ 16 54 ?_
 refine rP 17 55 (.bool true) ?_
 refine rP 18 37 (.bool true) ?_
 refine rEnd 19 rfl (nxt (wp_cond_true (by kernel_rfl) (wp_seq (reg ?_))))
 refine rQ 0 56 (.agg ((frmh 0 0 0).flatten.toArray)) rfl rfl (run_built 39 _ rfl [] (by kernel_rfl) _ built_head0) ?_
 refine rY 1 rfl rfl (Mur.storeArr 39 (.tmp 4) (.tmp 56) rfl w.heap.size (by kernel_rfl) (frmh 0 0 0).flatten.toArray 213 (frmL_size (frmL_sz rfl rfl rfl rfl rfl rfl)) frmL_all (by kernel_rfl) (by kernel_rfl) 39 ((frmh 0 0 0).flatten.toArray) (Chg.hp ch25 (Chg.hp ch12 (Chg.hp ch11 (Chg.hp ch10 (Chg.hp ch9 (Chg.hp ch8 (Chg.hp ch7 (Chg.hp ch6 (Chg.hp ch5 (Chg.hp ch4 (Chg.hp ch3 hb1 trivial) ⟨by omega, trivial⟩) trivial) ⟨by omega, trivial⟩) ⟨by omega, trivial⟩) ⟨by omega, trivial⟩) ⟨by omega, trivial⟩) ⟨by omega, trivial⟩) ⟨by omega, ⟨by omega, trivial⟩⟩) trivial) trivial) (frmL_size (frmL_sz rfl rfl rfl rfl rfl rfl))) ?_
 rintro W33 ⟨hb18, ch32⟩
 have zz32 := ch32.size
 refine rP 2 5 (.int .i64 5) ?_
 refine rEnd 3 rfl (nxt (wp_ret (inR (thR ?_))))
 have kk65 := Chg.step kk11 ch11 ⟨.inr (by omega), ⟨.inr (by omega), trivial⟩⟩
 have kk66 := Chg.step kk65 ch12 trivial
 have kk67 := Chg.step kk66 ch25 trivial
 have kk68 := Chg.step kk67 ch32 ⟨.inr (by omega), trivial⟩
 have hhd_ : Mur.Step (Mur.pSeq Mur.readK (Mur.pSeq Mur.readI Mur.readI)) b 0 false _ _ (v1, (v2, v3)) := hst1.seq (hst2.seq hst3)
 rcases hAlt1 with ⟨cc_, hcc_, hFe_, _⟩ | ⟨hkn_, hFe_, _, _⟩
 ·have hrf_ := hhd_.fra hcc_
  have hof_ : FF1 = Mur.ofFra ⟨v2, v3, cc_⟩ := hFe_
  have hkk_ : FF1.kind.toNat = (⟨v2, v3, cc_⟩ : Mur.Fra).con.kind := by rw [hof_]; exact kind_of _
  refine Wk.ret (.tuple #[.agg (frmh 0 0 0).flatten.toArray, .int .i64 5]) rfl (results_frm rfl _ _ w.heap.size (frmh 0 0 0).flatten.toArray (0, 0) (.int .i64 5) (by kernel_rfl) hb18 (frmL_size (frmL_sz rfl rfl rfl rfl rfl rfl)) (by kernel_rfl)) ?_
  exact ⟨headM 0 0 0, zs0, 5, rfl, lies_none rfl rfl rfl rfl rfl, ⟨sl0_in, sl0_in, sl0_in, sl0_in, sl0_in⟩, .inr (.inr (.inl ⟨rfl, Mur.rd_bad (by omega) hrf_, rfl⟩)), kk68⟩
 refine Wk.ret (.tuple #[.agg (frmh 0 0 0).flatten.toArray, .int .i64 5]) rfl (results_frm rfl _ _ w.heap.size (frmh 0 0 0).flatten.toArray (0, 0) (.int .i64 5) (by kernel_rfl) hb18 (frmL_size (frmL_sz rfl rfl rfl rfl rfl rfl)) (by kernel_rfl)) ?_
 exact ⟨headM 0 0 0, zs0, 5, rfl, lies_none rfl rfl rfl rfl rfl, ⟨sl0_in, sl0_in, sl0_in, sl0_in, sl0_in⟩, .inr (.inr (.inl ⟨rfl, rd_none (by omega) hhd_ hkn_, rfl⟩)), kk68⟩
end Go.Proofs.YtgbadghjnpbiaaaDoor
namespace Go.Proofs.YtgbadghjnpbiaaaDoor
open Go.RowKit Wk
open Mur (b8s Byt Own8 Seg Segs flat cutA attC Att SlA OwnA rowA msgC Frm Zs LiesF FrmIn mayFM frmP bodyFM segs_cell frmL_sz conv_int i64_nat u64n formN slr_lt body_le own8_low segs_rng msg_kind byt_chg byt_blt b8s_length newOr_own segs_row bytesFM frmL_size)
set_option maxRecDepth 100000
set_option maxHeartbeats 4000000
theorem Body_any (f : Frm) (z : Zs) (w : World) (hL : LiesF w z f) (hI : FrmIn f) (hm : mayFM f) : Calls Tryd.prog 23 #[.agg (frmP f z).flatten.toArray] w fun e w' => ∃ A1 n1 c1, e = .returned (.slice A1 n1 c1) ∧ Own8 w' w.heap.size 5 A1 n1 c1 (bodyFM f) ∧ n1 ≤ 1900 ∧ Chg [] w w' := by
 have hLin_ : z.In fun g => g < w.heap.size → Wk.Off g [] := ⟨fun _ _ _ _ => trivial, fun _ _ _ _ => trivial, fun _ _ _ _ => trivial, fun _ _ _ _ => trivial, fun _ _ _ _ => trivial⟩
 have hLunc_ := hL.nu.nc
 have hLucm_ := hL.nu.cm
 have hLpnc_ := hL.np.nc
 have hLpcm_ := hL.np.cm
 have hLinc_ := hL.ni.nc
 have hLicm_ := hL.ni.cm
 have hLync_ := hL.ny.nc
 have hLycm_ := hL.ny.cm
 have hLfnc_ := hL.nf.nc
 have hLfcm_ := hL.nf.cm
 have hpk8_ := f.pKind.toNat_lt
 have hgk8_ := f.gos.kind.toNat_lt
 have hfk8_ := f.kind.toNat_lt
 have hul_ := hL.upd.len
 rw [List.length_map] at hul_
 have hil_ := hL.its.len
 have hfl_ := hL.prf.len
 rw [List.length_map] at hfl_
 have hpl_ := hL.pre.1
 have hyl_ := hL.byt.1
 have hkm_ := Mur.kind_may hm
 have hH4_ : Mur.nodeM f.frm ∧ Mur.nodeM f.dst ∧ f.frm ≠ f.dst ∧ f = Mur.bareM f := ⟨hm.1, hm.2.1, hm.2.2.1, hm.2.2.2.1⟩
 refine calls_of_wp Tryd.func23 rfl ?_
 refine wp_seq (reg ?_)
 refine rX 0 1 rfl rfl (new_ex (pt w.heap.size 0) ((frmP f z).flatten.toArray) 39 (by kernel_rfl)) ?_
 rintro _ W1 ⟨rfl, hb1, ch1, sz1⟩
 have zz1 := ch1.size
 refine rP 1 2 (.slice none 0 0) ?_
 refine rEnd 2 rfl (nxt (wp_seq (reg ?_)))
 refine rP 0 5 (.agg #[.slice none 0 0]) ?_
 refine rX 1 6 rfl rfl (new_ex (pt W1.heap.size 0) #[.slice none 0 0] 97 (by kernel_rfl)) ?_
 rintro _ W2 ⟨rfl, hb2, ch2, sz2⟩
 have zz2 := ch2.size
 refine rP 2 3 (pt W1.heap.size 0) ?_
 refine rEnd 3 rfl (nxt (wp_seq (reg ?_)))
 have ow1 := Mur.own8_none W2 (W1.heap.size + 1) 5
 refine rP 0 7 (pt W1.heap.size 0) ?_
 refine rP 1 8 (pt w.heap.size 0) ?_
 refine rQ 2 9 _ rfl rfl (ld 5 8 w.heap.size 0 (.int .u8 ((f.kind.toNat : Nat) : Int)) (show World.cell? _ ⟨_, 0 + 0, _⟩ = _ from segs_cell (frmL_sz hI.ok.sum hI.ok.key f.att.hk f.att.hr f.att.ht hI.ok.root) (range_row (Chg.hp ch2 hb1 trivial)) 0 rfl rfl)) ?_
 refine rQ 3 10 (.int .i64 ((f.kind.toNat : Nat) : Int)) rfl rfl (conv_int 5 3 (.tmp 9) rfl (by kernel_rfl) .i64 Tryd.underlying3 .u8 ((f.kind.toNat : Nat) : Int) (by kernel_rfl) (i64_nat (n := f.kind.toNat) (by omega))) ?_
 refine rP 4 11 (pt w.heap.size 1) ?_
 refine rQ 5 12 _ rfl rfl (ld 3 11 w.heap.size 1 (.int .i64 f.frm) (show World.cell? _ ⟨_, 0 + 1, _⟩ = _ from segs_cell (frmL_sz hI.ok.sum hI.ok.key f.att.hk f.att.hr f.att.ht hI.ok.root) (range_row (Chg.hp ch2 hb1 trivial)) 1 rfl rfl)) ?_
 refine rP 6 13 (pt w.heap.size 2) ?_
 refine rQ 7 14 _ rfl rfl (ld 3 13 w.heap.size 2 (.int .i64 f.dst) (show World.cell? _ ⟨_, 0 + 2, _⟩ = _ from segs_cell (frmL_sz hI.ok.sum hI.ok.key f.att.hk f.att.hr f.att.ht hI.ok.root) (range_row (Chg.hp ch2 hb1 trivial)) 2 rfl rfl)) ?_
 refine rX 8 15 rfl rfl (new_ex (.slice (some ⟨W2.heap.size, 0, none⟩) 3 3) #[.int .i64 ((f.kind.toNat : Nat) : Int), .int .i64 f.frm, .int .i64 f.dst] 3 (by kernel_rfl)) ?_
 rintro _ W3 ⟨rfl, hb3, ch3, sz3⟩
 have zz3 := ch3.size
 refine rC 9 16 49 [.tmp 7, .tmp 15] #[95, 110] [pt W1.heap.size 0, .slice (some ⟨W2.heap.size, 0, none⟩) 3 3] ?_
 have ow2 := Mur.own8 (own_chg ow1.own ch3 (fun q e _ _ => trivial))
 refine (Wint3_any W1.heap.size (W1.heap.size + 1) none 0 0 ([]) W2.heap.size ((f.kind.toNat : Nat) : Int) f.frm f.dst W3 (Chg.hp ch3 hb2 trivial) ⟨by omega, by omega⟩ ow2 (by omega) hb3 (by omega)).mono ?_
 rintro _ W4 ⟨AA1, nn1, cc1, rfl, hgw1, ow3, hle1, ch4⟩
 have zz4 := ch4.size
 have hq1 := ow3.nc
 have hq2 := ow3.cm
 have hq3 := ow3.byt.1
 refine ⟨_, rfl, ?_⟩
 refine rEnd 10 rfl (nxt (wp_seq (wp_seq (reg ?_))))
 refine rP 0 17 (pt w.heap.size 0) ?_
 refine rQ 1 18 _ rfl rfl (ld 5 17 w.heap.size 0 (.int .u8 ((f.kind.toNat : Nat) : Int)) (show World.cell? _ ⟨_, 0 + 0, _⟩ = _ from segs_cell (frmL_sz hI.ok.sum hI.ok.key f.att.hk f.att.hr f.att.ht hI.ok.root) (range_row (Chg.hp ch4 (Chg.hp ch3 (Chg.hp ch2 hb1 trivial) trivial) ⟨by omega, trivial⟩)) 0 rfl rfl)) ?_
 refine rEnd 2 rfl (nxt (wp_block (wp_seq (reg ?_))))
 by_cases hx1 : ((f.kind.toNat : Nat) : Int) = (1 : Int)
 ·refine rQ 0 20 _ rfl rfl (qboolT (b := (((f.kind.toNat : Nat) : Int) == (1 : Int))) (beq_iff_eq.2 (by first | exact hx1 | omega))) ?_
  refine rP 1 19 (.bool true) ?_
  refine rEnd 2 rfl (nxt (wp_cond_true (by kernel_rfl) (wp_seq (reg ?_))))
  have hk_ : f.kind = 1 := UInt8.toNat_inj.1 (by have h_ : (1 : UInt8).toNat = 1 := rfl; omega)
  have hmk_ := (Mur.mayFM_1 hH4_ hk_).1 hm
  have hu8_ := hmk_.2.2.2.1
  refine rP 0 21 (pt W1.heap.size 0) ?_
  refine rP 1 22 (pt w.heap.size 3) ?_
  refine rP 2 23 (pt w.heap.size 4) ?_
  refine rQ 3 24 _ rfl rfl (ld 5 23 w.heap.size 4 (.int .u8 ((f.pKind.toNat : Nat) : Int)) (show World.cell? _ ⟨_, 0 + 4, _⟩ = _ from segs_cell (frmL_sz hI.ok.sum hI.ok.key f.att.hk f.att.hr f.att.ht hI.ok.root) (range_row (Chg.hp ch4 (Chg.hp ch3 (Chg.hp ch2 hb1 trivial) trivial) ⟨by omega, trivial⟩)) 4 rfl rfl)) ?_
  refine rQ 4 25 (.int .u64 ((f.pKind.toNat : Nat) : Int)) rfl rfl (conv_int 5 24 (.tmp 24) rfl (by kernel_rfl) .u64 Tryd.underlying24 .u8 ((f.pKind.toNat : Nat) : Int) (by kernel_rfl) (Mur.u64_nat (n := f.pKind.toNat) (by omega))) ?_
  refine rP 5 26 (pt w.heap.size 3) ?_
  refine rP 6 27 (pt w.heap.size 5) ?_
  refine rQ 7 28 _ rfl rfl (ld 24 27 w.heap.size 5 (.int .u64 ((f.pSeq : Nat) : Int)) (show World.cell? _ ⟨_, 0 + 5, _⟩ = _ from segs_cell (frmL_sz hI.ok.sum hI.ok.key f.att.hk f.att.hr f.att.ht hI.ok.root) (range_row (Chg.hp ch4 (Chg.hp ch3 (Chg.hp ch2 hb1 trivial) trivial) ⟨by omega, trivial⟩)) 5 rfl rfl)) ?_
  refine rP 8 29 (pt w.heap.size 3) ?_
  refine rP 9 30 (pt w.heap.size 6) ?_
  refine rQ 10 31 _ rfl rfl (ld 3 30 w.heap.size 6 (.int .i64 f.pAbout) (show World.cell? _ ⟨_, 0 + 6, _⟩ = _ from segs_cell (frmL_sz hI.ok.sum hI.ok.key f.att.hk f.att.hr f.att.ht hI.ok.root) (range_row (Chg.hp ch4 (Chg.hp ch3 (Chg.hp ch2 hb1 trivial) trivial) ⟨by omega, trivial⟩)) 6 rfl rfl)) ?_
  refine rQ 11 32 (.int .u64 ((u64n f.pAbout : Nat) : Int)) rfl rfl (Mur.conv_u64n 3 24 (.tmp 31) rfl (by kernel_rfl) Tryd.underlying24 .i64 f.pAbout (by kernel_rfl)) ?_
  refine rX 12 33 rfl rfl (new_ex (.slice (some ⟨W4.heap.size, 0, none⟩) 3 3) #[.int .u64 ((f.pKind.toNat : Nat) : Int), .int .u64 ((f.pSeq : Nat) : Int), .int .u64 ((u64n f.pAbout : Nat) : Int)] 24 (by kernel_rfl)) ?_
  rintro _ W5 ⟨rfl, hb4, ch5, sz4⟩
  have zz5 := ch5.size
  refine rC 13 34 50 [.tmp 21, .tmp 33] #[95, 108] [pt W1.heap.size 0, .slice (some ⟨W4.heap.size, 0, none⟩) 3 3] ?_
  have ow4 := Mur.own8 (own_chg ow3.own ch5 (fun q e _ _ => trivial))
  refine (Wuint3_any W1.heap.size W3.heap.size AA1 nn1 cc1 (([]) ++ formN (u64n ((f.kind.toNat : Nat) : Int)) ++ formN (u64n f.frm) ++ formN (u64n f.dst)) W4.heap.size f.pKind.toNat f.pSeq (u64n f.pAbout) W5 (Chg.hp ch5 hgw1 trivial) ⟨by omega, by omega⟩ ow4 (by omega) hb4 (by omega) (by have := f.pKind.toNat_lt; omega) hI.ok.seq (Mur.u64n_lt _)).mono ?_
  rintro _ W6 ⟨AA2, nn2, cc2, rfl, hgw2, ow5, hle2, ch6⟩
  have zz6 := ch6.size
  have hq4 := ow5.nc
  have hq5 := ow5.cm
  have hq6 := ow5.byt.1
  refine ⟨_, rfl, ?_⟩
  refine rEnd 14 rfl (nxt (reg ?_))
  refine rP 0 35 (pt W1.heap.size 0) ?_
  refine rP 1 36 (pt w.heap.size 3) ?_
  refine rP 2 37 (pt w.heap.size 7) ?_
  refine rQ 3 38 _ rfl rfl (ld 25 37 w.heap.size 7 (.slice z.u.A z.u.n z.u.c) (show World.cell? _ ⟨_, 0 + 7, _⟩ = _ from segs_cell (frmL_sz hI.ok.sum hI.ok.key f.att.hk f.att.hr f.att.ht hI.ok.root) (range_row (Chg.hp ch6 (Chg.hp ch5 (Chg.hp ch4 (Chg.hp ch3 (Chg.hp ch2 hb1 trivial) trivial) ⟨by omega, trivial⟩) trivial) ⟨by omega, trivial⟩)) 7 rfl rfl)) ?_
  refine rP 4 39 (pt W1.heap.size 0) ?_
  refine rP 5 40 (.func (.func 52) #[pt W1.heap.size 0] #[]) ?_
  refine rC 6 41 51 [.tmp 35, .tmp 38, .tmp 40] #[95, 25, 101] [pt W1.heap.size 0, .slice z.u.A z.u.n z.u.c, .func (.func 52) #[pt W1.heap.size 0] #[]] ?_
  have kk1 : Chg [] w W1 := Chg.step ((Chg.refl _).more (by simp)) ch1 trivial
  have kk2 := Chg.step kk1 ch2 trivial
  have kk3 := Chg.step kk2 ch3 trivial
  have kk4 := Chg.step kk3 ch4 ⟨.inr (by omega), trivial⟩
  have kk5 := Chg.step kk4 ch5 trivial
  have kk6 := Chg.step kk5 ch6 ⟨.inr (by omega), trivial⟩
  refine (WListU_any W1.heap.size W5.heap.size AA2 nn2 cc2 (([]) ++ formN (u64n ((f.kind.toNat : Nat) : Int)) ++ formN (u64n f.frm) ++ formN (u64n f.dst) ++ formN f.pKind.toNat ++ formN f.pSeq ++ formN (u64n f.pAbout)) f.pUpd z.u.A z.u.n z.u.c W6 hgw2 ⟨by omega, by omega⟩ ow5 (by omega) (LiesF.chg hL kk6 hLin_).upd (fun u_ h_ => hI.ok.upd u_ h_) (by omega) (fun g2 off e_ hn_ => by have h_ := slr_lt hL.upd (by decide) e_ hn_; omega)).mono ?_
  rintro _ W7 ⟨AA3, nn3, cc3, rfl, hgw3, ow6, hle3, ch7⟩
  have zz7 := ch7.size
  have hq7 := ow6.nc
  have hq8 := ow6.cm
  have hq9 := ow6.byt.1
  refine ⟨_, rfl, ?_⟩
  refine rEnd 7 rfl (inN (nxt (wp_seq (reg ?_))))
  refine rP 0 137 (pt W1.heap.size 0) ?_
  refine rP 1 138 (pt W1.heap.size 0) ?_
  refine rP 2 139 (pt W1.heap.size 0) ?_
  refine rQ 3 140 _ rfl rfl (ld 22 139 W1.heap.size 0 (.slice AA3 nn3 cc3) ((cell_of_row _ _ 0 _ _ _ hgw3).trans rfl)) ?_
  refine rP 4 2 (.slice AA3 nn3 cc3) ?_
  refine rEnd 5 rfl (nxt (wp_ret ?_))
  have hH_ := ow6
  rw [List.nil_append, Mur.bodyB_1 hm hk_] at hH_
  have hbd_ := body_le hm hI.ok
  have hbl_ := hH_.byt.1
  have kk7 := Chg.step kk6 ch7 ⟨.inr (by omega), trivial⟩
  refine rt (.slice AA3 nn3 cc3) ?_
  exact ⟨_, _, _, rfl, own8_low hH_ (by omega), by omega, kk7⟩
 refine rQ 0 20 _ rfl rfl (qboolF (b := (((f.kind.toNat : Nat) : Int) == (1 : Int))) (beq_eq_false_iff_ne.2 (by first | exact hx1 | omega))) ?_
 refine rP 1 19 (.bool false) ?_
 refine rEnd 2 rfl (nxt (wp_cond_false (by kernel_rfl) (wp_seq (reg ?_))))
 by_cases hx2 : ((f.kind.toNat : Nat) : Int) = (2 : Int)
 ·refine rQ 0 43 _ rfl rfl (qboolT (b := (((f.kind.toNat : Nat) : Int) == (2 : Int))) (beq_iff_eq.2 (by first | exact hx2 | omega))) ?_
  refine rP 1 42 (.bool true) ?_
  refine rEnd 2 rfl (nxt (wp_cond_true (by kernel_rfl) (wp_seq (reg ?_))))
  have hk_ : f.kind = 2 := UInt8.toNat_inj.1 (by have h_ : (2 : UInt8).toNat = 2 := rfl; omega)
  have hmk_ := (Mur.mayFM_2 hH4_ hk_).1 hm
  have hp8_ := Mur.pre_len hmk_.1
  have hi8_ := hmk_.2.2.2.1
  refine rP 0 44 (pt w.heap.size 8) ?_
  refine rQ 1 45 (.agg ((Mur.msgC f.gos.kind z.p.A z.p.n z.p.c f.gos.sum f.gos.cnt z.i.A z.i.n z.i.c f.gos.ans).toArray)) rfl rfl (loadR 32 (.tmp 44) rfl _ Tryd.underlying32 rfl w.heap.size 8 (by kernel_rfl) (Mur.msgC f.gos.kind z.p.A z.p.n z.p.c f.gos.sum f.gos.cnt z.i.A z.i.n z.i.c f.gos.ans) (by rw [Mur.msgC_length hI.ok.sum]; kernel_rfl) (show World.rangeAt _ _ (0 + 8) _ from segs_rng (frmL_sz hI.ok.sum hI.ok.key f.att.hk f.att.hr f.att.ht hI.ok.root) (range_row (Chg.hp ch4 (Chg.hp ch3 (Chg.hp ch2 hb1 trivial) trivial) ⟨by omega, trivial⟩)) 8 6 rfl rfl)) ?_
  refine rX 2 4 rfl rfl (new_ex (pt W4.heap.size 0) ZM 32 (by kernel_rfl)) ?_
  rintro _ W8 ⟨rfl, hb5, ch8, sz5⟩
  have zz8 := ch8.size
  refine rY 3 rfl rfl (Mur.storeArr 32 (.tmp 4) (.tmp 45) rfl W4.heap.size (by kernel_rfl) (Mur.msgC f.gos.kind z.p.A z.p.n z.p.c f.gos.sum f.gos.cnt z.i.A z.i.n z.i.c f.gos.ans).toArray 37 (Mur.msgC_size hI.ok.sum) Mur.msgC_all (by kernel_rfl) (by kernel_rfl) 32 ZM hb5 (by kernel_rfl)) ?_
  rintro W10 ⟨hb6, ch9⟩
  have zz9 := ch9.size
  refine rEnd 4 rfl (nxt (wp_seq (reg ?_)))
  refine rP 0 46 (pt W1.heap.size 0) ?_
  refine rP 1 47 (pt W4.heap.size 0) ?_
  refine rQ 2 48 _ rfl rfl (ld 5 47 W4.heap.size 0 (.int .u8 ((f.gos.kind.toNat : Nat) : Int)) (show World.cell? _ ⟨_, 0 + 0, _⟩ = _ from msg_kind (range_row hb6))) ?_
  refine rQ 3 49 (.int .i64 ((f.gos.kind.toNat : Nat) : Int)) rfl rfl (conv_int 5 3 (.tmp 48) rfl (by kernel_rfl) .i64 Tryd.underlying3 .u8 ((f.gos.kind.toNat : Nat) : Int) (by kernel_rfl) (i64_nat (n := f.gos.kind.toNat) (by omega))) ?_
  refine rX 4 50 rfl rfl (new_ex (.slice (some ⟨W10.heap.size, 0, none⟩) 1 1) #[.int .i64 ((f.gos.kind.toNat : Nat) : Int)] 3 (by kernel_rfl)) ?_
  rintro _ W11 ⟨rfl, hb7, ch10, sz6⟩
  have zz10 := ch10.size
  refine rC 5 51 49 [.tmp 46, .tmp 50] #[95, 110] [pt W1.heap.size 0, .slice (some ⟨W10.heap.size, 0, none⟩) 1 1] ?_
  have ow7 := Mur.own8 (own_chg ow3.own ch8 (fun q e _ _ => trivial))
  have ow8 := Mur.own8 (own_chg ow7.own ch9 (fun q e _ _ => ⟨by have := ow3.lt q e; omega, trivial⟩))
  have ow9 := Mur.own8 (own_chg ow8.own ch10 (fun q e _ _ => trivial))
  refine (Wint1_any W1.heap.size W3.heap.size AA1 nn1 cc1 (([]) ++ formN (u64n ((f.kind.toNat : Nat) : Int)) ++ formN (u64n f.frm) ++ formN (u64n f.dst)) W10.heap.size ((f.gos.kind.toNat : Nat) : Int) W11 (Chg.hp ch10 (Chg.hp ch9 (Chg.hp ch8 hgw1 trivial) ⟨by omega, trivial⟩) trivial) ⟨by omega, by omega⟩ ow9 (by omega) hb7 (by omega)).mono ?_
  rintro _ W12 ⟨AA4, nn4, cc4, rfl, hgw4, ow10, hle4, ch11⟩
  have zz11 := ch11.size
  have hq10 := ow10.nc
  have hq11 := ow10.cm
  have hq12 := ow10.byt.1
  refine ⟨_, rfl, ?_⟩
  refine rEnd 6 rfl (nxt (wp_seq (reg ?_)))
  refine rP 0 52 (pt W1.heap.size 0) ?_
  refine rP 1 53 (pt W4.heap.size 1) ?_
  refine rQ 2 54 _ rfl rfl (ld 22 53 W4.heap.size 1 (.slice z.p.A z.p.n z.p.c) (show World.cell? _ ⟨_, 0 + 1, _⟩ = _ from Mur.msg_pre (range_row (Chg.hp ch11 (Chg.hp ch10 hb6 trivial) ⟨by omega, trivial⟩)))) ?_
  refine rC 3 55 53 [.tmp 52, .tmp 54] #[95, 22] [pt W1.heap.size 0, .slice z.p.A z.p.n z.p.c] ?_
  have kk8 : Chg [] w W1 := Chg.step ((Chg.refl _).more (by simp)) ch1 trivial
  have kk9 := Chg.step kk8 ch2 trivial
  have kk10 := Chg.step kk9 ch3 trivial
  have kk11 := Chg.step kk10 ch4 ⟨.inr (by omega), trivial⟩
  have kk12 := Chg.step kk11 ch8 trivial
  have kk13 := Chg.step kk12 ch9 ⟨.inr (by omega), trivial⟩
  have kk14 := Chg.step kk13 ch10 trivial
  have kk15 := Chg.step kk14 ch11 ⟨.inr (by omega), trivial⟩
  refine (Wbytes_any W1.heap.size W11.heap.size AA4 nn4 cc4 (([]) ++ formN (u64n ((f.kind.toNat : Nat) : Int)) ++ formN (u64n f.frm) ++ formN (u64n f.dst) ++ formN (u64n ((f.gos.kind.toNat : Nat) : Int))) f.gos.pre z.p.A z.p.n z.p.c W12 hgw4 ⟨by omega, by omega⟩ ow10 (by omega) (byt_chg hL.pre kk15 (fun g off e hl => trivial)) ⟨by omega, by omega⟩ hL.np.nil (by omega) (fun g2 off e_ hn_ => by have h_ := byt_blt hL.pre e_ hn_; omega)).mono ?_
  rintro _ W13 ⟨AA5, nn5, cc5, rfl, hgw5, ow11, hle5, ch12⟩
  have zz12 := ch12.size
  have kk16 := Chg.step kk15 ch12 ⟨.inr (by omega), trivial⟩
  have hq13 := ow11.nc
  have hq14 := ow11.cm
  have hq15 := ow11.byt.1
  refine ⟨_, rfl, ?_⟩
  refine rEnd 4 rfl (nxt (wp_seq (reg ?_)))
  refine rP 0 56 (pt W4.heap.size 0) ?_
  refine rQ 1 57 _ rfl rfl (ld 5 56 W4.heap.size 0 (.int .u8 ((f.gos.kind.toNat : Nat) : Int)) (show World.cell? _ ⟨_, 0 + 0, _⟩ = _ from msg_kind (range_row (Chg.hp ch12 (Chg.hp ch11 (Chg.hp ch10 hb6 trivial) ⟨by omega, trivial⟩) ⟨by omega, trivial⟩)))) ?_
  by_cases hx3 : ((f.gos.kind.toNat : Nat) : Int) = (1 : Int)
  ·refine rQ 2 58 _ rfl rfl (qboolT (b := (((f.gos.kind.toNat : Nat) : Int) == (1 : Int))) (beq_iff_eq.2 (by first | exact hx3 | omega))) ?_
   refine rEnd 3 rfl (nxt (wp_cond_true (by kernel_rfl) (wp_seq (reg ?_))))
   refine rP 0 59 (pt W1.heap.size 0) ?_
   refine rP 1 60 (pt W4.heap.size 2) ?_
   refine rQ 2 61 (.agg ((b8s f.gos.sum).toArray)) rfl rfl (loadR 29 (.tmp 60) rfl _ Tryd.underlying29 rfl W4.heap.size 2 (by kernel_rfl) (b8s f.gos.sum) (by rw [b8s_length, hI.ok.sum]; kernel_rfl) (show World.rangeAt _ _ (0 + 2) _ from Mur.msg_sum (range_row (Chg.hp ch12 (Chg.hp ch11 (Chg.hp ch10 hb6 trivial) ⟨by omega, trivial⟩) ⟨by omega, trivial⟩)))) ?_
   refine rC 3 62 54 [.tmp 59, .tmp 61] #[95, 29] [pt W1.heap.size 0, .agg ((b8s f.gos.sum).toArray)] ?_
   refine (Wdigest_any W1.heap.size W12.heap.size AA5 nn5 cc5 (([]) ++ formN (u64n ((f.kind.toNat : Nat) : Int)) ++ formN (u64n f.frm) ++ formN (u64n f.dst) ++ formN (u64n ((f.gos.kind.toNat : Nat) : Int)) ++ (formN f.gos.pre.length ++ f.gos.pre)) f.gos.sum W13 hgw5 ⟨by omega, by omega⟩ ow11 (by omega) hI.ok.sum).mono ?_
   rintro _ W14 ⟨AA6, nn6, cc6, rfl, hgw6, ow12, hle6, ch13⟩
   have lto1 := ow11.lt
   have zz13 := ch13.size
   have hq16 := ow12.nc
   have hq17 := ow12.cm
   have hq18 := ow12.byt.1
   refine ⟨_, rfl, ?_⟩
   refine rEnd 4 rfl (nxt (reg ?_))
   refine rP 0 63 (pt W1.heap.size 0) ?_
   refine rP 1 64 (pt W4.heap.size 34) ?_
   refine rQ 2 65 _ rfl rfl (ld 3 64 W4.heap.size 34 (.int .i64 f.gos.cnt) (show World.cell? _ ⟨_, 0 + 34, _⟩ = _ from Mur.msg_cnt hI.ok.sum (range_row (Chg.hp ch13 (Chg.hp ch12 (Chg.hp ch11 (Chg.hp ch10 hb6 trivial) ⟨by omega, trivial⟩) ⟨by omega, trivial⟩) ⟨by omega, (off_blk (fun gz hgz => by have := lto1 gz hgz; omega))⟩)))) ?_
   refine rX 3 66 rfl rfl (new_ex (.slice (some ⟨W14.heap.size, 0, none⟩) 1 1) #[.int .i64 f.gos.cnt] 3 (by kernel_rfl)) ?_
   rintro _ W15 ⟨rfl, hb8, ch14, sz7⟩
   have zz14 := ch14.size
   refine rC 4 67 49 [.tmp 63, .tmp 66] #[95, 110] [pt W1.heap.size 0, .slice (some ⟨W14.heap.size, 0, none⟩) 1 1] ?_
   have ow13 := Mur.own8 (own_chg ow12.own ch14 (fun q e _ _ => trivial))
   refine (Wint1_any W1.heap.size W12.heap.size AA6 nn6 cc6 (([]) ++ formN (u64n ((f.kind.toNat : Nat) : Int)) ++ formN (u64n f.frm) ++ formN (u64n f.dst) ++ formN (u64n ((f.gos.kind.toNat : Nat) : Int)) ++ (formN f.gos.pre.length ++ f.gos.pre) ++ f.gos.sum) W14.heap.size f.gos.cnt W15 (Chg.hp ch14 hgw6 trivial) ⟨by omega, by omega⟩ ow13 (by omega) hb8 (by omega)).mono ?_
   rintro _ W16 ⟨AA7, nn7, cc7, rfl, hgw7, ow14, hle7, ch15⟩
   have zz15 := ch15.size
   have hq19 := ow14.nc
   have hq20 := ow14.cm
   have hq21 := ow14.byt.1
   refine ⟨_, rfl, ?_⟩
   refine rEnd 5 rfl (inN (nxt (wp_seq (reg ?_))))
   refine rP 0 137 (pt W1.heap.size 0) ?_
   refine rP 1 138 (pt W1.heap.size 0) ?_
   refine rP 2 139 (pt W1.heap.size 0) ?_
   refine rQ 3 140 _ rfl rfl (ld 22 139 W1.heap.size 0 (.slice AA7 nn7 cc7) ((cell_of_row _ _ 0 _ _ _ hgw7).trans rfl)) ?_
   refine rP 4 2 (.slice AA7 nn7 cc7) ?_
   refine rEnd 5 rfl (nxt (wp_ret ?_))
   have hH_ := ow14
   have hgk_ : f.gos.kind = 1 := UInt8.toNat_inj.1 (by have h_ : (1 : UInt8).toNat = 1 := rfl; omega)
   rw [List.nil_append, Mur.bodyB_2s hm hk_ hgk_] at hH_
   have hbd_ := body_le hm hI.ok
   have hbl_ := hH_.byt.1
   have kk17 := Chg.step kk16 ch13 (newOr_own (.inr (by omega)) (fun gz hgz => by have := lto1 gz hgz; omega))
   have kk18 := Chg.step kk17 ch14 trivial
   have kk19 := Chg.step kk18 ch15 ⟨.inr (by omega), trivial⟩
   refine rt (.slice AA7 nn7 cc7) ?_
   exact ⟨_, _, _, rfl, own8_low hH_ (by omega), by omega, kk19⟩
  refine rQ 2 58 _ rfl rfl (qboolF (b := (((f.gos.kind.toNat : Nat) : Int) == (1 : Int))) (beq_eq_false_iff_ne.2 (by first | exact hx3 | omega))) ?_
  refine rEnd 3 rfl (nxt (wp_cond_false (by kernel_rfl) (wp_seq (reg ?_))))
  refine rP 0 68 (pt W1.heap.size 0) ?_
  refine rP 1 69 (pt W4.heap.size 35) ?_
  refine rQ 2 70 _ rfl rfl (ld 30 69 W4.heap.size 35 (.slice z.i.A z.i.n z.i.c) (show World.cell? _ ⟨_, 0 + 35, _⟩ = _ from Mur.msg_items hI.ok.sum (range_row (Chg.hp ch12 (Chg.hp ch11 (Chg.hp ch10 hb6 trivial) ⟨by omega, trivial⟩) ⟨by omega, trivial⟩)))) ?_
  refine rP 3 71 (pt W1.heap.size 0) ?_
  refine rP 4 72 (.func (.func 56) #[pt W1.heap.size 0] #[]) ?_
  refine rC 5 73 55 [.tmp 68, .tmp 70, .tmp 72] #[95, 30, 105] [pt W1.heap.size 0, .slice z.i.A z.i.n z.i.c, .func (.func 56) #[pt W1.heap.size 0] #[]] ?_
  refine (WListA_any W1.heap.size W12.heap.size AA5 nn5 cc5 (([]) ++ formN (u64n ((f.kind.toNat : Nat) : Int)) ++ formN (u64n f.frm) ++ formN (u64n f.dst) ++ formN (u64n ((f.gos.kind.toNat : Nat) : Int)) ++ (formN f.gos.pre.length ++ f.gos.pre)) f.gos.items z.i.A z.i.n z.i.c W13 hgw5 ⟨by omega, by omega⟩ ow11 (by omega) (LiesF.chg hL kk16 hLin_).its.slR (fun x_ h_ => (hmk_.2.2.2.2.resolve_left (fun q_ => by have h2_ : f.gos.kind.toNat = 1 := congrArg UInt8.toNat q_.1; omega)).2.1 x_ h_ |>.1) (by omega) (fun g2 off e_ hn_ => by have h_ := slr_lt hL.its.slR (by decide) e_ hn_; omega)).mono ?_
  rintro _ W17 ⟨AA8, nn8, cc8, rfl, hgw8, ow15, hle8, ch16⟩
  have zz16 := ch16.size
  have hq22 := ow15.nc
  have hq23 := ow15.cm
  have hq24 := ow15.byt.1
  refine ⟨_, rfl, ?_⟩
  refine rEnd 6 rfl (nxt (reg ?_))
  refine rP 0 74 (pt W1.heap.size 0) ?_
  refine rP 1 75 (pt W4.heap.size 36) ?_
  refine rQ 2 76 _ rfl rfl (ld 4 75 W4.heap.size 36 (.bool f.gos.ans) (show World.cell? _ ⟨_, 0 + 36, _⟩ = _ from Mur.msg_ans hI.ok.sum (range_row (Chg.hp ch16 (Chg.hp ch12 (Chg.hp ch11 (Chg.hp ch10 hb6 trivial) ⟨by omega, trivial⟩) ⟨by omega, trivial⟩) ⟨by omega, trivial⟩)))) ?_
  refine rC 3 77 57 [.tmp 74, .tmp 76] #[95, 4] [pt W1.heap.size 0, .bool f.gos.ans] ?_
  refine (Wflag_any W1.heap.size W13.heap.size AA8 nn8 cc8 (([]) ++ formN (u64n ((f.kind.toNat : Nat) : Int)) ++ formN (u64n f.frm) ++ formN (u64n f.dst) ++ formN (u64n ((f.gos.kind.toNat : Nat) : Int)) ++ (formN f.gos.pre.length ++ f.gos.pre) ++ (formN f.gos.items.length ++ (f.gos.items.map Att.raw).flatten)) f.gos.ans W17 hgw8 ⟨by omega, by omega⟩ ow15 (by omega)).mono ?_
  rintro _ W18 ⟨AA9, nn9, cc9, rfl, hgw9, ow16, hle9, ch17⟩
  have zz17 := ch17.size
  have hq25 := ow16.nc
  have hq26 := ow16.cm
  have hq27 := ow16.byt.1
  refine ⟨_, rfl, ?_⟩
  refine rEnd 4 rfl (inN (nxt (wp_seq (reg ?_))))
  refine rP 0 137 (pt W1.heap.size 0) ?_
  refine rP 1 138 (pt W1.heap.size 0) ?_
  refine rP 2 139 (pt W1.heap.size 0) ?_
  refine rQ 3 140 _ rfl rfl (ld 22 139 W1.heap.size 0 (.slice AA9 nn9 cc9) ((cell_of_row _ _ 0 _ _ _ hgw9).trans rfl)) ?_
  refine rP 4 2 (.slice AA9 nn9 cc9) ?_
  refine rEnd 5 rfl (nxt (wp_ret ?_))
  have hH_ := ow16
  have hgk_ : ¬ f.gos.kind = 1 := fun e_ => by have h_ : f.gos.kind.toNat = 1 := congrArg UInt8.toNat e_; omega
  rw [List.nil_append, Mur.bodyB_2i hm hk_ hgk_] at hH_
  have hbd_ := body_le hm hI.ok
  have hbl_ := hH_.byt.1
  have kk20 := Chg.step kk16 ch16 ⟨.inr (by omega), trivial⟩
  have kk21 := Chg.step kk20 ch17 ⟨.inr (by omega), trivial⟩
  refine rt (.slice AA9 nn9 cc9) ?_
  exact ⟨_, _, _, rfl, own8_low hH_ (by omega), by omega, kk21⟩
 refine rQ 0 43 _ rfl rfl (qboolF (b := (((f.kind.toNat : Nat) : Int) == (2 : Int))) (beq_eq_false_iff_ne.2 (by first | exact hx2 | omega))) ?_
 refine rP 1 42 (.bool false) ?_
 refine rEnd 2 rfl (nxt (wp_cond_false (by kernel_rfl) (wp_seq (reg ?_))))
 by_cases hx4 : ((f.kind.toNat : Nat) : Int) = (3 : Int)
 ·refine rQ 0 79 _ rfl rfl (qboolT (b := (((f.kind.toNat : Nat) : Int) == (3 : Int))) (beq_iff_eq.2 (by first | exact hx4 | omega))) ?_
  refine rP 1 78 (.bool true) ?_
  refine rEnd 2 rfl (nxt (wp_cond_true (by kernel_rfl) (wp_seq (reg ?_))))
  have hk_ : f.kind = 3 := UInt8.toNat_inj.1 (by have h_ : (3 : UInt8).toNat = 3 := rfl; omega)
  have hmk_ := (Mur.mayFM_3 hH4_ hk_).1 hm
  refine rP 0 80 (pt W1.heap.size 0) ?_
  refine rP 1 81 (pt w.heap.size 45) ?_
  refine rP 2 82 (pt w.heap.size 45) ?_
  refine rQ 3 83 (.agg ((b8s f.cKey).toArray)) rfl rfl (loadR 29 (.tmp 82) rfl _ Tryd.underlying29 rfl w.heap.size 45 (by kernel_rfl) (b8s f.cKey) (by rw [b8s_length, hI.ok.key]; kernel_rfl) (show World.rangeAt _ _ (0 + 45) _ from segs_row (frmL_sz hI.ok.sum hI.ok.key f.att.hk f.att.hr f.att.ht hI.ok.root) (range_row (Chg.hp ch4 (Chg.hp ch3 (Chg.hp ch2 hb1 trivial) trivial) ⟨by omega, trivial⟩)) 14 rfl rfl)) ?_
  refine rC 4 84 54 [.tmp 80, .tmp 83] #[95, 29] [pt W1.heap.size 0, .agg ((b8s f.cKey).toArray)] ?_
  refine (Wdigest_any W1.heap.size W3.heap.size AA1 nn1 cc1 (([]) ++ formN (u64n ((f.kind.toNat : Nat) : Int)) ++ formN (u64n f.frm) ++ formN (u64n f.dst)) f.cKey W4 hgw1 ⟨by omega, by omega⟩ ow3 (by omega) hI.ok.key).mono ?_
  rintro _ W19 ⟨AA10, nn10, cc10, rfl, hgw10, ow17, hle10, ch18⟩
  have lto2 := ow3.lt
  have zz18 := ch18.size
  have hq28 := ow17.nc
  have hq29 := ow17.cm
  have hq30 := ow17.byt.1
  refine ⟨_, rfl, ?_⟩
  refine rEnd 5 rfl (nxt (wp_seq (reg ?_)))
  refine rP 0 85 (pt W1.heap.size 0) ?_
  refine rP 1 86 (pt w.heap.size 45) ?_
  refine rP 2 87 (pt w.heap.size 78) ?_
  refine rQ 3 88 _ rfl rfl (ld 24 87 w.heap.size 78 (.int .u64 ((f.cInc : Nat) : Int)) (show World.cell? _ ⟨_, 0 + 78, _⟩ = _ from segs_cell (frmL_sz hI.ok.sum hI.ok.key f.att.hk f.att.hr f.att.ht hI.ok.root) (range_row (Chg.hp ch18 (Chg.hp ch4 (Chg.hp ch3 (Chg.hp ch2 hb1 trivial) trivial) ⟨by omega, trivial⟩) ⟨by omega, (off_blk (fun gz hgz => by have := lto2 gz hgz; omega))⟩)) 16 rfl rfl)) ?_
  refine rP 4 89 (pt w.heap.size 45) ?_
  refine rP 5 90 (pt w.heap.size 79) ?_
  refine rQ 6 91 _ rfl rfl (ld 24 90 w.heap.size 79 (.int .u64 ((f.cCnt : Nat) : Int)) (show World.cell? _ ⟨_, 0 + 79, _⟩ = _ from segs_cell (frmL_sz hI.ok.sum hI.ok.key f.att.hk f.att.hr f.att.ht hI.ok.root) (range_row (Chg.hp ch18 (Chg.hp ch4 (Chg.hp ch3 (Chg.hp ch2 hb1 trivial) trivial) ⟨by omega, trivial⟩) ⟨by omega, (off_blk (fun gz hgz => by have := lto2 gz hgz; omega))⟩)) 17 rfl rfl)) ?_
  refine rX 7 92 rfl rfl (new_ex (.slice (some ⟨W19.heap.size, 0, none⟩) 2 2) #[.int .u64 ((f.cInc : Nat) : Int), .int .u64 ((f.cCnt : Nat) : Int)] 24 (by kernel_rfl)) ?_
  rintro _ W20 ⟨rfl, hb9, ch19, sz8⟩
  have zz19 := ch19.size
  refine rC 8 93 50 [.tmp 85, .tmp 92] #[95, 108] [pt W1.heap.size 0, .slice (some ⟨W19.heap.size, 0, none⟩) 2 2] ?_
  have ow18 := Mur.own8 (own_chg ow17.own ch19 (fun q e _ _ => trivial))
  refine (Wuint2_any W1.heap.size W3.heap.size AA10 nn10 cc10 (([]) ++ formN (u64n ((f.kind.toNat : Nat) : Int)) ++ formN (u64n f.frm) ++ formN (u64n f.dst) ++ f.cKey) W19.heap.size f.cInc f.cCnt W20 (Chg.hp ch19 hgw10 trivial) ⟨by omega, by omega⟩ ow18 (by omega) hb9 (by omega) hI.ok.inc hI.ok.cnt).mono ?_
  rintro _ W21 ⟨AA11, nn11, cc11, rfl, hgw11, ow19, hle11, ch20⟩
  have zz20 := ch20.size
  have hq31 := ow19.nc
  have hq32 := ow19.cm
  have hq33 := ow19.byt.1
  refine ⟨_, rfl, ?_⟩
  refine rEnd 9 rfl (nxt (reg ?_))
  refine rP 0 94 (pt W1.heap.size 0) ?_
  refine rP 1 95 (pt w.heap.size 45) ?_
  refine rP 2 96 (pt w.heap.size 80) ?_
  refine rQ 3 97 _ rfl rfl (ld 4 96 w.heap.size 80 (.bool f.cGone) (show World.cell? _ ⟨_, 0 + 80, _⟩ = _ from segs_cell (frmL_sz hI.ok.sum hI.ok.key f.att.hk f.att.hr f.att.ht hI.ok.root) (range_row (Chg.hp ch20 (Chg.hp ch19 (Chg.hp ch18 (Chg.hp ch4 (Chg.hp ch3 (Chg.hp ch2 hb1 trivial) trivial) ⟨by omega, trivial⟩) ⟨by omega, (off_blk (fun gz hgz => by have := lto2 gz hgz; omega))⟩) trivial) ⟨by omega, trivial⟩)) 18 rfl rfl)) ?_
  refine rC 4 98 57 [.tmp 94, .tmp 97] #[95, 4] [pt W1.heap.size 0, .bool f.cGone] ?_
  refine (Wflag_any W1.heap.size W20.heap.size AA11 nn11 cc11 (([]) ++ formN (u64n ((f.kind.toNat : Nat) : Int)) ++ formN (u64n f.frm) ++ formN (u64n f.dst) ++ f.cKey ++ formN f.cInc ++ formN f.cCnt) f.cGone W21 hgw11 ⟨by omega, by omega⟩ ow19 (by omega)).mono ?_
  rintro _ W22 ⟨AA12, nn12, cc12, rfl, hgw12, ow20, hle12, ch21⟩
  have zz21 := ch21.size
  have hq34 := ow20.nc
  have hq35 := ow20.cm
  have hq36 := ow20.byt.1
  refine ⟨_, rfl, ?_⟩
  refine rEnd 5 rfl (inN (nxt (wp_seq (reg ?_))))
  refine rP 0 137 (pt W1.heap.size 0) ?_
  refine rP 1 138 (pt W1.heap.size 0) ?_
  refine rP 2 139 (pt W1.heap.size 0) ?_
  refine rQ 3 140 _ rfl rfl (ld 22 139 W1.heap.size 0 (.slice AA12 nn12 cc12) ((cell_of_row _ _ 0 _ _ _ hgw12).trans rfl)) ?_
  refine rP 4 2 (.slice AA12 nn12 cc12) ?_
  refine rEnd 5 rfl (nxt (wp_ret ?_))
  have hH_ := ow20
  rw [List.nil_append, Mur.bodyB_3 hm hk_] at hH_
  have hbd_ := body_le hm hI.ok
  have hbl_ := hH_.byt.1
  have kk22 : Chg [] w W1 := Chg.step ((Chg.refl _).more (by simp)) ch1 trivial
  have kk23 := Chg.step kk22 ch2 trivial
  have kk24 := Chg.step kk23 ch3 trivial
  have kk25 := Chg.step kk24 ch4 ⟨.inr (by omega), trivial⟩
  have kk26 := Chg.step kk25 ch18 (newOr_own (.inr (by omega)) (fun gz hgz => by have := lto2 gz hgz; omega))
  have kk27 := Chg.step kk26 ch19 trivial
  have kk28 := Chg.step kk27 ch20 ⟨.inr (by omega), trivial⟩
  have kk29 := Chg.step kk28 ch21 ⟨.inr (by omega), trivial⟩
  refine rt (.slice AA12 nn12 cc12) ?_
  exact ⟨_, _, _, rfl, own8_low hH_ (by omega), by omega, kk29⟩
 refine rQ 0 79 _ rfl rfl (qboolF (b := (((f.kind.toNat : Nat) : Int) == (3 : Int))) (beq_eq_false_iff_ne.2 (by first | exact hx4 | omega))) ?_
 refine rP 1 78 (.bool false) ?_
 refine rEnd 2 rfl (nxt (wp_cond_false (by kernel_rfl) (wp_seq (reg ?_))))
 by_cases hx5 : ((f.kind.toNat : Nat) : Int) = (4 : Int)
 ·refine rQ 0 100 _ rfl rfl (qboolT (b := (((f.kind.toNat : Nat) : Int) == (4 : Int))) (beq_iff_eq.2 (by first | exact hx5 | omega))) ?_
  refine rP 1 99 (.bool true) ?_
  refine rEnd 2 rfl (nxt (wp_cond_true (by kernel_rfl) (reg ?_)))
  have hk_ : f.kind = 4 := UInt8.toNat_inj.1 (by have h_ : (4 : UInt8).toNat = 4 := rfl; omega)
  have hmk_ := (Mur.mayFM_4 hH4_ hk_).1 hm
  refine rP 0 101 (pt W1.heap.size 0) ?_
  refine rP 1 102 (pt w.heap.size 81) ?_
  refine rQ 2 103 (.agg ((Mur.attC f.att.k f.att.r f.att.n f.att.t).toArray)) rfl rfl (loadR 36 (.tmp 102) rfl _ Tryd.underlying36 rfl w.heap.size 81 (by kernel_rfl) (Mur.attC f.att.k f.att.r f.att.n f.att.t) (by rw [Mur.attC_length f.att.hk f.att.hr f.att.ht]; kernel_rfl) (show World.rangeAt _ _ (0 + 81) _ from segs_rng (frmL_sz hI.ok.sum hI.ok.key f.att.hk f.att.hr f.att.ht hI.ok.root) (range_row (Chg.hp ch4 (Chg.hp ch3 (Chg.hp ch2 hb1 trivial) trivial) ⟨by omega, trivial⟩)) 19 4 Mur.frmL_att rfl)) ?_
  refine rC 3 104 56 [.tmp 101, .tmp 103] #[95, 36] [pt W1.heap.size 0, .agg ((Mur.attC f.att.k f.att.r f.att.n f.att.t).toArray)] ?_
  refine (Wattest_any W1.heap.size W3.heap.size AA1 nn1 cc1 (([]) ++ formN (u64n ((f.kind.toNat : Nat) : Int)) ++ formN (u64n f.frm) ++ formN (u64n f.dst)) f.att W4 hgw1 ⟨by omega, by omega⟩ ow3 (by omega) hmk_).mono ?_
  rintro _ W23 ⟨AA13, nn13, cc13, rfl, hgw13, ow21, hle13, ch22⟩
  have lto3 := ow3.lt
  have zz22 := ch22.size
  have hq37 := ow21.nc
  have hq38 := ow21.cm
  have hq39 := ow21.byt.1
  refine ⟨_, rfl, ?_⟩
  refine rEnd 4 rfl (inN (nxt (wp_seq (reg ?_))))
  refine rP 0 137 (pt W1.heap.size 0) ?_
  refine rP 1 138 (pt W1.heap.size 0) ?_
  refine rP 2 139 (pt W1.heap.size 0) ?_
  refine rQ 3 140 _ rfl rfl (ld 22 139 W1.heap.size 0 (.slice AA13 nn13 cc13) ((cell_of_row _ _ 0 _ _ _ hgw13).trans rfl)) ?_
  refine rP 4 2 (.slice AA13 nn13 cc13) ?_
  refine rEnd 5 rfl (nxt (wp_ret ?_))
  have hH_ := ow21
  rw [List.nil_append, Mur.bodyB_4 hm hk_] at hH_
  have hbd_ := body_le hm hI.ok
  have hbl_ := hH_.byt.1
  have kk30 : Chg [] w W1 := Chg.step ((Chg.refl _).more (by simp)) ch1 trivial
  have kk31 := Chg.step kk30 ch2 trivial
  have kk32 := Chg.step kk31 ch3 trivial
  have kk33 := Chg.step kk32 ch4 ⟨.inr (by omega), trivial⟩
  have kk34 := Chg.step kk33 ch22 (newOr_own (.inr (by omega)) (fun gz hgz => by have := lto3 gz hgz; omega))
  refine rt (.slice AA13 nn13 cc13) ?_
  exact ⟨_, _, _, rfl, own8_low hH_ (by omega), by omega, kk34⟩
 refine rQ 0 100 _ rfl rfl (qboolF (b := (((f.kind.toNat : Nat) : Int) == (4 : Int))) (beq_eq_false_iff_ne.2 (by first | exact hx5 | omega))) ?_
 refine rP 1 99 (.bool false) ?_
 refine rEnd 2 rfl (nxt (wp_cond_false (by kernel_rfl) (wp_seq (reg ?_))))
 by_cases hx6 : ((f.kind.toNat : Nat) : Int) = (5 : Int)
 ·refine rQ 0 106 _ rfl rfl (qboolT (b := (((f.kind.toNat : Nat) : Int) == (5 : Int))) (beq_iff_eq.2 (by first | exact hx6 | omega))) ?_
  refine rP 1 105 (.bool true) ?_
  refine rEnd 2 rfl (nxt (wp_cond_true (by kernel_rfl) (wp_seq (reg ?_))))
  have hk_ : f.kind = 5 := UInt8.toNat_inj.1 (by have h_ : (5 : UInt8).toNat = 5 := rfl; omega)
  have hmk_ := (Mur.mayFM_5 hH4_ hk_).1 hm
  refine rP 0 107 (pt W1.heap.size 0) ?_
  refine rP 1 108 (pt w.heap.size 178) ?_
  refine rQ 2 109 (.agg ((b8s f.root).toArray)) rfl rfl (loadR 29 (.tmp 108) rfl _ Tryd.underlying29 rfl w.heap.size 178 (by kernel_rfl) (b8s f.root) (by rw [b8s_length, hI.ok.root]; kernel_rfl) (show World.rangeAt _ _ (0 + 178) _ from segs_row (frmL_sz hI.ok.sum hI.ok.key f.att.hk f.att.hr f.att.ht hI.ok.root) (range_row (Chg.hp ch4 (Chg.hp ch3 (Chg.hp ch2 hb1 trivial) trivial) ⟨by omega, trivial⟩)) 23 rfl rfl)) ?_
  refine rC 3 110 54 [.tmp 107, .tmp 109] #[95, 29] [pt W1.heap.size 0, .agg ((b8s f.root).toArray)] ?_
  refine (Wdigest_any W1.heap.size W3.heap.size AA1 nn1 cc1 (([]) ++ formN (u64n ((f.kind.toNat : Nat) : Int)) ++ formN (u64n f.frm) ++ formN (u64n f.dst)) f.root W4 hgw1 ⟨by omega, by omega⟩ ow3 (by omega) hI.ok.root).mono ?_
  rintro _ W24 ⟨AA14, nn14, cc14, rfl, hgw14, ow22, hle14, ch23⟩
  have lto4 := ow3.lt
  have zz23 := ch23.size
  have hq40 := ow22.nc
  have hq41 := ow22.cm
  have hq42 := ow22.byt.1
  refine ⟨_, rfl, ?_⟩
  refine rEnd 4 rfl (nxt (reg ?_))
  refine rP 0 111 (pt W1.heap.size 0) ?_
  refine rP 1 112 (pt w.heap.size 210) ?_
  refine rQ 2 113 _ rfl rfl (ld 3 112 w.heap.size 210 (.int .i64 f.chunk) (show World.cell? _ ⟨_, 0 + 210, _⟩ = _ from segs_cell (frmL_sz hI.ok.sum hI.ok.key f.att.hk f.att.hr f.att.ht hI.ok.root) (range_row (Chg.hp ch23 (Chg.hp ch4 (Chg.hp ch3 (Chg.hp ch2 hb1 trivial) trivial) ⟨by omega, trivial⟩) ⟨by omega, (off_blk (fun gz hgz => by have := lto4 gz hgz; omega))⟩)) 24 rfl rfl)) ?_
  refine rX 3 114 rfl rfl (new_ex (.slice (some ⟨W24.heap.size, 0, none⟩) 1 1) #[.int .i64 f.chunk] 3 (by kernel_rfl)) ?_
  rintro _ W25 ⟨rfl, hb10, ch24, sz9⟩
  have zz24 := ch24.size
  refine rC 4 115 49 [.tmp 111, .tmp 114] #[95, 110] [pt W1.heap.size 0, .slice (some ⟨W24.heap.size, 0, none⟩) 1 1] ?_
  have ow23 := Mur.own8 (own_chg ow22.own ch24 (fun q e _ _ => trivial))
  refine (Wint1_any W1.heap.size W3.heap.size AA14 nn14 cc14 (([]) ++ formN (u64n ((f.kind.toNat : Nat) : Int)) ++ formN (u64n f.frm) ++ formN (u64n f.dst) ++ f.root) W24.heap.size f.chunk W25 (Chg.hp ch24 hgw14 trivial) ⟨by omega, by omega⟩ ow23 (by omega) hb10 (by omega)).mono ?_
  rintro _ W26 ⟨AA15, nn15, cc15, rfl, hgw15, ow24, hle15, ch25⟩
  have zz25 := ch25.size
  have hq43 := ow24.nc
  have hq44 := ow24.cm
  have hq45 := ow24.byt.1
  refine ⟨_, rfl, ?_⟩
  refine rEnd 5 rfl (inN (nxt (wp_seq (reg ?_))))
  refine rP 0 137 (pt W1.heap.size 0) ?_
  refine rP 1 138 (pt W1.heap.size 0) ?_
  refine rP 2 139 (pt W1.heap.size 0) ?_
  refine rQ 3 140 _ rfl rfl (ld 22 139 W1.heap.size 0 (.slice AA15 nn15 cc15) ((cell_of_row _ _ 0 _ _ _ hgw15).trans rfl)) ?_
  refine rP 4 2 (.slice AA15 nn15 cc15) ?_
  refine rEnd 5 rfl (nxt (wp_ret ?_))
  have hH_ := ow24
  rw [List.nil_append, Mur.bodyB_5 hm hk_] at hH_
  have hbd_ := body_le hm hI.ok
  have hbl_ := hH_.byt.1
  have kk35 : Chg [] w W1 := Chg.step ((Chg.refl _).more (by simp)) ch1 trivial
  have kk36 := Chg.step kk35 ch2 trivial
  have kk37 := Chg.step kk36 ch3 trivial
  have kk38 := Chg.step kk37 ch4 ⟨.inr (by omega), trivial⟩
  have kk39 := Chg.step kk38 ch23 (newOr_own (.inr (by omega)) (fun gz hgz => by have := lto4 gz hgz; omega))
  have kk40 := Chg.step kk39 ch24 trivial
  have kk41 := Chg.step kk40 ch25 ⟨.inr (by omega), trivial⟩
  refine rt (.slice AA15 nn15 cc15) ?_
  exact ⟨_, _, _, rfl, own8_low hH_ (by omega), by omega, kk41⟩
 refine rQ 0 106 _ rfl rfl (qboolF (b := (((f.kind.toNat : Nat) : Int) == (5 : Int))) (beq_eq_false_iff_ne.2 (by first | exact hx6 | omega))) ?_
 refine rP 1 105 (.bool false) ?_
 refine rEnd 2 rfl (nxt (wp_cond_false (by kernel_rfl) (wp_seq (reg ?_))))
 by_cases hx7 : ((f.kind.toNat : Nat) : Int) = (6 : Int)
 ·refine rQ 0 117 _ rfl rfl (qboolT (b := (((f.kind.toNat : Nat) : Int) == (6 : Int))) (beq_iff_eq.2 (by first | exact hx7 | omega))) ?_
  refine rP 1 116 (.bool true) ?_
  refine rEnd 2 rfl (nxt (wp_cond_true (by kernel_rfl) (wp_seq (reg ?_))))
  have hk_ : f.kind = 6 := UInt8.toNat_inj.1 (by have h_ : (6 : UInt8).toNat = 6 := rfl; omega)
  have hmk_ := (Mur.mayFM_6 hH4_ hk_).1 hm
  have hy6_ := hmk_.2.1
  have hf6_ := hmk_.2.2
  refine rP 0 118 (pt W1.heap.size 0) ?_
  refine rP 1 119 (pt w.heap.size 178) ?_
  refine rQ 2 120 (.agg ((b8s f.root).toArray)) rfl rfl (loadR 29 (.tmp 119) rfl _ Tryd.underlying29 rfl w.heap.size 178 (by kernel_rfl) (b8s f.root) (by rw [b8s_length, hI.ok.root]; kernel_rfl) (show World.rangeAt _ _ (0 + 178) _ from segs_row (frmL_sz hI.ok.sum hI.ok.key f.att.hk f.att.hr f.att.ht hI.ok.root) (range_row (Chg.hp ch4 (Chg.hp ch3 (Chg.hp ch2 hb1 trivial) trivial) ⟨by omega, trivial⟩)) 23 rfl rfl)) ?_
  refine rC 3 121 54 [.tmp 118, .tmp 120] #[95, 29] [pt W1.heap.size 0, .agg ((b8s f.root).toArray)] ?_
  refine (Wdigest_any W1.heap.size W3.heap.size AA1 nn1 cc1 (([]) ++ formN (u64n ((f.kind.toNat : Nat) : Int)) ++ formN (u64n f.frm) ++ formN (u64n f.dst)) f.root W4 hgw1 ⟨by omega, by omega⟩ ow3 (by omega) hI.ok.root).mono ?_
  rintro _ W27 ⟨AA16, nn16, cc16, rfl, hgw16, ow25, hle16, ch26⟩
  have lto5 := ow3.lt
  have zz26 := ch26.size
  have hq46 := ow25.nc
  have hq47 := ow25.cm
  have hq48 := ow25.byt.1
  refine ⟨_, rfl, ?_⟩
  refine rEnd 4 rfl (nxt (wp_seq (reg ?_)))
  refine rP 0 122 (pt W1.heap.size 0) ?_
  refine rP 1 123 (pt w.heap.size 210) ?_
  refine rQ 2 124 _ rfl rfl (ld 3 123 w.heap.size 210 (.int .i64 f.chunk) (show World.cell? _ ⟨_, 0 + 210, _⟩ = _ from segs_cell (frmL_sz hI.ok.sum hI.ok.key f.att.hk f.att.hr f.att.ht hI.ok.root) (range_row (Chg.hp ch26 (Chg.hp ch4 (Chg.hp ch3 (Chg.hp ch2 hb1 trivial) trivial) ⟨by omega, trivial⟩) ⟨by omega, (off_blk (fun gz hgz => by have := lto5 gz hgz; omega))⟩)) 24 rfl rfl)) ?_
  refine rX 3 125 rfl rfl (new_ex (.slice (some ⟨W27.heap.size, 0, none⟩) 1 1) #[.int .i64 f.chunk] 3 (by kernel_rfl)) ?_
  rintro _ W28 ⟨rfl, hb11, ch27, sz10⟩
  have zz27 := ch27.size
  refine rC 4 126 49 [.tmp 122, .tmp 125] #[95, 110] [pt W1.heap.size 0, .slice (some ⟨W27.heap.size, 0, none⟩) 1 1] ?_
  have ow26 := Mur.own8 (own_chg ow25.own ch27 (fun q e _ _ => trivial))
  refine (Wint1_any W1.heap.size W3.heap.size AA16 nn16 cc16 (([]) ++ formN (u64n ((f.kind.toNat : Nat) : Int)) ++ formN (u64n f.frm) ++ formN (u64n f.dst) ++ f.root) W27.heap.size f.chunk W28 (Chg.hp ch27 hgw16 trivial) ⟨by omega, by omega⟩ ow26 (by omega) hb11 (by omega)).mono ?_
  rintro _ W29 ⟨AA17, nn17, cc17, rfl, hgw17, ow27, hle17, ch28⟩
  have zz28 := ch28.size
  have hq49 := ow27.nc
  have hq50 := ow27.cm
  have hq51 := ow27.byt.1
  refine ⟨_, rfl, ?_⟩
  refine rEnd 5 rfl (nxt (wp_seq (reg ?_)))
  refine rP 0 127 (pt W1.heap.size 0) ?_
  refine rP 1 128 (pt w.heap.size 211) ?_
  refine rQ 2 129 _ rfl rfl (ld 22 128 w.heap.size 211 (.slice z.y.A z.y.n z.y.c) (show World.cell? _ ⟨_, 0 + 211, _⟩ = _ from segs_cell (frmL_sz hI.ok.sum hI.ok.key f.att.hk f.att.hr f.att.ht hI.ok.root) (range_row (Chg.hp ch28 (Chg.hp ch27 (Chg.hp ch26 (Chg.hp ch4 (Chg.hp ch3 (Chg.hp ch2 hb1 trivial) trivial) ⟨by omega, trivial⟩) ⟨by omega, (off_blk (fun gz hgz => by have := lto5 gz hgz; omega))⟩) trivial) ⟨by omega, trivial⟩)) 25 rfl rfl)) ?_
  refine rC 3 130 53 [.tmp 127, .tmp 129] #[95, 22] [pt W1.heap.size 0, .slice z.y.A z.y.n z.y.c] ?_
  have kk42 : Chg [] w W1 := Chg.step ((Chg.refl _).more (by simp)) ch1 trivial
  have kk43 := Chg.step kk42 ch2 trivial
  have kk44 := Chg.step kk43 ch3 trivial
  have kk45 := Chg.step kk44 ch4 ⟨.inr (by omega), trivial⟩
  have kk46 := Chg.step kk45 ch26 (newOr_own (.inr (by omega)) (fun gz hgz => by have := lto5 gz hgz; omega))
  have kk47 := Chg.step kk46 ch27 trivial
  have kk48 := Chg.step kk47 ch28 ⟨.inr (by omega), trivial⟩
  refine (Wbytes_any W1.heap.size W28.heap.size AA17 nn17 cc17 (([]) ++ formN (u64n ((f.kind.toNat : Nat) : Int)) ++ formN (u64n f.frm) ++ formN (u64n f.dst) ++ f.root ++ formN (u64n f.chunk)) f.byt z.y.A z.y.n z.y.c W29 hgw17 ⟨by omega, by omega⟩ ow27 (by omega) (byt_chg hL.byt kk48 (fun g off e hl => trivial)) ⟨by omega, by omega⟩ hL.ny.nil (by omega) (fun g2 off e_ hn_ => by have h_ := byt_blt hL.byt e_ hn_; omega)).mono ?_
  rintro _ W30 ⟨AA18, nn18, cc18, rfl, hgw18, ow28, hle18, ch29⟩
  have zz29 := ch29.size
  have kk49 := Chg.step kk48 ch29 ⟨.inr (by omega), trivial⟩
  have hq52 := ow28.nc
  have hq53 := ow28.cm
  have hq54 := ow28.byt.1
  refine ⟨_, rfl, ?_⟩
  refine rEnd 4 rfl (nxt (reg ?_))
  refine rP 0 131 (pt W1.heap.size 0) ?_
  refine rP 1 132 (pt w.heap.size 212) ?_
  refine rQ 2 133 _ rfl rfl (ld 37 132 w.heap.size 212 (.slice z.f.A z.f.n z.f.c) (show World.cell? _ ⟨_, 0 + 212, _⟩ = _ from segs_cell (frmL_sz hI.ok.sum hI.ok.key f.att.hk f.att.hr f.att.ht hI.ok.root) (range_row (Chg.hp ch29 (Chg.hp ch28 (Chg.hp ch27 (Chg.hp ch26 (Chg.hp ch4 (Chg.hp ch3 (Chg.hp ch2 hb1 trivial) trivial) ⟨by omega, trivial⟩) ⟨by omega, (off_blk (fun gz hgz => by have := lto5 gz hgz; omega))⟩) trivial) ⟨by omega, trivial⟩) ⟨by omega, trivial⟩)) 26 rfl rfl)) ?_
  refine rP 3 134 (pt W1.heap.size 0) ?_
  refine rP 4 135 (.func (.func 54) #[pt W1.heap.size 0] #[]) ?_
  refine rC 5 136 58 [.tmp 131, .tmp 133, .tmp 135] #[95, 37, 103] [pt W1.heap.size 0, .slice z.f.A z.f.n z.f.c, .func (.func 54) #[pt W1.heap.size 0] #[]] ?_
  refine (WListD_any W1.heap.size W29.heap.size AA18 nn18 cc18 (([]) ++ formN (u64n ((f.kind.toNat : Nat) : Int)) ++ formN (u64n f.frm) ++ formN (u64n f.dst) ++ f.root ++ formN (u64n f.chunk) ++ (formN f.byt.length ++ f.byt)) f.prf z.f.A z.f.n z.f.c W30 hgw18 ⟨by omega, by omega⟩ ow28 (by omega) (LiesF.chg hL kk49 hLin_).prf hI.ok.prf (by omega) (fun g2 off e_ hn_ => by have h_ := slr_lt hL.prf (by decide) e_ hn_; omega)).mono ?_
  rintro _ W31 ⟨AA19, nn19, cc19, rfl, hgw19, ow29, hle19, ch30⟩
  have zz30 := ch30.size
  have hq55 := ow29.nc
  have hq56 := ow29.cm
  have hq57 := ow29.byt.1
  refine ⟨_, rfl, ?_⟩
  refine rEnd 6 rfl (inN (nxt (wp_seq (reg ?_))))
  refine rP 0 137 (pt W1.heap.size 0) ?_
  refine rP 1 138 (pt W1.heap.size 0) ?_
  refine rP 2 139 (pt W1.heap.size 0) ?_
  refine rQ 3 140 _ rfl rfl (ld 22 139 W1.heap.size 0 (.slice AA19 nn19 cc19) ((cell_of_row _ _ 0 _ _ _ hgw19).trans rfl)) ?_
  refine rP 4 2 (.slice AA19 nn19 cc19) ?_
  refine rEnd 5 rfl (nxt (wp_ret ?_))
  have hH_ := ow29
  rw [List.nil_append, Mur.bodyB_6 hm hk_] at hH_
  have hbd_ := body_le hm hI.ok
  have hbl_ := hH_.byt.1
  have kk50 := Chg.step kk49 ch30 ⟨.inr (by omega), trivial⟩
  refine rt (.slice AA19 nn19 cc19) ?_
  exact ⟨_, _, _, rfl, own8_low hH_ (by omega), by omega, kk50⟩
 refine rQ 0 117 _ rfl rfl (qboolF (b := (((f.kind.toNat : Nat) : Int) == (6 : Int))) (beq_eq_false_iff_ne.2 (by first | exact hx7 | omega))) ?_
 refine rP 1 116 (.bool false) ?_
 refine rEnd 2 rfl (nxt (wp_cond_false (by kernel_rfl) (wp_skip (inN (nxt (wp_seq (reg ?_)))))))
 refine rP 0 137 (pt W1.heap.size 0) ?_
 refine rP 1 138 (pt W1.heap.size 0) ?_
 refine rP 2 139 (pt W1.heap.size 0) ?_
 refine rQ 3 140 _ rfl rfl (ld 22 139 W1.heap.size 0 (.slice AA1 nn1 cc1) ((cell_of_row _ _ 0 _ _ _ hgw1).trans rfl)) ?_
 refine rP 4 2 (.slice AA1 nn1 cc1) ?_
 refine rEnd 5 rfl (nxt (wp_ret ?_))
 exfalso; omega
theorem BytesF_any (s : List UInt8) (A : Option Addr) (n c : Nat) (T : List UInt8 → List UInt8) (f : Frm) (z : Zs) (w : World) (hv : ShaVars w) (hb : Byt w A n s) (hnc : n ≤ c ∧ c ≤ 9223372036854775807) (ha : A = none → c = 0) (hn : n ≤ 1000000) (hT : ∀ x, T x = Mur.hmac s (18 :: x)) (hTl : ∀ x, (T x).length = 32) (hL : LiesF w z f) (hI : FrmIn f) : Calls Tryd.prog 8 #[.slice A n c, .agg (frmP f z).flatten.toArray] w fun e w' => ∃ A1 n1 c1 er, e = .returned (.tuple #[.slice A1 n1 c1, .int .i64 ((er : Nat) : Int)]) ∧ ((mayFM f ∧ er = 0 ∧ Own8 w' w.heap.size 5 A1 n1 c1 (bytesFM T f)) ∨ (¬ mayFM f ∧ er = 2 ∧ A1 = none ∧ n1 = 0 ∧ c1 = 0)) ∧ Chg [] w w' := by
 have HV := Go.Lib.hid hv
 clear hv
 have HBY := Go.Lib.hid hb
 clear hb
 have HA := Go.Lib.hid ha
 clear ha
 have hLin_ : z.In fun g => g < w.heap.size → Wk.Off g [] := ⟨fun _ _ _ _ => trivial, fun _ _ _ _ => trivial, fun _ _ _ _ => trivial, fun _ _ _ _ => trivial, fun _ _ _ _ => trivial⟩
 have hLunc_ := hL.nu.nc
 have hLucm_ := hL.nu.cm
 have hLpnc_ := hL.np.nc
 have hLpcm_ := hL.np.cm
 have hLinc_ := hL.ni.nc
 have hLicm_ := hL.ni.cm
 have hLync_ := hL.ny.nc
 have hLycm_ := hL.ny.cm
 have hLfnc_ := hL.nf.nc
 have hLfcm_ := hL.nf.cm
 have hml_ : Go.maxLen = 9223372036854775807 := rfl
 refine calls_of_wp Tryd.func8 rfl ?_
 refine wp_seq (reg ?_)
 refine rX 0 3 rfl rfl (new_ex (pt w.heap.size 0) ((frmP f z).flatten.toArray) 39 (by kernel_rfl)) ?_
 rintro _ W1 ⟨rfl, hb1, ch1, sz1⟩
 have zz1 := ch1.size
 refine rP 1 4 (.slice none 0 0) ?_
 refine rP 2 5 (.int .i64 0) ?_
 refine rEnd 3 rfl (nxt (wp_seq (wp_seq (reg ?_))))
 refine rQ 0 8 (.agg ((frmP f z).flatten.toArray)) rfl rfl (Mur.loadArr 39 (.tmp 3) rfl _ Tryd.underlying39 rfl w.heap.size (by kernel_rfl) (frmP f z).flatten.toArray 213 (frmL_size (frmL_sz hI.ok.sum hI.ok.key f.att.hk f.att.hr f.att.ht hI.ok.root)) (by kernel_rfl) 39 (0, 0) hb1) ?_
 refine rC 1 9 21 [.tmp 8] #[39] [.agg ((frmP f z).flatten.toArray)] ?_
 have kk1 : Chg [] w W1 := Chg.step ((Chg.refl _).more (by simp)) ch1 trivial
 refine (MayF_any f z W1 (LiesF.chg hL kk1 hLin_) hI).mono ?_
 rintro _ W2 ⟨bv1, rfl, hif1, ch2⟩
 have zz2 := ch2.size
 cases bv1
 ·refine ⟨_, rfl, ?_⟩
  refine rP 2 10 (.bool true) ?_
  refine rEnd 3 rfl (nxt (wp_cond_true (by kernel_rfl) (wp_seq (reg ?_))))
  refine rP 0 4 (.slice none 0 0) ?_
  refine rP 1 5 (.int .i64 2) ?_
  refine rEnd 2 rfl (nxt (wp_ret (thR ?_)))
  have kk2 := Chg.step kk1 ch2 trivial
  refine rt (.tuple #[.slice none 0 0, .int .i64 2]) ?_
  exact ⟨_, _, _, 2, rfl, .inr ⟨(fun q_ => Bool.noConfusion (hif1.2 q_)), rfl, rfl, rfl, rfl⟩, kk2⟩
 refine ⟨_, rfl, ?_⟩
 refine rP 2 10 (.bool false) ?_
 refine rEnd 3 rfl (nxt (wp_cond_false (by kernel_rfl) (wp_skip (nxt (wp_seq (reg ?_))))))
 refine rQ 0 11 (.agg ((frmP f z).flatten.toArray)) rfl rfl (Mur.loadArr 39 (.tmp 3) rfl _ Tryd.underlying39 rfl w.heap.size (by kernel_rfl) (frmP f z).flatten.toArray 213 (frmL_size (frmL_sz hI.ok.sum hI.ok.key f.att.hk f.att.hr f.att.ht hI.ok.root)) (by kernel_rfl) 39 (0, 0) (Chg.hp ch2 hb1 trivial)) ?_
 refine rC 1 12 23 [.tmp 11] #[39] [.agg ((frmP f z).flatten.toArray)] ?_
 have kk3 := Chg.step kk1 ch2 trivial
 refine (Body_any f z W2 (LiesF.chg hL kk3 hLin_) hI (hif1.1 rfl)).mono ?_
 rintro _ W3 ⟨AA1, nn1, cc1, rfl, ow1, hle1, ch3⟩
 have zz3 := ch3.size
 have hq1 := ow1.nc
 have hq2 := ow1.cm
 have hq3 := ow1.byt.1
 refine ⟨_, rfl, ?_⟩
 refine rP 2 6 (.slice AA1 nn1 cc1) ?_
 refine rEnd 3 rfl (nxt (wp_seq (wp_seq (reg ?_))))
 refine rP 0 13 (pt w.heap.size 0) ?_
 refine rQ 1 14 _ rfl rfl (ld 5 13 w.heap.size 0 (.int .u8 ((f.kind.toNat : Nat) : Int)) (show World.cell? _ ⟨_, 0 + 0, _⟩ = _ from segs_cell (frmL_sz hI.ok.sum hI.ok.key f.att.hk f.att.hr f.att.ht hI.ok.root) (range_row (Chg.hp ch3 (Chg.hp ch2 hb1 trivial) trivial)) 0 rfl rfl)) ?_
 refine rC 2 15 19 [.tmp 14] #[5] [.int .u8 ((f.kind.toNat : Nat) : Int)] ?_
 refine (Tagged_any f.kind W3).mono ?_
 by_cases hpr1 : f.kind.toNat ≤ 4
 ·rw [decide_eq_true hpr1]
  rintro _ W4 ⟨rfl, ch4⟩
  have zz4 := ch4.size
  refine ⟨_, rfl, ?_⟩
  refine rEnd 3 rfl (nxt (wp_cond_true (by kernel_rfl) (wp_seq (reg ?_))))
  refine rP 0 16 (.slice A n c) ?_
  refine rP 1 17 (.slice AA1 nn1 cc1) ?_
  refine rC 2 18 22 [.tmp 16, .tmp 17] #[22, 22] [.slice A n c, .slice AA1 nn1 cc1] ?_
  have kk4 := Chg.step kk3 ch3 trivial
  have kk5 := Chg.step kk4 ch4 trivial
  have ow2 := Mur.own8 (own_chg ow1.own ch4 (fun q e _ _ => trivial))
  refine (TagF_any s A n c T (bodyFM f) AA1 nn1 cc1 W4 (HV.out.below (Chg.below0 kk5)) (byt_chg HBY.out kk5 (fun g off e hl => trivial)) ⟨by omega, by omega⟩ HA.out (by omega) hT hTl ow2.byt ⟨by omega, by omega⟩ ow2.nil (by omega)).mono ?_
  rintro _ W5 ⟨rfl, ch5⟩
  have zz5 := ch5.size
  refine ⟨_, rfl, ?_⟩
  refine rX 3 7 rfl rfl (new_ex (pt W5.heap.size 0) Z32 29 (by kernel_rfl)) ?_
  rintro _ W6 ⟨rfl, hb2, ch6, sz2⟩
  have zz6 := ch6.size
  refine rY 4 rfl rfl (Mur.storeAll 29 (.tmp 7) (.tmp 18) rfl W5.heap.size (by kernel_rfl) (T (bodyFM f)) 32 (hTl (bodyFM f)) (by kernel_rfl) (by kernel_rfl) 29 Z32 hb2 rfl) ?_
  rintro W7 ⟨hb3, ch7⟩
  have zz7 := ch7.size
  refine rEnd 5 rfl (nxt (reg ?_))
  refine rP 0 19 (.slice AA1 nn1 cc1) ?_
  refine rQ 1 20 (.slice (some ⟨W5.heap.size, 0, none⟩) 32 32) rfl rfl (Mur.arr_slice 29 5 (.tmp 7) 32 rfl Tryd.underlying29 (by kernel_rfl) W5.heap.size (by kernel_rfl)) ?_
  have ow3 := Mur.own8 (own_chg ow2.own ch5 (fun q e _ _ => trivial))
  have ow4 := Mur.own8 (own_chg ow3.own ch6 (fun q e _ _ => trivial))
  have ow5 := Mur.own8 (own_chg ow4.own ch7 (fun q e _ _ => ⟨by have := ow1.lt q e; omega, trivial⟩))
  refine rX 2 21 rfl rfl (Mur.append8 (.tmp 19) (.tmp 20) 22 5 rfl Tryd.underlying22 (by kernel_rfl) W2.heap.size AA1 nn1 cc1 (bodyFM f) (some ⟨W5.heap.size, 0, none⟩) 32 32 (T (bodyFM f)) (by kernel_rfl) (by kernel_rfl) ow5.own (Mur.byt_blk (T (bodyFM f)) (hTl (bodyFM f)) hb3) (fun h => by cases h) (by omega) (by omega) (nn1 + 32) (by omega) ((bodyFM f) ++ (T (bodyFM f))) rfl) ?_
  rintro _ W8 ⟨AA2, nn2, rfl, ow6, ch8, ha1⟩
  have zz8 := ch8.size
  have hq4 := ow6.nc
  have hq5 := ow6.cm
  refine rP 3 6 (.slice AA2 (nn1 + 32) nn2) ?_
  refine rEnd 4 rfl (nxt (wp_seq (reg ?_)))
  refine rP 0 22 (.slice AA2 (nn1 + 32) nn2) ?_
  refine rP 1 4 (.slice AA2 (nn1 + 32) nn2) ?_
  refine rP 2 5 (.int .i64 0) ?_
  refine rEnd 3 rfl (nxt (wp_ret ?_))
  have hH_ := ow6
  have hby_ : bytesFM T f = bodyFM f ++ T (bodyFM f) := by unfold bytesFM; rw [if_pos hpr1]
  have kk6 := Chg.step kk5 ch5 trivial
  have kk7 := Chg.step kk6 ch6 trivial
  have kk8 := Chg.step kk7 ch7 ⟨.inr (by omega), trivial⟩
  have kk9 := Chg.step kk8 ch8 (newOr_blk (fun g hg => by have := ow1.lt g hg; omega))
  refine rt (.tuple #[.slice AA2 (nn1 + 32) nn2, .int .i64 0]) ?_
  exact ⟨_, _, _, 0, rfl, .inl ⟨(hif1.1 rfl), rfl, by rw [hby_]; exact own8_low hH_ (by omega)⟩, kk9⟩
 rw [decide_eq_false hpr1]
 rintro _ W10 ⟨rfl, ch9⟩
 have zz9 := ch9.size
 refine ⟨_, rfl, ?_⟩
 refine rEnd 3 rfl (nxt (wp_cond_false (by kernel_rfl) (wp_skip (nxt (wp_seq (reg ?_))))))
 refine rP 0 22 (.slice AA1 nn1 cc1) ?_
 refine rP 1 4 (.slice AA1 nn1 cc1) ?_
 refine rP 2 5 (.int .i64 0) ?_
 refine rEnd 3 rfl (nxt (wp_ret ?_))
 have ow7 := Mur.own8 (own_chg ow1.own ch9 (fun q e _ _ => trivial))
 have hH_ := ow7
 have hby_ : bytesFM T f = bodyFM f := by unfold bytesFM; rw [if_neg hpr1]; exact List.append_nil _
 have kk10 := Chg.step kk3 ch3 trivial
 have kk11 := Chg.step kk10 ch9 trivial
 refine rt (.tuple #[.slice AA1 nn1 cc1, .int .i64 0]) ?_
 exact ⟨_, _, _, 0, rfl, .inl ⟨(hif1.1 rfl), rfl, by rw [hby_]; exact own8_low hH_ (by omega)⟩, kk11⟩
end Go.Proofs.YtgbadghjnpbiaaaDoor
namespace Mur
open Go Go.RowKit Wk
theorem msg_eq {m m2 : Msg} : m = m2 ↔ m.kind = m2.kind ∧ m.pre = m2.pre ∧ m.sum = m2.sum ∧ m.cnt = m2.cnt ∧ m.ans = m2.ans ∧ m.items = m2.items := by
  constructor
  · rintro rfl
    exact ⟨rfl, rfl, rfl, rfl, rfl, rfl⟩
  · obtain ⟨a, b, c, d, e, f⟩ := m
    obtain ⟨a2, b2, c2, d2, e2, f2⟩ := m2
    rintro ⟨h1, h2, h3, h4, h5, h6⟩
    simp only at h1 h2 h3 h4 h5 h6
    subst h1 h2 h3 h4 h5 h6
    rfl
theorem frm_eq2 {f g : Frm} (h0 : f.kind = g.kind) (h1 : f.frm = g.frm) (h2 : f.dst = g.dst) (h14 : f.cKey = g.cKey ∧ f.cNode = g.cNode ∧ f.cInc = g.cInc ∧ f.cCnt = g.cCnt ∧ f.cGone = g.cGone) (h15 : f.att = g.att) (h16 : f.root = g.root) (h17 : f.chunk = g.chunk) (h18 : f.byt = g.byt) (h19 : f.prf = g.prf)
    (h3 : f.pTo = g.pTo) (h4 : f.pKind = g.pKind) (h5 : f.pSeq = g.pSeq) (h6 : f.pAbout = g.pAbout) (h7 : f.pUpd = g.pUpd) (h8 : f.gos = g.gos) : f = g := by
  refine frm_eq (by rw [h0]) h1 h2 h3 (by rw [h4]) (by rw [h5]) h6 h7 (by rw [h8]) (by rw [h8]) (by rw [h8]) (by rw [h8]) (by rw [h8]) (by rw [h8]) h14 h15 h16 h17 h18 h19
end Mur
namespace Go.Proofs.YtgbadghjnpbiaaaDoor
open Go.RowKit Wk
theorem msgI : (Tryd.prog.info? 32).map (fun i => (i.zero, i.size, i.bytes)) = some (some (.agg Mur.msgZ.toArray), 37, 104) := by kernel_rfl
end Go.Proofs.YtgbadghjnpbiaaaDoor
