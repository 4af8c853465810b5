/- What the row rests on, part 13. -/
import Derived.Test.YtgbadghjnpbiaaaDoorRA12
import Derived.Test.YtgbadghjnpbiaaaDoorRA6
namespace Go.Proofs.YtgbadghjnpbiaaaDoor
open Go.RowKit Wk
open Mur (b8s Byt Own8 Seg Segs flat cutA attC Att SlA OwnA rowA msgC updU readU_less ownR_nil Some_ byt_chgp updU_len slR_box attL readA_less z32 attL_len readD_less b8s_length)
set_option maxRecDepth 100000
set_option maxHeartbeats 4000000
def SevU_F2 (b : Array Value) (u0 : Value) (u1 : Value) (u4 : Value) (u5 : Value) : Act := ⟨#[u0, u1, gd b 2, gd b 3, u4, u5, gd b 6, gd b 7, gd b 8, gd b 9, gd b 10, gd b 11, gd b 12, gd b 13, gd b 14, gd b 15, gd b 16, gd b 17, gd b 18, gd b 19, gd b 20, gd b 21, gd b 22, gd b 23, gd b 24, gd b 25, gd b 26, gd b 27, gd b 28, gd b 29, gd b 30, gd b 31, gd b 32, gd b 33, gd b 34], []⟩
def SevA_F2 (b : Array Value) (u0 : Value) (u1 : Value) (u4 : Value) (u5 : Value) : Act := ⟨#[u0, u1, gd b 2, gd b 3, u4, u5, gd b 6, gd b 7, gd b 8, gd b 9, gd b 10, gd b 11, gd b 12, gd b 13, gd b 14, gd b 15, gd b 16, gd b 17, gd b 18, gd b 19, gd b 20, gd b 21, gd b 22, gd b 23, gd b 24, gd b 25, gd b 26, gd b 27, gd b 28, gd b 29, gd b 30, gd b 31, gd b 32, gd b 33, gd b 34], []⟩
def SevD_F2 (b : Array Value) (u0 : Value) (u1 : Value) (u4 : Value) (u5 : Value) : Act := ⟨#[u0, u1, gd b 2, gd b 3, u4, u5, gd b 6, gd b 7, gd b 8, gd b 9, gd b 10, gd b 11, gd b 12, gd b 13, gd b 14, gd b 15, gd b 16, gd b 17, gd b 18, gd b 19, gd b 20, gd b 21, gd b 22, gd b 23, gd b 24, gd b 25, gd b 26, gd b 27, gd b 28, gd b 29, gd b 30, gd b 31, gd b 32, gd b 33, gd b 34], []⟩
theorem SeveralU_any (gr : Nat) (A : Option Addr) (n c : Nat) (b : List UInt8) (at_ : Nat) (bad : Bool) (w : World) (hr : w.heap[gr]? = some (.cells #[.slice A n c, .int .i64 ((at_ : Nat) : Int), .bool bad] 56 (0, 0))) (hb : Byt w A n b) (hnc : n ≤ c ∧ c ≤ 9223372036854775807) (hneb : ∀ a, A = some a → 0 < n → a.block ≠ gr) (hat : at_ ≤ n) (hn : n ≤ 100000) : Calls Tryd.prog 35 #[pt gr 0, .func (.func 36) #[pt gr 0] #[]] w fun e w' => ∃ (at2 : Nat) (bad2 : Bool) (A1 : Option Addr) (n1 c1 : Nat) (l : List (Mur.Upd)), e = .returned (.slice A1 n1 c1) ∧ (at_ ≤ at2 ∧ at2 ≤ n) ∧ w'.heap[gr]? = some (.cells #[.slice A n c, .int .i64 ((at2 : Nat) : Int), .bool bad2] 56 (0, 0)) ∧ Mur.Step (Mur.readL Mur.readU) b at_ bad at2 bad2 l ∧ (Mur.OwnR w' w.heap.size 66 3 A1 n1 c1 (l.map updU) ∧ ∀ x, x ∈ l → (x.node ≤ 1073741824 ∧ x.inc < 18446744073709551616)) ∧ Chg [gr] w w' := by
 have hne : ∀ g off, A = some ⟨g, off, none⟩ → 0 < n → g ≠ gr := fun g off e hn => hneb _ e hn
 have hbl_ := hb.1
 have hn_ := hn
 have hgl_ := (Array.getElem?_eq_some_iff.1 hr).1
 refine calls_of_wp Tryd.func35 rfl ?_
 refine wp_seq (reg ?_)
 refine rP 0 4 (.slice none 0 0) ?_
 refine rEnd 1 rfl (nxt (wp_seq (reg ?_)))
 refine rP 0 6 (pt gr 0) ?_
 refine rC 1 7 17 [.tmp 6] #[54] [pt gr 0] ?_
 refine (Rint_any gr A n c b at_ bad w hr hb ⟨by omega, by omega⟩ hneb (by omega) (by omega)).mono ?_
 rintro _ W1 ⟨at1, bad1, v1, rfl, hat1, hr1, hst1, hlt1, ch1⟩
 have zz1 := ch1.size
 cases bad1
 ·refine ⟨_, rfl, ?_⟩
  refine rP 2 5 (.int .i64 ((v1 : Nat) : Int)) ?_
  refine rEnd 3 rfl (nxt (wp_seq (wp_seq (reg ?_))))
  refine rP 0 8 (.int .i64 ((v1 : Nat) : Int)) ?_
  refine rP 1 9 (pt gr 0) ?_
  refine rP 2 10 (pt gr 0) ?_
  refine rP 3 11 (pt gr 0) ?_
  refine rQ 4 12 _ rfl rfl (ld 22 11 gr 0 (.slice A n c) ((cell_of_row _ _ 0 _ _ _ hr1).trans rfl)) ?_
  refine rP 5 13 (.int .i64 ((n : Nat) : Int)) ?_
  by_cases hx1 : ((v1 : Nat) : Int) > ((n : Nat) : Int)
  ·refine rQ 6 14 _ rfl rfl (qboolT (b := decide (((v1 : Nat) : Int) > ((n : Nat) : Int))) (decide_eq_true (by first | exact hx1 | omega))) ?_
   refine rEnd 7 rfl (nxt (wp_cond_true (by kernel_rfl) (reg ?_)))
   refine rP 0 15 (pt gr 0) ?_
   refine rP 1 16 (pt gr 0) ?_
   refine rP 2 17 (pt gr 2) ?_
   refine rY 3 rfl rfl (store1 4 (.tmp 17) (.const (.bool true)) rfl (by kernel_rfl) gr 2 (by kernel_rfl) (.bool true) (by kernel_rfl) rfl 56 #[.slice A n c, .int .i64 ((at1 : Nat) : Int), .bool false] hr1 (by simp)) ?_
   rintro W2 ⟨hb1, ch2⟩
   replace hb1 : W2.heap[gr]? = some (.cells #[.slice A n c, .int .i64 ((at1 : Nat) : Int), .bool true] 56 (0, 0)) := hb1
   have zz2 := ch2.size
   refine rEnd 4 rfl (nxt (wp_seq (wp_block ?_)))
   refine Wk.loopN 2 ?_
   refine Wk.rdS (wp_seq (wp_seq (reg ?_)))
   refine rP 0 18 (.int .i64 ((v1 : Nat) : Int)) ?_
   by_cases hx2 : ((v1 : Nat) : Int) > (0 : Int)
   ·refine rQ 1 19 _ rfl rfl (qboolT (b := decide (((v1 : Nat) : Int) > (0 : Int))) (decide_eq_true (by first | exact hx2 | omega))) ?_
    refine rP 2 20 (.bool true) ?_
    refine rP 3 21 (pt gr 0) ?_
    refine rP 4 22 (pt gr 0) ?_
    refine rP 5 23 (pt gr 2) ?_
    refine rQ 6 24 _ rfl rfl (ld 4 23 gr 2 (.bool true) ((cell_of_row _ _ 2 _ _ _ hb1).trans rfl)) ?_
    refine rP 7 25 (.bool false) ?_
    refine rP 8 26 (.bool false) ?_
    refine rEnd 9 rfl (nxt (wp_cond_false (by kernel_rfl) (wp_exit (thX (thX (inX (nxt (wp_seq (reg ?_)))))))))
    refine rP 0 34 (.slice none 0 0) ?_
    refine rP 1 4 (.slice none 0 0) ?_
    refine rEnd 2 rfl (nxt (wp_ret ?_))
    have kk1 : Chg [gr] (w) W1 := Chg.step ((Chg.refl _).more (by simp)) ch1 ⟨.inl (by simp), trivial⟩
    have kk2 := Chg.step kk1 ch2 ⟨.inl (by simp), trivial⟩
    refine rt (.slice none 0 0) ?_
    exact ⟨at1, true, none, 0, 0, [], rfl, ⟨by omega, by omega⟩, hb1, Mur.Step.many_big readU_less hst1 (by omega) [], ⟨ownR_nil _ _ _ (by decide), (by simp)⟩, kk2⟩
   refine rQ 1 19 _ rfl rfl (qboolF (b := decide (((v1 : Nat) : Int) > (0 : Int))) (decide_eq_false (by first | exact hx2 | omega))) ?_
   refine rP 2 20 (.bool false) ?_
   refine rZ 3 21 ?_
   refine rZ 4 22 ?_
   refine rZ 5 23 ?_
   refine rZ 6 24 ?_
   refine rZ 7 25 ?_
   refine rP 8 26 (.bool false) ?_
   refine rEnd 9 rfl (nxt (wp_cond_false (by kernel_rfl) (wp_exit (thX (thX (inX (nxt (wp_seq (reg ?_)))))))))
   refine rP 0 34 (.slice none 0 0) ?_
   refine rP 1 4 (.slice none 0 0) ?_
   refine rEnd 2 rfl (nxt (wp_ret ?_))
   have kk3 : Chg [gr] (w) W1 := Chg.step ((Chg.refl _).more (by simp)) ch1 ⟨.inl (by simp), trivial⟩
   have kk4 := Chg.step kk3 ch2 ⟨.inl (by simp), trivial⟩
   refine rt (.slice none 0 0) ?_
   exact ⟨at1, true, none, 0, 0, [], rfl, ⟨by omega, by omega⟩, hb1, Mur.Step.many_big readU_less hst1 (by omega) [], ⟨ownR_nil _ _ _ (by decide), (by simp)⟩, kk4⟩
  refine rQ 6 14 _ rfl rfl (qboolF (b := decide (((v1 : Nat) : Int) > ((n : Nat) : Int))) (decide_eq_false (by first | exact hx1 | omega))) ?_
  refine rEnd 7 rfl (nxt (wp_cond_false (by kernel_rfl) (wp_skip (nxt (wp_seq (wp_block ?_))))))
  refine Wk.loop (fun m_ a wr => ∃ (l : List (Mur.Upd)) (m : Nat) (at2 : Nat) (bad2 : Bool) (A1 : Option Addr) (N1 : Nat) (c1 : Nat), m_ = m ∧ a = SevU_F2 a.tmps (pt gr 0) (.func (.func 36) #[pt gr 0] #[]) (.slice A1 N1 c1) (.int .i64 ((m : Nat) : Int)) ∧ l.length + m = v1 ∧ Mur.OwnR wr w.heap.size 66 3 A1 N1 c1 (l.map updU) ∧ wr.heap[gr]? = some (.cells #[.slice A n c, .int .i64 ((at2 : Nat) : Int), .bool bad2] 56 (0, 0)) ∧ (at1 ≤ at2 ∧ at2 ≤ n) ∧ Some_ Mur.readU b at1 at2 bad2 l ∧ (∀ x, x ∈ l → (x.node ≤ 1073741824 ∧ x.inc < 18446744073709551616)) ∧ Chg [gr] w wr) (v1) ?_ ?_
  ·have kk5 : Chg [gr] (w) W1 := Chg.step ((Chg.refl _).more (by simp)) ch1 ⟨.inl (by simp), trivial⟩
   refine ⟨[], v1, at1, false, none, 0, 0, rfl, by kernel_rfl, (by simp), (ownR_nil _ _ _ (by decide)), hr1, ⟨by omega, by omega⟩, Some_.nil, (by simp), kk5⟩
  rintro mm1 aa1 W3 ⟨l, m, at2, bad2, A1, N1, c1, hmm1, hF1, hlm, hO, hrc, hat2, hso, hQ, HB⟩
  generalize aa1.tmps = bb1 at hF1
  subst hF1
  have hzB := HB.size
  have hOn := hO.nc
  have hOc := hO.cm
  have hOl := hO.len
  rw [List.length_map] at hOl
  refine wp_seq (wp_seq (reg ?_))
  refine rP 0 18 (.int .i64 ((m : Nat) : Int)) ?_
  by_cases hx3 : ((m : Nat) : Int) > (0 : Int)
  ·refine rQ 1 19 _ rfl rfl (qboolT (b := decide (((m : Nat) : Int) > (0 : Int))) (decide_eq_true (by first | exact hx3 | omega))) ?_
   refine rP 2 20 (.bool true) ?_
   refine rP 3 21 (pt gr 0) ?_
   refine rP 4 22 (pt gr 0) ?_
   refine rP 5 23 (pt gr 2) ?_
   refine rQ 6 24 _ rfl rfl (ld 4 23 gr 2 (.bool bad2) ((cell_of_row _ _ 2 _ _ _ hrc).trans rfl)) ?_
   refine rP 7 25 (.bool (!bad2)) ?_
   refine rP 8 26 (.bool (!bad2)) ?_
   refine rEnd 9 rfl (nxt ?_)
   cases bad2
   ·refine wp_cond_true (by kernel_rfl) (wp_skip (nxt (wp_seq (wp_block (reg ?_)))))
    refine rP 0 29 (.slice A1 N1 c1) ?_
    refine rP 1 30 (.func (.func 36) #[pt gr 0] #[]) ?_
    refine Wk.rCallM 2 (some 31) (.tmp 30) 36 #[pt gr 0] [] #[] [] rfl rfl (by kernel_rfl) rfl (by kernel_rfl) (by kernel_rfl) (by kernel_rfl) ?_
    refine (Rupdate_any gr A n c b at2 false W3 hrc (byt_chgp hb HB (fun g off e hn hl => ⟨by have := hne g off e hn; omega, trivial⟩)) ⟨by omega, by omega⟩ hneb (by omega) (by omega)).mono ?_
    rintro _ W4 ⟨at2, bad2, u1, rfl, hat2, hr2, hst2, hu1, ch3⟩
    have zz3 := ch3.size
    refine ⟨_, rfl, ?_⟩
    refine rX 3 32 rfl rfl (Mur.buildR1 25 66 (.tmp 31) rfl Tryd.underlying25 [.int .i64 0, .int .u8 0, .int .u64 0] 3 24 (by kernel_rfl) (by kernel_rfl) (by decide) (by decide) (updU u1) (updU_len u1) (by kernel_rfl)) ?_
    rintro _ W5 ⟨rfl, hb2, ch4, sz1⟩
    have zz4 := ch4.size
    have ow1 := Mur.OwnR.chg hO (by decide) ch3 (fun q e _ _ => ⟨by have := hO.lt q e; omega, trivial⟩)
    have ow2 := Mur.OwnR.chg ow1 (by decide) ch4 (fun q e _ _ => trivial)
    refine rX 4 33 rfl rfl (Mur.appendR (.tmp 29) (.tmp 32) 25 66 rfl Tryd.underlying25 (.agg [.int .i64 0, .int .u8 0, .int .u64 0].toArray) 3 24 (by kernel_rfl) (by kernel_rfl) (by decide) (by decide) w.heap.size A1 N1 c1 (l.map updU) (some ⟨W4.heap.size, 0, none⟩) 1 1 [(updU u1)] (by kernel_rfl) (by kernel_rfl) ow2 (slR_box (updU_len u1) (Mur.updC_one _) hb2) (fun h => by cases h) (by omega) (by omega) (N1 + 1) rfl) ?_
    rintro _ W6 ⟨AA1, nn1, rfl, ow3, ch5, ha1⟩
    have zz5 := ch5.size
    have ow4 : Mur.OwnR W6 w.heap.size 66 3 AA1 (N1 + 1) nn1 ((l ++ [u1]).map updU) := by rw [List.map_append]; exact ow3
    have hq1 := ow4.nc
    have hq2 := ow4.cm
    refine rP 5 4 (.slice AA1 (N1 + 1) nn1) ?_
    refine rEnd 6 rfl (inN (nxt (reg ?_)))
    refine rP 0 27 (.int .i64 ((m : Nat) : Int)) ?_
    refine rQ 1 28 _ rfl rfl (qint64 (n := ((m : Nat) : Int) - 1) (z := ((m - 1 : Nat) : Int)) (by omega) (by omega) (by omega)) ?_
    refine rP 2 5 (.int .i64 ((m - 1 : Nat) : Int)) ?_
    refine rEnd 3 rfl (nxt ?_)
    have kk6 := Chg.step HB ch3 ⟨.inl (by simp), trivial⟩
    have kk7 := Chg.step kk6 ch4 trivial
    have kk8 := Chg.step kk7 ch5 (newOr_blk (fun g hg => by have := hO.lt g hg; omega))
    refine ⟨_, ?_, l ++ [u1], m - 1, at2, bad2, AA1, N1 + 1, nn1, rfl, by kernel_rfl, (by rw [List.length_append, List.length_singleton]; omega), ow4, (Chg.hp ch5 (Chg.hp ch4 hr2 trivial) (off_blk (fun gz hgz => by have := hO.lt gz hgz; omega))), ⟨by omega, by omega⟩, (Some_.snoc hso hst2), (fun y_ hy_ => by rcases List.mem_append.1 hy_ with h1_ | h1_ <;> first | exact hQ y_ h1_ | (rw [List.mem_singleton.1 h1_]; exact hu1)), kk8⟩
    omega
   refine wp_cond_false (by kernel_rfl) (wp_exit (thX (thX (inX (nxt (wp_seq (reg ?_)))))))
   refine rP 0 34 (.slice A1 N1 c1) ?_
   refine rP 1 4 (.slice A1 N1 c1) ?_
   refine rEnd 2 rfl (nxt (wp_ret ?_))
   refine rt (.slice A1 N1 c1) ?_
   exact ⟨at2, true, A1, N1, c1, l, rfl, ⟨by omega, by omega⟩, hrc, Mur.Step.many hst1 hso (by omega) (fun e_ => by cases e_), ⟨hO, hQ⟩, HB⟩
  refine rQ 1 19 _ rfl rfl (qboolF (b := decide (((m : Nat) : Int) > (0 : Int))) (decide_eq_false (by first | exact hx3 | omega))) ?_
  refine rP 2 20 (.bool false) ?_
  refine rZ 3 21 ?_
  refine rZ 4 22 ?_
  refine rZ 5 23 ?_
  refine rZ 6 24 ?_
  refine rZ 7 25 ?_
  refine rP 8 26 (.bool false) ?_
  refine rEnd 9 rfl (nxt (wp_cond_false (by kernel_rfl) (wp_exit (thX (thX (inX (nxt (wp_seq (reg ?_)))))))))
  refine rP 0 34 (.slice A1 N1 c1) ?_
  refine rP 1 4 (.slice A1 N1 c1) ?_
  refine rEnd 2 rfl (nxt (wp_ret ?_))
  refine rt (.slice A1 N1 c1) ?_
  exact ⟨at2, bad2, A1, N1, c1, l, rfl, ⟨by omega, by omega⟩, hrc, Mur.Step.many hst1 hso (by omega) (fun e_ => by omega), ⟨hO, hQ⟩, HB⟩
 refine ⟨_, rfl, ?_⟩
 refine rP 2 5 (.int .i64 ((v1 : Nat) : Int)) ?_
 refine rEnd 3 rfl (nxt (wp_seq (wp_seq (reg ?_))))
 refine rP 0 8 (.int .i64 ((v1 : Nat) : Int)) ?_
 refine rP 1 9 (pt gr 0) ?_
 refine rP 2 10 (pt gr 0) ?_
 refine rP 3 11 (pt gr 0) ?_
 refine rQ 4 12 _ rfl rfl (ld 22 11 gr 0 (.slice A n c) ((cell_of_row _ _ 0 _ _ _ hr1).trans rfl)) ?_
 refine rP 5 13 (.int .i64 ((n : Nat) : Int)) ?_
 by_cases hx4 : ((v1 : Nat) : Int) > ((n : Nat) : Int)
 ·refine rQ 6 14 _ rfl rfl (qboolT (b := decide (((v1 : Nat) : Int) > ((n : Nat) : Int))) (decide_eq_true (by first | exact hx4 | omega))) ?_
  refine rEnd 7 rfl (nxt (wp_cond_true (by kernel_rfl) (reg ?_)))
  refine rP 0 15 (pt gr 0) ?_
  refine rP 1 16 (pt gr 0) ?_
  refine rP 2 17 (pt gr 2) ?_
  refine rY 3 rfl rfl (store1 4 (.tmp 17) (.const (.bool true)) rfl (by kernel_rfl) gr 2 (by kernel_rfl) (.bool true) (by kernel_rfl) rfl 56 #[.slice A n c, .int .i64 ((at1 : Nat) : Int), .bool true] hr1 (by simp)) ?_
  rintro W7 ⟨hb3, ch6⟩
  replace hb3 : W7.heap[gr]? = some (.cells #[.slice A n c, .int .i64 ((at1 : Nat) : Int), .bool true] 56 (0, 0)) := hb3
  have zz6 := ch6.size
  refine rEnd 4 rfl (nxt (wp_seq (wp_block ?_)))
  refine Wk.loopN 2 ?_
  refine Wk.rdS (wp_seq (wp_seq (reg ?_)))
  refine rP 0 18 (.int .i64 ((v1 : Nat) : Int)) ?_
  by_cases hx5 : ((v1 : Nat) : Int) > (0 : Int)
  ·refine rQ 1 19 _ rfl rfl (qboolT (b := decide (((v1 : Nat) : Int) > (0 : Int))) (decide_eq_true (by first | exact hx5 | omega))) ?_
   refine rP 2 20 (.bool true) ?_
   refine rP 3 21 (pt gr 0) ?_
   refine rP 4 22 (pt gr 0) ?_
   refine rP 5 23 (pt gr 2) ?_
   refine rQ 6 24 _ rfl rfl (ld 4 23 gr 2 (.bool true) ((cell_of_row _ _ 2 _ _ _ hb3).trans rfl)) ?_
   refine rP 7 25 (.bool false) ?_
   refine rP 8 26 (.bool false) ?_
   refine rEnd 9 rfl (nxt (wp_cond_false (by kernel_rfl) (wp_exit (thX (thX (inX (nxt (wp_seq (reg ?_)))))))))
   refine rP 0 34 (.slice none 0 0) ?_
   refine rP 1 4 (.slice none 0 0) ?_
   refine rEnd 2 rfl (nxt (wp_ret ?_))
   have kk9 : Chg [gr] (w) W1 := Chg.step ((Chg.refl _).more (by simp)) ch1 ⟨.inl (by simp), trivial⟩
   have kk10 := Chg.step kk9 ch6 ⟨.inl (by simp), trivial⟩
   refine rt (.slice none 0 0) ?_
   exact ⟨at1, true, none, 0, 0, [], rfl, ⟨by omega, by omega⟩, hb3, Mur.Step.many_bad hst1 [], ⟨ownR_nil _ _ _ (by decide), (by simp)⟩, kk10⟩
  refine rQ 1 19 _ rfl rfl (qboolF (b := decide (((v1 : Nat) : Int) > (0 : Int))) (decide_eq_false (by first | exact hx5 | omega))) ?_
  refine rP 2 20 (.bool false) ?_
  refine rZ 3 21 ?_
  refine rZ 4 22 ?_
  refine rZ 5 23 ?_
  refine rZ 6 24 ?_
  refine rZ 7 25 ?_
  refine rP 8 26 (.bool false) ?_
  refine rEnd 9 rfl (nxt (wp_cond_false (by kernel_rfl) (wp_exit (thX (thX (inX (nxt (wp_seq (reg ?_)))))))))
  refine rP 0 34 (.slice none 0 0) ?_
  refine rP 1 4 (.slice none 0 0) ?_
  refine rEnd 2 rfl (nxt (wp_ret ?_))
  have kk11 : Chg [gr] (w) W1 := Chg.step ((Chg.refl _).more (by simp)) ch1 ⟨.inl (by simp), trivial⟩
  have kk12 := Chg.step kk11 ch6 ⟨.inl (by simp), trivial⟩
  refine rt (.slice none 0 0) ?_
  exact ⟨at1, true, none, 0, 0, [], rfl, ⟨by omega, by omega⟩, hb3, Mur.Step.many_bad hst1 [], ⟨ownR_nil _ _ _ (by decide), (by simp)⟩, kk12⟩
 refine rQ 6 14 _ rfl rfl (qboolF (b := decide (((v1 : Nat) : Int) > ((n : Nat) : Int))) (decide_eq_false (by first | exact hx4 | omega))) ?_
 refine rEnd 7 rfl (nxt (wp_cond_false (by kernel_rfl) (wp_skip (nxt (wp_seq (wp_block ?_))))))
 refine Wk.loopN 2 ?_
 refine Wk.rdS (wp_seq (wp_seq (reg ?_)))
 refine rP 0 18 (.int .i64 ((v1 : Nat) : Int)) ?_
 by_cases hx6 : ((v1 : Nat) : Int) > (0 : Int)
 ·refine rQ 1 19 _ rfl rfl (qboolT (b := decide (((v1 : Nat) : Int) > (0 : Int))) (decide_eq_true (by first | exact hx6 | omega))) ?_
  refine rP 2 20 (.bool true) ?_
  refine rP 3 21 (pt gr 0) ?_
  refine rP 4 22 (pt gr 0) ?_
  refine rP 5 23 (pt gr 2) ?_
  refine rQ 6 24 _ rfl rfl (ld 4 23 gr 2 (.bool true) ((cell_of_row _ _ 2 _ _ _ hr1).trans rfl)) ?_
  refine rP 7 25 (.bool false) ?_
  refine rP 8 26 (.bool false) ?_
  refine rEnd 9 rfl (nxt (wp_cond_false (by kernel_rfl) (wp_exit (thX (thX (inX (nxt (wp_seq (reg ?_)))))))))
  refine rP 0 34 (.slice none 0 0) ?_
  refine rP 1 4 (.slice none 0 0) ?_
  refine rEnd 2 rfl (nxt (wp_ret ?_))
  have kk13 : Chg [gr] (w) W1 := Chg.step ((Chg.refl _).more (by simp)) ch1 ⟨.inl (by simp), trivial⟩
  refine rt (.slice none 0 0) ?_
  exact ⟨at1, true, none, 0, 0, [], rfl, ⟨by omega, by omega⟩, hr1, Mur.Step.many_bad hst1 [], ⟨ownR_nil _ _ _ (by decide), (by simp)⟩, kk13⟩
 refine rQ 1 19 _ rfl rfl (qboolF (b := decide (((v1 : Nat) : Int) > (0 : Int))) (decide_eq_false (by first | exact hx6 | omega))) ?_
 refine rP 2 20 (.bool false) ?_
 refine rZ 3 21 ?_
 refine rZ 4 22 ?_
 refine rZ 5 23 ?_
 refine rZ 6 24 ?_
 refine rZ 7 25 ?_
 refine rP 8 26 (.bool false) ?_
 refine rEnd 9 rfl (nxt (wp_cond_false (by kernel_rfl) (wp_exit (thX (thX (inX (nxt (wp_seq (reg ?_)))))))))
 refine rP 0 34 (.slice none 0 0) ?_
 refine rP 1 4 (.slice none 0 0) ?_
 refine rEnd 2 rfl (nxt (wp_ret ?_))
 have kk14 : Chg [gr] (w) W1 := Chg.step ((Chg.refl _).more (by simp)) ch1 ⟨.inl (by simp), trivial⟩
 refine rt (.slice none 0 0) ?_
 exact ⟨at1, true, none, 0, 0, [], rfl, ⟨by omega, by omega⟩, hr1, Mur.Step.many_bad hst1 [], ⟨ownR_nil _ _ _ (by decide), (by simp)⟩, kk14⟩
theorem SeveralA_any (gr : Nat) (A : Option Addr) (n c : Nat) (b : List UInt8) (at_ : Nat) (bad : Bool) (w : World) (hr : w.heap[gr]? = some (.cells #[.slice A n c, .int .i64 ((at_ : Nat) : Int), .bool bad] 56 (0, 0))) (hb : Byt w A n b) (hnc : n ≤ c ∧ c ≤ 9223372036854775807) (hneb : ∀ a, A = some a → 0 < n → a.block ≠ gr) (hat : at_ ≤ n) (hn : n ≤ 100000) : Calls Tryd.prog 38 #[pt gr 0, .func (.func 39) #[pt gr 0] #[]] w fun e w' => ∃ (at2 : Nat) (bad2 : Bool) (A1 : Option Addr) (n1 c1 : Nat) (l : List (Att)), e = .returned (.slice A1 n1 c1) ∧ (at_ ≤ at2 ∧ at2 ≤ n) ∧ w'.heap[gr]? = some (.cells #[.slice A n c, .int .i64 ((at2 : Nat) : Int), .bool bad2] 56 (0, 0)) ∧ Mur.Step (Mur.readL Mur.readA) b at_ bad at2 bad2 l ∧ (Mur.OwnR w' w.heap.size 36 97 A1 n1 c1 (l.map attL) ∧ ∀ x, x ∈ l → True) ∧ Chg [gr] w w' := by
 have hne : ∀ g off, A = some ⟨g, off, none⟩ → 0 < n → g ≠ gr := fun g off e hn => hneb _ e hn
 have hbl_ := hb.1
 have hn_ := hn
 have hgl_ := (Array.getElem?_eq_some_iff.1 hr).1
 refine calls_of_wp Tryd.func38 rfl ?_
 refine wp_seq (reg ?_)
 refine rP 0 4 (.slice none 0 0) ?_
 refine rEnd 1 rfl (nxt (wp_seq (reg ?_)))
 refine rP 0 6 (pt gr 0) ?_
 refine rC 1 7 17 [.tmp 6] #[54] [pt gr 0] ?_
 refine (Rint_any gr A n c b at_ bad w hr hb ⟨by omega, by omega⟩ hneb (by omega) (by omega)).mono ?_
 rintro _ W1 ⟨at1, bad1, v1, rfl, hat1, hr1, hst1, hlt1, ch1⟩
 have zz1 := ch1.size
 cases bad1
 ·refine ⟨_, rfl, ?_⟩
  refine rP 2 5 (.int .i64 ((v1 : Nat) : Int)) ?_
  refine rEnd 3 rfl (nxt (wp_seq (wp_seq (reg ?_))))
  refine rP 0 8 (.int .i64 ((v1 : Nat) : Int)) ?_
  refine rP 1 9 (pt gr 0) ?_
  refine rP 2 10 (pt gr 0) ?_
  refine rP 3 11 (pt gr 0) ?_
  refine rQ 4 12 _ rfl rfl (ld 22 11 gr 0 (.slice A n c) ((cell_of_row _ _ 0 _ _ _ hr1).trans rfl)) ?_
  refine rP 5 13 (.int .i64 ((n : Nat) : Int)) ?_
  by_cases hx1 : ((v1 : Nat) : Int) > ((n : Nat) : Int)
  ·refine rQ 6 14 _ rfl rfl (qboolT (b := decide (((v1 : Nat) : Int) > ((n : Nat) : Int))) (decide_eq_true (by first | exact hx1 | omega))) ?_
   refine rEnd 7 rfl (nxt (wp_cond_true (by kernel_rfl) (reg ?_)))
   refine rP 0 15 (pt gr 0) ?_
   refine rP 1 16 (pt gr 0) ?_
   refine rP 2 17 (pt gr 2) ?_
   refine rY 3 rfl rfl (store1 4 (.tmp 17) (.const (.bool true)) rfl (by kernel_rfl) gr 2 (by kernel_rfl) (.bool true) (by kernel_rfl) rfl 56 #[.slice A n c, .int .i64 ((at1 : Nat) : Int), .bool false] hr1 (by simp)) ?_
   rintro W2 ⟨hb1, ch2⟩
   replace hb1 : W2.heap[gr]? = some (.cells #[.slice A n c, .int .i64 ((at1 : Nat) : Int), .bool true] 56 (0, 0)) := hb1
   have zz2 := ch2.size
   refine rEnd 4 rfl (nxt (wp_seq (wp_block ?_)))
   refine Wk.loopN 2 ?_
   refine Wk.rdS (wp_seq (wp_seq (reg ?_)))
   refine rP 0 18 (.int .i64 ((v1 : Nat) : Int)) ?_
   by_cases hx2 : ((v1 : Nat) : Int) > (0 : Int)
   ·refine rQ 1 19 _ rfl rfl (qboolT (b := decide (((v1 : Nat) : Int) > (0 : Int))) (decide_eq_true (by first | exact hx2 | omega))) ?_
    refine rP 2 20 (.bool true) ?_
    refine rP 3 21 (pt gr 0) ?_
    refine rP 4 22 (pt gr 0) ?_
    refine rP 5 23 (pt gr 2) ?_
    refine rQ 6 24 _ rfl rfl (ld 4 23 gr 2 (.bool true) ((cell_of_row _ _ 2 _ _ _ hb1).trans rfl)) ?_
    refine rP 7 25 (.bool false) ?_
    refine rP 8 26 (.bool false) ?_
    refine rEnd 9 rfl (nxt (wp_cond_false (by kernel_rfl) (wp_exit (thX (thX (inX (nxt (wp_seq (reg ?_)))))))))
    refine rP 0 34 (.slice none 0 0) ?_
    refine rP 1 4 (.slice none 0 0) ?_
    refine rEnd 2 rfl (nxt (wp_ret ?_))
    have kk1 : Chg [gr] (w) W1 := Chg.step ((Chg.refl _).more (by simp)) ch1 ⟨.inl (by simp), trivial⟩
    have kk2 := Chg.step kk1 ch2 ⟨.inl (by simp), trivial⟩
    refine rt (.slice none 0 0) ?_
    exact ⟨at1, true, none, 0, 0, [], rfl, ⟨by omega, by omega⟩, hb1, Mur.Step.many_big readA_less hst1 (by omega) [], ⟨ownR_nil _ _ _ (by decide), (by simp)⟩, kk2⟩
   refine rQ 1 19 _ rfl rfl (qboolF (b := decide (((v1 : Nat) : Int) > (0 : Int))) (decide_eq_false (by first | exact hx2 | omega))) ?_
   refine rP 2 20 (.bool false) ?_
   refine rZ 3 21 ?_
   refine rZ 4 22 ?_
   refine rZ 5 23 ?_
   refine rZ 6 24 ?_
   refine rZ 7 25 ?_
   refine rP 8 26 (.bool false) ?_
   refine rEnd 9 rfl (nxt (wp_cond_false (by kernel_rfl) (wp_exit (thX (thX (inX (nxt (wp_seq (reg ?_)))))))))
   refine rP 0 34 (.slice none 0 0) ?_
   refine rP 1 4 (.slice none 0 0) ?_
   refine rEnd 2 rfl (nxt (wp_ret ?_))
   have kk3 : Chg [gr] (w) W1 := Chg.step ((Chg.refl _).more (by simp)) ch1 ⟨.inl (by simp), trivial⟩
   have kk4 := Chg.step kk3 ch2 ⟨.inl (by simp), trivial⟩
   refine rt (.slice none 0 0) ?_
   exact ⟨at1, true, none, 0, 0, [], rfl, ⟨by omega, by omega⟩, hb1, Mur.Step.many_big readA_less hst1 (by omega) [], ⟨ownR_nil _ _ _ (by decide), (by simp)⟩, kk4⟩
  refine rQ 6 14 _ rfl rfl (qboolF (b := decide (((v1 : Nat) : Int) > ((n : Nat) : Int))) (decide_eq_false (by first | exact hx1 | omega))) ?_
  refine rEnd 7 rfl (nxt (wp_cond_false (by kernel_rfl) (wp_skip (nxt (wp_seq (wp_block ?_))))))
  refine Wk.loop (fun m_ a wr => ∃ (l : List (Att)) (m : Nat) (at2 : Nat) (bad2 : Bool) (A1 : Option Addr) (N1 : Nat) (c1 : Nat), m_ = m ∧ a = SevA_F2 a.tmps (pt gr 0) (.func (.func 39) #[pt gr 0] #[]) (.slice A1 N1 c1) (.int .i64 ((m : Nat) : Int)) ∧ l.length + m = v1 ∧ Mur.OwnR wr w.heap.size 36 97 A1 N1 c1 (l.map attL) ∧ wr.heap[gr]? = some (.cells #[.slice A n c, .int .i64 ((at2 : Nat) : Int), .bool bad2] 56 (0, 0)) ∧ (at1 ≤ at2 ∧ at2 ≤ n) ∧ Some_ Mur.readA b at1 at2 bad2 l ∧ (∀ x, x ∈ l → True) ∧ Chg [gr] w wr) (v1) ?_ ?_
  ·have kk5 : Chg [gr] (w) W1 := Chg.step ((Chg.refl _).more (by simp)) ch1 ⟨.inl (by simp), trivial⟩
   refine ⟨[], v1, at1, false, none, 0, 0, rfl, by kernel_rfl, (by simp), (ownR_nil _ _ _ (by decide)), hr1, ⟨by omega, by omega⟩, Some_.nil, (by simp), kk5⟩
  rintro mm1 aa1 W3 ⟨l, m, at2, bad2, A1, N1, c1, hmm1, hF1, hlm, hO, hrc, hat2, hso, hQ, HB⟩
  generalize aa1.tmps = bb1 at hF1
  subst hF1
  have hzB := HB.size
  have hOn := hO.nc
  have hOc := hO.cm
  have hOl := hO.len
  rw [List.length_map] at hOl
  refine wp_seq (wp_seq (reg ?_))
  refine rP 0 18 (.int .i64 ((m : Nat) : Int)) ?_
  by_cases hx3 : ((m : Nat) : Int) > (0 : Int)
  ·refine rQ 1 19 _ rfl rfl (qboolT (b := decide (((m : Nat) : Int) > (0 : Int))) (decide_eq_true (by first | exact hx3 | omega))) ?_
   refine rP 2 20 (.bool true) ?_
   refine rP 3 21 (pt gr 0) ?_
   refine rP 4 22 (pt gr 0) ?_
   refine rP 5 23 (pt gr 2) ?_
   refine rQ 6 24 _ rfl rfl (ld 4 23 gr 2 (.bool bad2) ((cell_of_row _ _ 2 _ _ _ hrc).trans rfl)) ?_
   refine rP 7 25 (.bool (!bad2)) ?_
   refine rP 8 26 (.bool (!bad2)) ?_
   refine rEnd 9 rfl (nxt ?_)
   cases bad2
   ·refine wp_cond_true (by kernel_rfl) (wp_skip (nxt (wp_seq (wp_block (reg ?_)))))
    refine rP 0 29 (.slice A1 N1 c1) ?_
    refine rP 1 30 (.func (.func 39) #[pt gr 0] #[]) ?_
    refine Wk.rCallM 2 (some 31) (.tmp 30) 39 #[pt gr 0] [] #[] [] rfl rfl (by kernel_rfl) rfl (by kernel_rfl) (by kernel_rfl) (by kernel_rfl) ?_
    refine (Rattest_any gr A n c b at2 false W3 hrc (byt_chgp hb HB (fun g off e hn hl => ⟨by have := hne g off e hn; omega, trivial⟩)) ⟨by omega, by omega⟩ hneb (by omega) (by omega)).mono ?_
    rintro _ W4 ⟨at2, bad2, y1, rfl, hat2, hr2, hst2, ch3⟩
    have zz3 := ch3.size
    refine ⟨_, rfl, ?_⟩
    refine rX 3 32 rfl rfl (Mur.buildR1 30 36 (.tmp 31) rfl Tryd.underlying30 (Mur.attC z32 z32 0 z32) 97 104 (by kernel_rfl) (by kernel_rfl) (by decide) (by decide) (attL y1) (attL_len y1) (by kernel_rfl)) ?_
    rintro _ W5 ⟨rfl, hb2, ch4, sz1⟩
    have zz4 := ch4.size
    have ow1 := Mur.OwnR.chg hO (by decide) ch3 (fun q e _ _ => ⟨by have := hO.lt q e; omega, trivial⟩)
    have ow2 := Mur.OwnR.chg ow1 (by decide) ch4 (fun q e _ _ => trivial)
    refine rX 4 33 rfl rfl (Mur.appendR (.tmp 29) (.tmp 32) 30 36 rfl Tryd.underlying30 (.agg (Mur.attC z32 z32 0 z32).toArray) 97 104 (by kernel_rfl) (by kernel_rfl) (by decide) (by decide) w.heap.size A1 N1 c1 (l.map attL) (some ⟨W4.heap.size, 0, none⟩) 1 1 [(attL y1)] (by kernel_rfl) (by kernel_rfl) ow2 (slR_box (attL_len y1) Mur.attC_one hb2) (fun h => by cases h) (by omega) (by omega) (N1 + 1) rfl) ?_
    rintro _ W6 ⟨AA1, nn1, rfl, ow3, ch5, ha1⟩
    have zz5 := ch5.size
    have ow4 : Mur.OwnR W6 w.heap.size 36 97 AA1 (N1 + 1) nn1 ((l ++ [y1]).map attL) := by rw [List.map_append]; exact ow3
    have hq1 := ow4.nc
    have hq2 := ow4.cm
    refine rP 5 4 (.slice AA1 (N1 + 1) nn1) ?_
    refine rEnd 6 rfl (inN (nxt (reg ?_)))
    refine rP 0 27 (.int .i64 ((m : Nat) : Int)) ?_
    refine rQ 1 28 _ rfl rfl (qint64 (n := ((m : Nat) : Int) - 1) (z := ((m - 1 : Nat) : Int)) (by omega) (by omega) (by omega)) ?_
    refine rP 2 5 (.int .i64 ((m - 1 : Nat) : Int)) ?_
    refine rEnd 3 rfl (nxt ?_)
    have kk6 := Chg.step HB ch3 ⟨.inl (by simp), trivial⟩
    have kk7 := Chg.step kk6 ch4 trivial
    have kk8 := Chg.step kk7 ch5 (newOr_blk (fun g hg => by have := hO.lt g hg; omega))
    refine ⟨_, ?_, l ++ [y1], m - 1, at2, bad2, AA1, N1 + 1, nn1, rfl, by kernel_rfl, (by rw [List.length_append, List.length_singleton]; omega), ow4, (Chg.hp ch5 (Chg.hp ch4 hr2 trivial) (off_blk (fun gz hgz => by have := hO.lt gz hgz; omega))), ⟨by omega, by omega⟩, (Some_.snoc hso hst2), (fun _ _ => trivial), kk8⟩
    omega
   refine wp_cond_false (by kernel_rfl) (wp_exit (thX (thX (inX (nxt (wp_seq (reg ?_)))))))
   refine rP 0 34 (.slice A1 N1 c1) ?_
   refine rP 1 4 (.slice A1 N1 c1) ?_
   refine rEnd 2 rfl (nxt (wp_ret ?_))
   refine rt (.slice A1 N1 c1) ?_
   exact ⟨at2, true, A1, N1, c1, l, rfl, ⟨by omega, by omega⟩, hrc, Mur.Step.many hst1 hso (by omega) (fun e_ => by cases e_), ⟨hO, hQ⟩, HB⟩
  refine rQ 1 19 _ rfl rfl (qboolF (b := decide (((m : Nat) : Int) > (0 : Int))) (decide_eq_false (by first | exact hx3 | omega))) ?_
  refine rP 2 20 (.bool false) ?_
  refine rZ 3 21 ?_
  refine rZ 4 22 ?_
  refine rZ 5 23 ?_
  refine rZ 6 24 ?_
  refine rZ 7 25 ?_
  refine rP 8 26 (.bool false) ?_
  refine rEnd 9 rfl (nxt (wp_cond_false (by kernel_rfl) (wp_exit (thX (thX (inX (nxt (wp_seq (reg ?_)))))))))
  refine rP 0 34 (.slice A1 N1 c1) ?_
  refine rP 1 4 (.slice A1 N1 c1) ?_
  refine rEnd 2 rfl (nxt (wp_ret ?_))
  refine rt (.slice A1 N1 c1) ?_
  exact ⟨at2, bad2, A1, N1, c1, l, rfl, ⟨by omega, by omega⟩, hrc, Mur.Step.many hst1 hso (by omega) (fun e_ => by omega), ⟨hO, hQ⟩, HB⟩
 refine ⟨_, rfl, ?_⟩
 refine rP 2 5 (.int .i64 ((v1 : Nat) : Int)) ?_
 refine rEnd 3 rfl (nxt (wp_seq (wp_seq (reg ?_))))
 refine rP 0 8 (.int .i64 ((v1 : Nat) : Int)) ?_
 refine rP 1 9 (pt gr 0) ?_
 refine rP 2 10 (pt gr 0) ?_
 refine rP 3 11 (pt gr 0) ?_
 refine rQ 4 12 _ rfl rfl (ld 22 11 gr 0 (.slice A n c) ((cell_of_row _ _ 0 _ _ _ hr1).trans rfl)) ?_
 refine rP 5 13 (.int .i64 ((n : Nat) : Int)) ?_
 by_cases hx4 : ((v1 : Nat) : Int) > ((n : Nat) : Int)
 ·refine rQ 6 14 _ rfl rfl (qboolT (b := decide (((v1 : Nat) : Int) > ((n : Nat) : Int))) (decide_eq_true (by first | exact hx4 | omega))) ?_
  refine rEnd 7 rfl (nxt (wp_cond_true (by kernel_rfl) (reg ?_)))
  refine rP 0 15 (pt gr 0) ?_
  refine rP 1 16 (pt gr 0) ?_
  refine rP 2 17 (pt gr 2) ?_
  refine rY 3 rfl rfl (store1 4 (.tmp 17) (.const (.bool true)) rfl (by kernel_rfl) gr 2 (by kernel_rfl) (.bool true) (by kernel_rfl) rfl 56 #[.slice A n c, .int .i64 ((at1 : Nat) : Int), .bool true] hr1 (by simp)) ?_
  rintro W7 ⟨hb3, ch6⟩
  replace hb3 : W7.heap[gr]? = some (.cells #[.slice A n c, .int .i64 ((at1 : Nat) : Int), .bool true] 56 (0, 0)) := hb3
  have zz6 := ch6.size
  refine rEnd 4 rfl (nxt (wp_seq (wp_block ?_)))
  refine Wk.loopN 2 ?_
  refine Wk.rdS (wp_seq (wp_seq (reg ?_)))
  refine rP 0 18 (.int .i64 ((v1 : Nat) : Int)) ?_
  by_cases hx5 : ((v1 : Nat) : Int) > (0 : Int)
  ·refine rQ 1 19 _ rfl rfl (qboolT (b := decide (((v1 : Nat) : Int) > (0 : Int))) (decide_eq_true (by first | exact hx5 | omega))) ?_
   refine rP 2 20 (.bool true) ?_
   refine rP 3 21 (pt gr 0) ?_
   refine rP 4 22 (pt gr 0) ?_
   refine rP 5 23 (pt gr 2) ?_
   refine rQ 6 24 _ rfl rfl (ld 4 23 gr 2 (.bool true) ((cell_of_row _ _ 2 _ _ _ hb3).trans rfl)) ?_
   refine rP 7 25 (.bool false) ?_
   refine rP 8 26 (.bool false) ?_
   refine rEnd 9 rfl (nxt (wp_cond_false (by kernel_rfl) (wp_exit (thX (thX (inX (nxt (wp_seq (reg ?_)))))))))
   refine rP 0 34 (.slice none 0 0) ?_
   refine rP 1 4 (.slice none 0 0) ?_
   refine rEnd 2 rfl (nxt (wp_ret ?_))
   have kk9 : Chg [gr] (w) W1 := Chg.step ((Chg.refl _).more (by simp)) ch1 ⟨.inl (by simp), trivial⟩
   have kk10 := Chg.step kk9 ch6 ⟨.inl (by simp), trivial⟩
   refine rt (.slice none 0 0) ?_
   exact ⟨at1, true, none, 0, 0, [], rfl, ⟨by omega, by omega⟩, hb3, Mur.Step.many_bad hst1 [], ⟨ownR_nil _ _ _ (by decide), (by simp)⟩, kk10⟩
  refine rQ 1 19 _ rfl rfl (qboolF (b := decide (((v1 : Nat) : Int) > (0 : Int))) (decide_eq_false (by first | exact hx5 | omega))) ?_
  refine rP 2 20 (.bool false) ?_
  refine rZ 3 21 ?_
  refine rZ 4 22 ?_
  refine rZ 5 23 ?_
  refine rZ 6 24 ?_
  refine rZ 7 25 ?_
  refine rP 8 26 (.bool false) ?_
  refine rEnd 9 rfl (nxt (wp_cond_false (by kernel_rfl) (wp_exit (thX (thX (inX (nxt (wp_seq (reg ?_)))))))))
  refine rP 0 34 (.slice none 0 0) ?_
  refine rP 1 4 (.slice none 0 0) ?_
  refine rEnd 2 rfl (nxt (wp_ret ?_))
  have kk11 : Chg [gr] (w) W1 := Chg.step ((Chg.refl _).more (by simp)) ch1 ⟨.inl (by simp), trivial⟩
  have kk12 := Chg.step kk11 ch6 ⟨.inl (by simp), trivial⟩
  refine rt (.slice none 0 0) ?_
  exact ⟨at1, true, none, 0, 0, [], rfl, ⟨by omega, by omega⟩, hb3, Mur.Step.many_bad hst1 [], ⟨ownR_nil _ _ _ (by decide), (by simp)⟩, kk12⟩
 refine rQ 6 14 _ rfl rfl (qboolF (b := decide (((v1 : Nat) : Int) > ((n : Nat) : Int))) (decide_eq_false (by first | exact hx4 | omega))) ?_
 refine rEnd 7 rfl (nxt (wp_cond_false (by kernel_rfl) (wp_skip (nxt (wp_seq (wp_block ?_))))))
 refine Wk.loopN 2 ?_
 refine Wk.rdS (wp_seq (wp_seq (reg ?_)))
 refine rP 0 18 (.int .i64 ((v1 : Nat) : Int)) ?_
 by_cases hx6 : ((v1 : Nat) : Int) > (0 : Int)
 ·refine rQ 1 19 _ rfl rfl (qboolT (b := decide (((v1 : Nat) : Int) > (0 : Int))) (decide_eq_true (by first | exact hx6 | omega))) ?_
  refine rP 2 20 (.bool true) ?_
  refine rP 3 21 (pt gr 0) ?_
  refine rP 4 22 (pt gr 0) ?_
  refine rP 5 23 (pt gr 2) ?_
  refine rQ 6 24 _ rfl rfl (ld 4 23 gr 2 (.bool true) ((cell_of_row _ _ 2 _ _ _ hr1).trans rfl)) ?_
  refine rP 7 25 (.bool false) ?_
  refine rP 8 26 (.bool false) ?_
  refine rEnd 9 rfl (nxt (wp_cond_false (by kernel_rfl) (wp_exit (thX (thX (inX (nxt (wp_seq (reg ?_)))))))))
  refine rP 0 34 (.slice none 0 0) ?_
  refine rP 1 4 (.slice none 0 0) ?_
  refine rEnd 2 rfl (nxt (wp_ret ?_))
  have kk13 : Chg [gr] (w) W1 := Chg.step ((Chg.refl _).more (by simp)) ch1 ⟨.inl (by simp), trivial⟩
  refine rt (.slice none 0 0) ?_
  exact ⟨at1, true, none, 0, 0, [], rfl, ⟨by omega, by omega⟩, hr1, Mur.Step.many_bad hst1 [], ⟨ownR_nil _ _ _ (by decide), (by simp)⟩, kk13⟩
 refine rQ 1 19 _ rfl rfl (qboolF (b := decide (((v1 : Nat) : Int) > (0 : Int))) (decide_eq_false (by first | exact hx6 | omega))) ?_
 refine rP 2 20 (.bool false) ?_
 refine rZ 3 21 ?_
 refine rZ 4 22 ?_
 refine rZ 5 23 ?_
 refine rZ 6 24 ?_
 refine rZ 7 25 ?_
 refine rP 8 26 (.bool false) ?_
 refine rEnd 9 rfl (nxt (wp_cond_false (by kernel_rfl) (wp_exit (thX (thX (inX (nxt (wp_seq (reg ?_)))))))))
 refine rP 0 34 (.slice none 0 0) ?_
 refine rP 1 4 (.slice none 0 0) ?_
 refine rEnd 2 rfl (nxt (wp_ret ?_))
 have kk14 : Chg [gr] (w) W1 := Chg.step ((Chg.refl _).more (by simp)) ch1 ⟨.inl (by simp), trivial⟩
 refine rt (.slice none 0 0) ?_
 exact ⟨at1, true, none, 0, 0, [], rfl, ⟨by omega, by omega⟩, hr1, Mur.Step.many_bad hst1 [], ⟨ownR_nil _ _ _ (by decide), (by simp)⟩, kk14⟩
theorem SeveralD_any (gr : Nat) (A : Option Addr) (n c : Nat) (b : List UInt8) (at_ : Nat) (bad : Bool) (w : World) (hr : w.heap[gr]? = some (.cells #[.slice A n c, .int .i64 ((at_ : Nat) : Int), .bool bad] 56 (0, 0))) (hb : Byt w A n b) (hnc : n ≤ c ∧ c ≤ 9223372036854775807) (hneb : ∀ a, A = some a → 0 < n → a.block ≠ gr) (hat : at_ ≤ n) (hn : n ≤ 100000) : Calls Tryd.prog 41 #[pt gr 0, .func (.func 20) #[pt gr 0] #[]] w fun e w' => ∃ (at2 : Nat) (bad2 : Bool) (A1 : Option Addr) (n1 c1 : Nat) (l : List (List UInt8)), e = .returned (.slice A1 n1 c1) ∧ (at_ ≤ at2 ∧ at2 ≤ n) ∧ w'.heap[gr]? = some (.cells #[.slice A n c, .int .i64 ((at2 : Nat) : Int), .bool bad2] 56 (0, 0)) ∧ Mur.Step (Mur.readL (Mur.readS 32)) b at_ bad at2 bad2 l ∧ (Mur.OwnR w' w.heap.size 29 32 A1 n1 c1 (l.map b8s) ∧ ∀ x, x ∈ l → x.length = 32) ∧ Chg [gr] w w' := by
 have hne : ∀ g off, A = some ⟨g, off, none⟩ → 0 < n → g ≠ gr := fun g off e hn => hneb _ e hn
 have hbl_ := hb.1
 have hn_ := hn
 have hgl_ := (Array.getElem?_eq_some_iff.1 hr).1
 refine calls_of_wp Tryd.func41 rfl ?_
 refine wp_seq (reg ?_)
 refine rP 0 4 (.slice none 0 0) ?_
 refine rEnd 1 rfl (nxt (wp_seq (reg ?_)))
 refine rP 0 6 (pt gr 0) ?_
 refine rC 1 7 17 [.tmp 6] #[54] [pt gr 0] ?_
 refine (Rint_any gr A n c b at_ bad w hr hb ⟨by omega, by omega⟩ hneb (by omega) (by omega)).mono ?_
 rintro _ W1 ⟨at1, bad1, v1, rfl, hat1, hr1, hst1, hlt1, ch1⟩
 have zz1 := ch1.size
 cases bad1
 ·refine ⟨_, rfl, ?_⟩
  refine rP 2 5 (.int .i64 ((v1 : Nat) : Int)) ?_
  refine rEnd 3 rfl (nxt (wp_seq (wp_seq (reg ?_))))
  refine rP 0 8 (.int .i64 ((v1 : Nat) : Int)) ?_
  refine rP 1 9 (pt gr 0) ?_
  refine rP 2 10 (pt gr 0) ?_
  refine rP 3 11 (pt gr 0) ?_
  refine rQ 4 12 _ rfl rfl (ld 22 11 gr 0 (.slice A n c) ((cell_of_row _ _ 0 _ _ _ hr1).trans rfl)) ?_
  refine rP 5 13 (.int .i64 ((n : Nat) : Int)) ?_
  by_cases hx1 : ((v1 : Nat) : Int) > ((n : Nat) : Int)
  ·refine rQ 6 14 _ rfl rfl (qboolT (b := decide (((v1 : Nat) : Int) > ((n : Nat) : Int))) (decide_eq_true (by first | exact hx1 | omega))) ?_
   refine rEnd 7 rfl (nxt (wp_cond_true (by kernel_rfl) (reg ?_)))
   refine rP 0 15 (pt gr 0) ?_
   refine rP 1 16 (pt gr 0) ?_
   refine rP 2 17 (pt gr 2) ?_
   refine rY 3 rfl rfl (store1 4 (.tmp 17) (.const (.bool true)) rfl (by kernel_rfl) gr 2 (by kernel_rfl) (.bool true) (by kernel_rfl) rfl 56 #[.slice A n c, .int .i64 ((at1 : Nat) : Int), .bool false] hr1 (by simp)) ?_
   rintro W2 ⟨hb1, ch2⟩
   replace hb1 : W2.heap[gr]? = some (.cells #[.slice A n c, .int .i64 ((at1 : Nat) : Int), .bool true] 56 (0, 0)) := hb1
   have zz2 := ch2.size
   refine rEnd 4 rfl (nxt (wp_seq (wp_block ?_)))
   refine Wk.loopN 2 ?_
   refine Wk.rdS (wp_seq (wp_seq (reg ?_)))
   refine rP 0 18 (.int .i64 ((v1 : Nat) : Int)) ?_
   by_cases hx2 : ((v1 : Nat) : Int) > (0 : Int)
   ·refine rQ 1 19 _ rfl rfl (qboolT (b := decide (((v1 : Nat) : Int) > (0 : Int))) (decide_eq_true (by first | exact hx2 | omega))) ?_
    refine rP 2 20 (.bool true) ?_
    refine rP 3 21 (pt gr 0) ?_
    refine rP 4 22 (pt gr 0) ?_
    refine rP 5 23 (pt gr 2) ?_
    refine rQ 6 24 _ rfl rfl (ld 4 23 gr 2 (.bool true) ((cell_of_row _ _ 2 _ _ _ hb1).trans rfl)) ?_
    refine rP 7 25 (.bool false) ?_
    refine rP 8 26 (.bool false) ?_
    refine rEnd 9 rfl (nxt (wp_cond_false (by kernel_rfl) (wp_exit (thX (thX (inX (nxt (wp_seq (reg ?_)))))))))
    refine rP 0 34 (.slice none 0 0) ?_
    refine rP 1 4 (.slice none 0 0) ?_
    refine rEnd 2 rfl (nxt (wp_ret ?_))
    have kk1 : Chg [gr] (w) W1 := Chg.step ((Chg.refl _).more (by simp)) ch1 ⟨.inl (by simp), trivial⟩
    have kk2 := Chg.step kk1 ch2 ⟨.inl (by simp), trivial⟩
    refine rt (.slice none 0 0) ?_
    exact ⟨at1, true, none, 0, 0, [], rfl, ⟨by omega, by omega⟩, hb1, Mur.Step.many_big readD_less hst1 (by omega) [], ⟨ownR_nil _ _ _ (by decide), (by simp)⟩, kk2⟩
   refine rQ 1 19 _ rfl rfl (qboolF (b := decide (((v1 : Nat) : Int) > (0 : Int))) (decide_eq_false (by first | exact hx2 | omega))) ?_
   refine rP 2 20 (.bool false) ?_
   refine rZ 3 21 ?_
   refine rZ 4 22 ?_
   refine rZ 5 23 ?_
   refine rZ 6 24 ?_
   refine rZ 7 25 ?_
   refine rP 8 26 (.bool false) ?_
   refine rEnd 9 rfl (nxt (wp_cond_false (by kernel_rfl) (wp_exit (thX (thX (inX (nxt (wp_seq (reg ?_)))))))))
   refine rP 0 34 (.slice none 0 0) ?_
   refine rP 1 4 (.slice none 0 0) ?_
   refine rEnd 2 rfl (nxt (wp_ret ?_))
   have kk3 : Chg [gr] (w) W1 := Chg.step ((Chg.refl _).more (by simp)) ch1 ⟨.inl (by simp), trivial⟩
   have kk4 := Chg.step kk3 ch2 ⟨.inl (by simp), trivial⟩
   refine rt (.slice none 0 0) ?_
   exact ⟨at1, true, none, 0, 0, [], rfl, ⟨by omega, by omega⟩, hb1, Mur.Step.many_big readD_less hst1 (by omega) [], ⟨ownR_nil _ _ _ (by decide), (by simp)⟩, kk4⟩
  refine rQ 6 14 _ rfl rfl (qboolF (b := decide (((v1 : Nat) : Int) > ((n : Nat) : Int))) (decide_eq_false (by first | exact hx1 | omega))) ?_
  refine rEnd 7 rfl (nxt (wp_cond_false (by kernel_rfl) (wp_skip (nxt (wp_seq (wp_block ?_))))))
  refine Wk.loop (fun m_ a wr => ∃ (l : List (List UInt8)) (m : Nat) (at2 : Nat) (bad2 : Bool) (A1 : Option Addr) (N1 : Nat) (c1 : Nat), m_ = m ∧ a = SevD_F2 a.tmps (pt gr 0) (.func (.func 20) #[pt gr 0] #[]) (.slice A1 N1 c1) (.int .i64 ((m : Nat) : Int)) ∧ l.length + m = v1 ∧ Mur.OwnR wr w.heap.size 29 32 A1 N1 c1 (l.map b8s) ∧ wr.heap[gr]? = some (.cells #[.slice A n c, .int .i64 ((at2 : Nat) : Int), .bool bad2] 56 (0, 0)) ∧ (at1 ≤ at2 ∧ at2 ≤ n) ∧ Some_ (Mur.readS 32) b at1 at2 bad2 l ∧ (∀ x, x ∈ l → x.length = 32) ∧ Chg [gr] w wr) (v1) ?_ ?_
  ·have kk5 : Chg [gr] (w) W1 := Chg.step ((Chg.refl _).more (by simp)) ch1 ⟨.inl (by simp), trivial⟩
   refine ⟨[], v1, at1, false, none, 0, 0, rfl, by kernel_rfl, (by simp), (ownR_nil _ _ _ (by decide)), hr1, ⟨by omega, by omega⟩, Some_.nil, (by simp), kk5⟩
  rintro mm1 aa1 W3 ⟨l, m, at2, bad2, A1, N1, c1, hmm1, hF1, hlm, hO, hrc, hat2, hso, hQ, HB⟩
  generalize aa1.tmps = bb1 at hF1
  subst hF1
  have hzB := HB.size
  have hOn := hO.nc
  have hOc := hO.cm
  have hOl := hO.len
  rw [List.length_map] at hOl
  refine wp_seq (wp_seq (reg ?_))
  refine rP 0 18 (.int .i64 ((m : Nat) : Int)) ?_
  by_cases hx3 : ((m : Nat) : Int) > (0 : Int)
  ·refine rQ 1 19 _ rfl rfl (qboolT (b := decide (((m : Nat) : Int) > (0 : Int))) (decide_eq_true (by first | exact hx3 | omega))) ?_
   refine rP 2 20 (.bool true) ?_
   refine rP 3 21 (pt gr 0) ?_
   refine rP 4 22 (pt gr 0) ?_
   refine rP 5 23 (pt gr 2) ?_
   refine rQ 6 24 _ rfl rfl (ld 4 23 gr 2 (.bool bad2) ((cell_of_row _ _ 2 _ _ _ hrc).trans rfl)) ?_
   refine rP 7 25 (.bool (!bad2)) ?_
   refine rP 8 26 (.bool (!bad2)) ?_
   refine rEnd 9 rfl (nxt ?_)
   cases bad2
   ·refine wp_cond_true (by kernel_rfl) (wp_skip (nxt (wp_seq (wp_block (reg ?_)))))
    refine rP 0 29 (.slice A1 N1 c1) ?_
    refine rP 1 30 (.func (.func 20) #[pt gr 0] #[]) ?_
    refine Wk.rCallM 2 (some 31) (.tmp 30) 20 #[pt gr 0] [] #[] [] rfl rfl (by kernel_rfl) rfl (by kernel_rfl) (by kernel_rfl) (by kernel_rfl) ?_
    refine (Rdigest_any gr A n c b at2 false W3 hrc (byt_chgp hb HB (fun g off e hn hl => ⟨by have := hne g off e hn; omega, trivial⟩)) ⟨by omega, by omega⟩ hneb (by omega) (by omega)).mono ?_
    rintro _ W4 ⟨at2, bad2, x1, rfl, hat2, hr2, hst2, hl1, ch3⟩
    have zz3 := ch3.size
    refine ⟨_, rfl, ?_⟩
    refine rX 3 32 rfl rfl (Mur.buildR1 37 29 (.tmp 31) rfl Tryd.underlying37 (b8s z32) 32 32 (by kernel_rfl) (by kernel_rfl) (by decide) (by decide) (b8s x1) (by rw [b8s_length, hl1]) (by kernel_rfl)) ?_
    rintro _ W5 ⟨rfl, hb2, ch4, sz1⟩
    have zz4 := ch4.size
    have ow1 := Mur.OwnR.chg hO (by decide) ch3 (fun q e _ _ => ⟨by have := hO.lt q e; omega, trivial⟩)
    have ow2 := Mur.OwnR.chg ow1 (by decide) ch4 (fun q e _ _ => trivial)
    refine rX 4 33 rfl rfl (Mur.appendR (.tmp 29) (.tmp 32) 37 29 rfl Tryd.underlying37 (.agg (b8s z32).toArray) 32 32 (by kernel_rfl) (by kernel_rfl) (by decide) (by decide) w.heap.size A1 N1 c1 (l.map b8s) (some ⟨W4.heap.size, 0, none⟩) 1 1 [(b8s x1)] (by kernel_rfl) (by kernel_rfl) ow2 (slR_box (by rw [b8s_length, hl1]) (Mur.b8s_one x1) hb2) (fun h => by cases h) (by omega) (by omega) (N1 + 1) rfl) ?_
    rintro _ W6 ⟨AA1, nn1, rfl, ow3, ch5, ha1⟩
    have zz5 := ch5.size
    have ow4 : Mur.OwnR W6 w.heap.size 29 32 AA1 (N1 + 1) nn1 ((l ++ [x1]).map b8s) := by rw [List.map_append]; exact ow3
    have hq1 := ow4.nc
    have hq2 := ow4.cm
    refine rP 5 4 (.slice AA1 (N1 + 1) nn1) ?_
    refine rEnd 6 rfl (inN (nxt (reg ?_)))
    refine rP 0 27 (.int .i64 ((m : Nat) : Int)) ?_
    refine rQ 1 28 _ rfl rfl (qint64 (n := ((m : Nat) : Int) - 1) (z := ((m - 1 : Nat) : Int)) (by omega) (by omega) (by omega)) ?_
    refine rP 2 5 (.int .i64 ((m - 1 : Nat) : Int)) ?_
    refine rEnd 3 rfl (nxt ?_)
    have kk6 := Chg.step HB ch3 ⟨.inl (by simp), trivial⟩
    have kk7 := Chg.step kk6 ch4 trivial
    have kk8 := Chg.step kk7 ch5 (newOr_blk (fun g hg => by have := hO.lt g hg; omega))
    refine ⟨_, ?_, l ++ [x1], m - 1, at2, bad2, AA1, N1 + 1, nn1, rfl, by kernel_rfl, (by rw [List.length_append, List.length_singleton]; omega), ow4, (Chg.hp ch5 (Chg.hp ch4 hr2 trivial) (off_blk (fun gz hgz => by have := hO.lt gz hgz; omega))), ⟨by omega, by omega⟩, (Some_.snoc hso hst2), (fun y_ hy_ => by rcases List.mem_append.1 hy_ with h1_ | h1_ <;> first | exact hQ y_ h1_ | (rw [List.mem_singleton.1 h1_]; exact hl1)), kk8⟩
    omega
   refine wp_cond_false (by kernel_rfl) (wp_exit (thX (thX (inX (nxt (wp_seq (reg ?_)))))))
   refine rP 0 34 (.slice A1 N1 c1) ?_
   refine rP 1 4 (.slice A1 N1 c1) ?_
   refine rEnd 2 rfl (nxt (wp_ret ?_))
   refine rt (.slice A1 N1 c1) ?_
   exact ⟨at2, true, A1, N1, c1, l, rfl, ⟨by omega, by omega⟩, hrc, Mur.Step.many hst1 hso (by omega) (fun e_ => by cases e_), ⟨hO, hQ⟩, HB⟩
  refine rQ 1 19 _ rfl rfl (qboolF (b := decide (((m : Nat) : Int) > (0 : Int))) (decide_eq_false (by first | exact hx3 | omega))) ?_
  refine rP 2 20 (.bool false) ?_
  refine rZ 3 21 ?_
  refine rZ 4 22 ?_
  refine rZ 5 23 ?_
  refine rZ 6 24 ?_
  refine rZ 7 25 ?_
  refine rP 8 26 (.bool false) ?_
  refine rEnd 9 rfl (nxt (wp_cond_false (by kernel_rfl) (wp_exit (thX (thX (inX (nxt (wp_seq (reg ?_)))))))))
  refine rP 0 34 (.slice A1 N1 c1) ?_
  refine rP 1 4 (.slice A1 N1 c1) ?_
  refine rEnd 2 rfl (nxt (wp_ret ?_))
  refine rt (.slice A1 N1 c1) ?_
  exact ⟨at2, bad2, A1, N1, c1, l, rfl, ⟨by omega, by omega⟩, hrc, Mur.Step.many hst1 hso (by omega) (fun e_ => by omega), ⟨hO, hQ⟩, HB⟩
 refine ⟨_, rfl, ?_⟩
 refine rP 2 5 (.int .i64 ((v1 : Nat) : Int)) ?_
 refine rEnd 3 rfl (nxt (wp_seq (wp_seq (reg ?_))))
 refine rP 0 8 (.int .i64 ((v1 : Nat) : Int)) ?_
 refine rP 1 9 (pt gr 0) ?_
 refine rP 2 10 (pt gr 0) ?_
 refine rP 3 11 (pt gr 0) ?_
 refine rQ 4 12 _ rfl rfl (ld 22 11 gr 0 (.slice A n c) ((cell_of_row _ _ 0 _ _ _ hr1).trans rfl)) ?_
 refine rP 5 13 (.int .i64 ((n : Nat) : Int)) ?_
 by_cases hx4 : ((v1 : Nat) : Int) > ((n : Nat) : Int)
 ·refine rQ 6 14 _ rfl rfl (qboolT (b := decide (((v1 : Nat) : Int) > ((n : Nat) : Int))) (decide_eq_true (by first | exact hx4 | omega))) ?_
  refine rEnd 7 rfl (nxt (wp_cond_true (by kernel_rfl) (reg ?_)))
  refine rP 0 15 (pt gr 0) ?_
  refine rP 1 16 (pt gr 0) ?_
  refine rP 2 17 (pt gr 2) ?_
  refine rY 3 rfl rfl (store1 4 (.tmp 17) (.const (.bool true)) rfl (by kernel_rfl) gr 2 (by kernel_rfl) (.bool true) (by kernel_rfl) rfl 56 #[.slice A n c, .int .i64 ((at1 : Nat) : Int), .bool true] hr1 (by simp)) ?_
  rintro W7 ⟨hb3, ch6⟩
  replace hb3 : W7.heap[gr]? = some (.cells #[.slice A n c, .int .i64 ((at1 : Nat) : Int), .bool true] 56 (0, 0)) := hb3
  have zz6 := ch6.size
  refine rEnd 4 rfl (nxt (wp_seq (wp_block ?_)))
  refine Wk.loopN 2 ?_
  refine Wk.rdS (wp_seq (wp_seq (reg ?_)))
  refine rP 0 18 (.int .i64 ((v1 : Nat) : Int)) ?_
  by_cases hx5 : ((v1 : Nat) : Int) > (0 : Int)
  ·refine rQ 1 19 _ rfl rfl (qboolT (b := decide (((v1 : Nat) : Int) > (0 : Int))) (decide_eq_true (by first | exact hx5 | omega))) ?_
   refine rP 2 20 (.bool true) ?_
   refine rP 3 21 (pt gr 0) ?_
   refine rP 4 22 (pt gr 0) ?_
   refine rP 5 23 (pt gr 2) ?_
   refine rQ 6 24 _ rfl rfl (ld 4 23 gr 2 (.bool true) ((cell_of_row _ _ 2 _ _ _ hb3).trans rfl)) ?_
   refine rP 7 25 (.bool false) ?_
   refine rP 8 26 (.bool false) ?_
   refine rEnd 9 rfl (nxt (wp_cond_false (by kernel_rfl) (wp_exit (thX (thX (inX (nxt (wp_seq (reg ?_)))))))))
   refine rP 0 34 (.slice none 0 0) ?_
   refine rP 1 4 (.slice none 0 0) ?_
   refine rEnd 2 rfl (nxt (wp_ret ?_))
   have kk9 : Chg [gr] (w) W1 := Chg.step ((Chg.refl _).more (by simp)) ch1 ⟨.inl (by simp), trivial⟩
   have kk10 := Chg.step kk9 ch6 ⟨.inl (by simp), trivial⟩
   refine rt (.slice none 0 0) ?_
   exact ⟨at1, true, none, 0, 0, [], rfl, ⟨by omega, by omega⟩, hb3, Mur.Step.many_bad hst1 [], ⟨ownR_nil _ _ _ (by decide), (by simp)⟩, kk10⟩
  refine rQ 1 19 _ rfl rfl (qboolF (b := decide (((v1 : Nat) : Int) > (0 : Int))) (decide_eq_false (by first | exact hx5 | omega))) ?_
  refine rP 2 20 (.bool false) ?_
  refine rZ 3 21 ?_
  refine rZ 4 22 ?_
  refine rZ 5 23 ?_
  refine rZ 6 24 ?_
  refine rZ 7 25 ?_
  refine rP 8 26 (.bool false) ?_
  refine rEnd 9 rfl (nxt (wp_cond_false (by kernel_rfl) (wp_exit (thX (thX (inX (nxt (wp_seq (reg ?_)))))))))
  refine rP 0 34 (.slice none 0 0) ?_
  refine rP 1 4 (.slice none 0 0) ?_
  refine rEnd 2 rfl (nxt (wp_ret ?_))
  have kk11 : Chg [gr] (w) W1 := Chg.step ((Chg.refl _).more (by simp)) ch1 ⟨.inl (by simp), trivial⟩
  have kk12 := Chg.step kk11 ch6 ⟨.inl (by simp), trivial⟩
  refine rt (.slice none 0 0) ?_
  exact ⟨at1, true, none, 0, 0, [], rfl, ⟨by omega, by omega⟩, hb3, Mur.Step.many_bad hst1 [], ⟨ownR_nil _ _ _ (by decide), (by simp)⟩, kk12⟩
 refine rQ 6 14 _ rfl rfl (qboolF (b := decide (((v1 : Nat) : Int) > ((n : Nat) : Int))) (decide_eq_false (by first | exact hx4 | omega))) ?_
 refine rEnd 7 rfl (nxt (wp_cond_false (by kernel_rfl) (wp_skip (nxt (wp_seq (wp_block ?_))))))
 refine Wk.loopN 2 ?_
 refine Wk.rdS (wp_seq (wp_seq (reg ?_)))
 refine rP 0 18 (.int .i64 ((v1 : Nat) : Int)) ?_
 by_cases hx6 : ((v1 : Nat) : Int) > (0 : Int)
 ·refine rQ 1 19 _ rfl rfl (qboolT (b := decide (((v1 : Nat) : Int) > (0 : Int))) (decide_eq_true (by first | exact hx6 | omega))) ?_
  refine rP 2 20 (.bool true) ?_
  refine rP 3 21 (pt gr 0) ?_
  refine rP 4 22 (pt gr 0) ?_
  refine rP 5 23 (pt gr 2) ?_
  refine rQ 6 24 _ rfl rfl (ld 4 23 gr 2 (.bool true) ((cell_of_row _ _ 2 _ _ _ hr1).trans rfl)) ?_
  refine rP 7 25 (.bool false) ?_
  refine rP 8 26 (.bool false) ?_
  refine rEnd 9 rfl (nxt (wp_cond_false (by kernel_rfl) (wp_exit (thX (thX (inX (nxt (wp_seq (reg ?_)))))))))
  refine rP 0 34 (.slice none 0 0) ?_
  refine rP 1 4 (.slice none 0 0) ?_
  refine rEnd 2 rfl (nxt (wp_ret ?_))
  have kk13 : Chg [gr] (w) W1 := Chg.step ((Chg.refl _).more (by simp)) ch1 ⟨.inl (by simp), trivial⟩
  refine rt (.slice none 0 0) ?_
  exact ⟨at1, true, none, 0, 0, [], rfl, ⟨by omega, by omega⟩, hr1, Mur.Step.many_bad hst1 [], ⟨ownR_nil _ _ _ (by decide), (by simp)⟩, kk13⟩
 refine rQ 1 19 _ rfl rfl (qboolF (b := decide (((v1 : Nat) : Int) > (0 : Int))) (decide_eq_false (by first | exact hx6 | omega))) ?_
 refine rP 2 20 (.bool false) ?_
 refine rZ 3 21 ?_
 refine rZ 4 22 ?_
 refine rZ 5 23 ?_
 refine rZ 6 24 ?_
 refine rZ 7 25 ?_
 refine rP 8 26 (.bool false) ?_
 refine rEnd 9 rfl (nxt (wp_cond_false (by kernel_rfl) (wp_exit (thX (thX (inX (nxt (wp_seq (reg ?_)))))))))
 refine rP 0 34 (.slice none 0 0) ?_
 refine rP 1 4 (.slice none 0 0) ?_
 refine rEnd 2 rfl (nxt (wp_ret ?_))
 have kk14 : Chg [gr] (w) W1 := Chg.step ((Chg.refl _).more (by simp)) ch1 ⟨.inl (by simp), trivial⟩
 refine rt (.slice none 0 0) ?_
 exact ⟨at1, true, none, 0, 0, [], rfl, ⟨by omega, by omega⟩, hr1, Mur.Step.many_bad hst1 [], ⟨ownR_nil _ _ _ (by decide), (by simp)⟩, kk14⟩
end Go.Proofs.YtgbadghjnpbiaaaDoor
namespace Go.Proofs.YtgbadghjnpbiaaaDoor
open Go.RowKit Wk
open Mur (b8s Byt Own8 Seg Segs flat cutA attC Att SlA OwnA rowA msgC ofCon headM segs_cell frmL_sz byt_chgp store_segs frmL sl0 z32 store_seg1 lies_probe sl0_in b8s_length b8s_one byt_chg run_built claimC_length claimC_one zs0 lies_none attC_length)
set_option maxRecDepth 100000
set_option maxHeartbeats 4000000
theorem Rfields_any (gr : Nat) (A : Option Addr) (n c : Nat) (b : List UInt8) (at_ : Nat) (bad : Bool) (gf : Nat) (kd : UInt8) (a d : Nat) (w : World) (hr : w.heap[gr]? = some (.cells #[.slice A n c, .int .i64 ((at_ : Nat) : Int), .bool bad] 56 (0, 0))) (hb : Byt w A n b) (hnc : n ≤ c ∧ c ≤ 9223372036854775807) (hneb : ∀ a, A = some a → 0 < n → a.block ≠ gr) (hat : at_ ≤ n) (hn : n ≤ 100000) (hf : w.heap[gf]? = some (.cells (frmh kd ((a : Nat) : Int) ((d : Nat) : Int)).flatten.toArray 39 (0, 0))) (hgf : gf ≠ gr) (hnef : ∀ a, A = some a → 0 < n → a.block ≠ gf) : Calls Tryd.prog 18 #[pt gr 0, pt gf 0] w fun e w' => ∃ (at2 : Nat) (bad2 : Bool) (F : Mur.Frm) (Z : Mur.Zs), e = .returned (.tuple #[]) ∧ (at_ ≤ at2 ∧ at2 ≤ n) ∧ w'.heap[gr]? = some (.cells #[.slice A n c, .int .i64 ((at2 : Nat) : Int), .bool bad2] 56 (0, 0)) ∧ w'.heap[gf]? = some (.cells (Mur.frmP F Z).flatten.toArray 39 (0, 0)) ∧ Mur.LiesF w' Z F ∧ Z.In (fun g => w.heap.size ≤ g) ∧ F.kind = kd ∧ ((∃ c, Mur.Step (Mur.readC kd.toNat) b at_ bad at2 bad2 c ∧ F = ofCon a d c ∧ Mur.inC c) ∨ ((kd.toNat < 1 ∨ 6 < kd.toNat) ∧ F = headM kd ((a : Nat) : Int) ((d : Nat) : Int) ∧ at2 = at_ ∧ bad2 = bad)) ∧ Chg [gr, gf] w w' := by
 have hgfl_ := (Array.getElem?_eq_some_iff.1 hf).1
 have hne : ∀ g off, A = some ⟨g, off, none⟩ → 0 < n → g ≠ gr := fun g off e hn => hneb _ e hn
 have hbl_ := hb.1
 have hn_ := hn
 have hgl_ := (Array.getElem?_eq_some_iff.1 hr).1
 have hne2 : ∀ g off, A = some ⟨g, off, none⟩ → 0 < n → g ≠ gr ∧ g ≠ gf := fun g off e hn => ⟨hneb _ e hn, hnef _ e hn⟩
 refine calls_of_wp Tryd.func18 rfl ?_
 refine wp_seq (reg ?_)
 refine rP 0 5 (pt gf 0) ?_
 refine rP 1 6 (pt gf 0) ?_
 refine rP 2 7 (pt gf 0) ?_
 refine rQ 3 8 _ rfl rfl (ld 5 7 gf 0 (.int .u8 ((kd.toNat : Nat) : Int)) (show World.cell? _ ⟨_, 0 + 0, _⟩ = _ from segs_cell (frmL_sz rfl rfl rfl rfl rfl rfl) (range_row hf) 0 rfl rfl)) ?_
 refine rEnd 4 rfl (nxt (wp_block (wp_seq (reg ?_))))
 by_cases hx1 : ((kd.toNat : Nat) : Int) = (1 : Int)
 ·refine rQ 0 10 _ rfl rfl (qboolT (b := (((kd.toNat : Nat) : Int) == (1 : Int))) (beq_iff_eq.2 (by first | exact hx1 | omega))) ?_
  refine rP 1 9 (.bool true) ?_
  refine rEnd 2 rfl (nxt (wp_cond_true (by kernel_rfl) (wp_seq ?_)))
  refine dReg ([gr, gf]) (by kernel_rfl) ?_
  intro W1 ch1 sz1
  have zz1 := ch1.size
  have sS1 : Chg ([gr, gf]) W1 W1 := (Chg.refl _).more (by simp)
  refine dW 0 11 (pt gf 0) sS1 ?_
  refine dW 1 12 (pt gf 0) sS1 ?_
  refine dW 2 13 (pt gf 0) sS1 ?_
  refine dW 3 14 (pt gf 2) sS1 ?_
  refine dW 5 16 (pt gr 0) sS1 ?_
  refine dOp2 4 6 (by kernel_rfl) ?_ ?_
  ·refine Wk.oVal (some 15) (.int .i64 ((d : Nat) : Int)) rfl rfl (by kernel_rfl) (ld 3 14 gf 2 (.int .i64 ((d : Nat) : Int)) (show World.cell? _ ⟨_, 0 + 2, _⟩ = _ from segs_cell (frmL_sz rfl rfl rfl rfl rfl rfl) (range_row (Chg.hp ch1 hf trivial)) 2 rfl rfl)) ?_
   refine ⟨sS1, ?_⟩
   refine dOp 6 (by kernel_rfl) ?_
   refine oCall (some 17) 16 [.tmp 16] #[54] [pt gr 0] rfl rfl (by kernel_rfl) rfl (by kernel_rfl) (by kernel_rfl) ?_
   have kk1 : Chg [gr, gf] (w) W1 := Chg.step ((Chg.refl _).more (by simp)) ch1 trivial
   refine (Rkind_any gr A n c b at_ bad W1 (Chg.hp ch1 hr trivial) (byt_chgp hb kk1 (fun g off e hn hl => ⟨by have := hne2 g off e hn; omega, ⟨by have := hne2 g off e hn; omega, trivial⟩⟩)) ⟨by omega, by omega⟩ hneb (by omega) (by omega)).mono ?_
   rintro _ W2 ⟨at1, bad1, v1, rfl, hat1, hr1, hst1, hlt1, ch2⟩
   have zz2 := ch2.size
   have sS2 := Chg.step sS1 ch2 ⟨.inl (by simp), trivial⟩
   refine ⟨_, rfl, sS2, ?_⟩
   refine dW 7 18 (.agg #[.int .i64 ((d : Nat) : Int), .int .u8 (((UInt8.ofNat v1).toNat : Nat) : Int), .int .u64 0, .int .i64 0, .slice none 0 0]) sS2 ?_
   refine dW 8 19 (pt gf 0) sS2 ?_
   refine dW 9 20 (pt gf 3) sS2 ?_
   refine dOp 10 (by kernel_rfl) ?_
   refine oExS none _ rfl rfl (by kernel_rfl) (store_segs 27 (.tmp 20) (.tmp 18) rfl 3 (by kernel_rfl) [.int .i64 ((d : Nat) : Int), .int .u8 (((UInt8.ofNat v1).toNat : Nat) : Int), .int .u64 0, .int .i64 0, .slice none 0 0] (by kernel_rfl) (by kernel_rfl) (by intro v hv; simp only [List.mem_cons, List.not_mem_nil, or_false] at hv; rcases hv with h | h | h | h | h <;> (subst h; rfl)) 39 (frmL_sz rfl rfl rfl rfl rfl rfl) (Chg.hp ch2 (Chg.hp ch1 hf trivial) ⟨by omega, trivial⟩) 3 [[.int .i64 ((d : Nat) : Int)], [.int .u8 (((UInt8.ofNat v1).toNat : Nat) : Int)], [.int .u64 0], [.int .i64 0], [.slice none 0 0]] rfl rfl rfl (frmL kd ((a : Nat) : Int) ((d : Nat) : Int) ((d : Nat) : Int) (UInt8.ofNat v1) 0 0 sl0 0 sl0 z32 0 sl0 false z32 0 0 0 false z32 z32 0 z32 z32 0 sl0 sl0) rfl) ?_
   rintro W3 ⟨hb1, ch3⟩
   have zz3 := ch3.size
   have sS3 := Chg.step sS2 ch3 ⟨.inl (by simp), trivial⟩
   refine ⟨sS3, ?_⟩
   refine dEnd (by kernel_rfl) (nxt (wp_seq (reg ?_)))
   refine rP 0 21 (pt gf 0) ?_
   refine rP 1 22 (pt gr 0) ?_
   refine rC 2 23 34 [.tmp 22] #[54] [pt gr 0] ?_
   have kk2 := Chg.step kk1 ch2 ⟨.inl (by simp), trivial⟩
   have kk3 := Chg.step kk2 ch3 ⟨.inl (by simp), trivial⟩
   refine (Ruint_any gr A n c b at1 bad1 W3 (Chg.hp ch3 hr1 ⟨by omega, trivial⟩) (byt_chgp hb kk3 (fun g off e hn hl => ⟨by have := hne2 g off e hn; omega, ⟨by have := hne2 g off e hn; omega, trivial⟩⟩)) ⟨by omega, by omega⟩ hneb (by omega) (by omega)).mono ?_
   rintro _ W4 ⟨at2, bad2, v2, rfl, hat2, hr2, hst2, hlt2, ch4⟩
   have zz4 := ch4.size
   refine ⟨_, rfl, ?_⟩
   refine rP 3 24 (pt gf 0) ?_
   refine rP 4 25 (pt gf 3) ?_
   refine rP 5 26 (pt gf 5) ?_
   refine rY 6 rfl rfl (store_seg1 24 (.tmp 26) (.tmp 23) rfl (by kernel_rfl) 5 (by kernel_rfl) (.int .u64 ((v2 : Nat) : Int)) (by kernel_rfl) rfl 39 (frmL_sz rfl rfl rfl rfl rfl rfl) (Chg.hp ch4 hb1 ⟨by omega, trivial⟩) 5 rfl rfl (frmL kd ((a : Nat) : Int) ((d : Nat) : Int) ((d : Nat) : Int) (UInt8.ofNat v1) v2 0 sl0 0 sl0 z32 0 sl0 false z32 0 0 0 false z32 z32 0 z32 z32 0 sl0 sl0) rfl) ?_
   rintro W5 ⟨hb2, ch5⟩
   have zz5 := ch5.size
   refine rEnd 7 rfl (nxt (wp_seq (reg ?_)))
   refine rP 0 27 (pt gf 0) ?_
   refine rP 1 28 (pt gr 0) ?_
   refine rC 2 29 17 [.tmp 28] #[54] [pt gr 0] ?_
   have kk4 := Chg.step kk3 ch4 ⟨.inl (by simp), trivial⟩
   have kk5 := Chg.step kk4 ch5 ⟨.inl (by simp), trivial⟩
   refine (Rint_any gr A n c b at2 bad2 W5 (Chg.hp ch5 hr2 ⟨by omega, trivial⟩) (byt_chgp hb kk5 (fun g off e hn hl => ⟨by have := hne2 g off e hn; omega, ⟨by have := hne2 g off e hn; omega, trivial⟩⟩)) ⟨by omega, by omega⟩ hneb (by omega) (by omega)).mono ?_
   rintro _ W6 ⟨at3, bad3, v3, rfl, hat3, hr3, hst3, hlt3, ch6⟩
   have zz6 := ch6.size
   refine ⟨_, rfl, ?_⟩
   refine rP 3 30 (pt gf 0) ?_
   refine rP 4 31 (pt gf 3) ?_
   refine rP 5 32 (pt gf 6) ?_
   refine rY 6 rfl rfl (store_seg1 3 (.tmp 32) (.tmp 29) rfl (by kernel_rfl) 6 (by kernel_rfl) (.int .i64 ((v3 : Nat) : Int)) (by kernel_rfl) rfl 39 (frmL_sz rfl rfl rfl rfl rfl rfl) (Chg.hp ch6 hb2 ⟨by omega, trivial⟩) 6 rfl rfl (frmL kd ((a : Nat) : Int) ((d : Nat) : Int) ((d : Nat) : Int) (UInt8.ofNat v1) v2 ((v3 : Nat) : Int) sl0 0 sl0 z32 0 sl0 false z32 0 0 0 false z32 z32 0 z32 z32 0 sl0 sl0) rfl) ?_
   rintro W7 ⟨hb3, ch7⟩
   have zz7 := ch7.size
   refine rEnd 7 rfl (nxt (reg ?_))
   refine rP 0 33 (pt gf 0) ?_
   refine rP 1 34 (pt gr 0) ?_
   refine rP 2 35 (pt gr 0) ?_
   refine rP 3 36 (.func (.func 36) #[pt gr 0] #[]) ?_
   refine rC 4 37 35 [.tmp 34, .tmp 36] #[54, 83] [pt gr 0, .func (.func 36) #[pt gr 0] #[]] ?_
   have kk6 := Chg.step kk5 ch6 ⟨.inl (by simp), trivial⟩
   have kk7 := Chg.step kk6 ch7 ⟨.inl (by simp), trivial⟩
   refine (SeveralU_any gr A n c b at3 bad3 W7 (Chg.hp ch7 hr3 ⟨by omega, trivial⟩) (byt_chgp hb kk7 (fun g off e hn hl => ⟨by have := hne2 g off e hn; omega, ⟨by have := hne2 g off e hn; omega, trivial⟩⟩)) ⟨by omega, by omega⟩ hneb (by omega) (by omega)).mono ?_
   rintro _ W8 ⟨at4, bad4, AA1, nn1, cc1, l1, rfl, hat4, hr4, hst4, ⟨ow1, hQ1⟩, ch8⟩
   have zz8 := ch8.size
   have ltR1 := ow1.at_
   have hq1 := ow1.nc
   have hq2 := ow1.cm
   have hq3 := ow1.len
   refine ⟨_, rfl, ?_⟩
   refine rP 5 38 (pt gf 0) ?_
   refine rP 6 39 (pt gf 3) ?_
   refine rP 7 40 (pt gf 7) ?_
   refine rY 8 rfl rfl (store_seg1 25 (.tmp 40) (.tmp 37) rfl (by kernel_rfl) 7 (by kernel_rfl) (.slice AA1 nn1 cc1) (by kernel_rfl) rfl 39 (frmL_sz rfl rfl rfl rfl rfl rfl) (Chg.hp ch8 hb3 ⟨by omega, trivial⟩) 7 rfl rfl (frmL kd ((a : Nat) : Int) ((d : Nat) : Int) ((d : Nat) : Int) (UInt8.ofNat v1) v2 ((v3 : Nat) : Int) ⟨AA1, nn1, cc1⟩ 0 sl0 z32 0 sl0 false z32 0 0 0 false z32 z32 0 z32 z32 0 sl0 sl0) rfl) ?_
   rintro W10 ⟨hb4, ch9⟩
   have zz9 := ch9.size
   refine rEnd 9 rfl (inN ?_)
   have kk8 := Chg.step kk7 ch8 ⟨.inl (by simp), trivial⟩
   have kk9 := Chg.step kk8 ch9 ⟨.inl (by simp), trivial⟩
   have hgf1 := hb4
   obtain rfl : kd = 1 := UInt8.toNat_inj.1 (by have h_ : (1 : UInt8).toNat = 1 := rfl; omega)
   refine Wk.retN (.tuple #[]) rfl (by kernel_rfl) ?_
   exact ⟨at4, bad4, ofCon a d (.probe v1 v2 v3 l1), ⟨⟨AA1, nn1, cc1⟩, sl0, sl0, sl0, sl0⟩, rfl, ⟨by omega, by omega⟩, (Chg.hp ch9 hr4 ⟨by omega, trivial⟩), hgf1, lies_probe (u := ⟨AA1, nn1, cc1⟩) (Mur.SlR.keepQ ow1.slR ch9 (fun g off e hl => ⟨by have := ltR1 g off e; omega, trivial⟩)) ⟨ow1.nil, ow1.nc, ow1.cm⟩, ⟨(fun g off e => by have := ow1.at_ g off e; omega), sl0_in, sl0_in, sl0_in, sl0_in⟩, rfl, .inl ⟨.probe v1 v2 v3 l1, (show Mur.Step (Mur.readC 1) _ _ _ _ _ _ from (show Mur.Step Mur.readPr _ _ _ _ _ _ from Mur.Step.map (hst1.seq (hst2.seq (hst3.seq hst4))) (fun y : Nat × Nat × Nat × List Mur.Upd => Mur.Cont.probe y.1 y.2.1 y.2.2.1 y.2.2.2))), rfl, ⟨by omega, by omega, hQ1⟩⟩, kk9⟩
  refine oCall (some 17) 16 [.tmp 16] #[54] [pt gr 0] rfl rfl (by kernel_rfl) rfl (by kernel_rfl) (by kernel_rfl) ?_
  have kk10 : Chg [gr, gf] (w) W1 := Chg.step ((Chg.refl _).more (by simp)) ch1 trivial
  refine (Rkind_any gr A n c b at_ bad W1 (Chg.hp ch1 hr trivial) (byt_chgp hb kk10 (fun g off e hn hl => ⟨by have := hne2 g off e hn; omega, ⟨by have := hne2 g off e hn; omega, trivial⟩⟩)) ⟨by omega, by omega⟩ hneb (by omega) (by omega)).mono ?_
  rintro _ W11 ⟨at5, bad5, v4, rfl, hat5, hr5, hst5, hlt4, ch10⟩
  have zz10 := ch10.size
  have sS4 := Chg.step sS1 ch10 ⟨.inl (by simp), trivial⟩
  refine ⟨_, rfl, sS4, ?_⟩
  refine dOp 4 (by kernel_rfl) ?_
  refine Wk.oVal (some 15) (.int .i64 ((d : Nat) : Int)) rfl rfl (by kernel_rfl) (ld 3 14 gf 2 (.int .i64 ((d : Nat) : Int)) (show World.cell? _ ⟨_, 0 + 2, _⟩ = _ from segs_cell (frmL_sz rfl rfl rfl rfl rfl rfl) (range_row (Chg.hp ch10 (Chg.hp ch1 hf trivial) ⟨by omega, trivial⟩)) 2 rfl rfl)) ?_
  refine ⟨sS4, ?_⟩
  refine dW 7 18 (.agg #[.int .i64 ((d : Nat) : Int), .int .u8 (((UInt8.ofNat v4).toNat : Nat) : Int), .int .u64 0, .int .i64 0, .slice none 0 0]) sS4 ?_
  refine dW 8 19 (pt gf 0) sS4 ?_
  refine dW 9 20 (pt gf 3) sS4 ?_
  refine dOp 10 (by kernel_rfl) ?_
  refine oExS none _ rfl rfl (by kernel_rfl) (store_segs 27 (.tmp 20) (.tmp 18) rfl 3 (by kernel_rfl) [.int .i64 ((d : Nat) : Int), .int .u8 (((UInt8.ofNat v4).toNat : Nat) : Int), .int .u64 0, .int .i64 0, .slice none 0 0] (by kernel_rfl) (by kernel_rfl) (by intro v hv; simp only [List.mem_cons, List.not_mem_nil, or_false] at hv; rcases hv with h | h | h | h | h <;> (subst h; rfl)) 39 (frmL_sz rfl rfl rfl rfl rfl rfl) (Chg.hp ch10 (Chg.hp ch1 hf trivial) ⟨by omega, trivial⟩) 3 [[.int .i64 ((d : Nat) : Int)], [.int .u8 (((UInt8.ofNat v4).toNat : Nat) : Int)], [.int .u64 0], [.int .i64 0], [.slice none 0 0]] rfl rfl rfl (frmL kd ((a : Nat) : Int) ((d : Nat) : Int) ((d : Nat) : Int) (UInt8.ofNat v4) 0 0 sl0 0 sl0 z32 0 sl0 false z32 0 0 0 false z32 z32 0 z32 z32 0 sl0 sl0) rfl) ?_
  rintro W12 ⟨hb5, ch11⟩
  have zz11 := ch11.size
  have sS5 := Chg.step sS4 ch11 ⟨.inl (by simp), trivial⟩
  refine ⟨sS5, ?_⟩
  refine dEnd (by kernel_rfl) (nxt (wp_seq (reg ?_)))
  refine rP 0 21 (pt gf 0) ?_
  refine rP 1 22 (pt gr 0) ?_
  refine rC 2 23 34 [.tmp 22] #[54] [pt gr 0] ?_
  have kk11 := Chg.step kk10 ch10 ⟨.inl (by simp), trivial⟩
  have kk12 := Chg.step kk11 ch11 ⟨.inl (by simp), trivial⟩
  refine (Ruint_any gr A n c b at5 bad5 W12 (Chg.hp ch11 hr5 ⟨by omega, trivial⟩) (byt_chgp hb kk12 (fun g off e hn hl => ⟨by have := hne2 g off e hn; omega, ⟨by have := hne2 g off e hn; omega, trivial⟩⟩)) ⟨by omega, by omega⟩ hneb (by omega) (by omega)).mono ?_
  rintro _ W13 ⟨at6, bad6, v5, rfl, hat6, hr6, hst6, hlt5, ch12⟩
  have zz12 := ch12.size
  refine ⟨_, rfl, ?_⟩
  refine rP 3 24 (pt gf 0) ?_
  refine rP 4 25 (pt gf 3) ?_
  refine rP 5 26 (pt gf 5) ?_
  refine rY 6 rfl rfl (store_seg1 24 (.tmp 26) (.tmp 23) rfl (by kernel_rfl) 5 (by kernel_rfl) (.int .u64 ((v5 : Nat) : Int)) (by kernel_rfl) rfl 39 (frmL_sz rfl rfl rfl rfl rfl rfl) (Chg.hp ch12 hb5 ⟨by omega, trivial⟩) 5 rfl rfl (frmL kd ((a : Nat) : Int) ((d : Nat) : Int) ((d : Nat) : Int) (UInt8.ofNat v4) v5 0 sl0 0 sl0 z32 0 sl0 false z32 0 0 0 false z32 z32 0 z32 z32 0 sl0 sl0) rfl) ?_
  rintro W14 ⟨hb6, ch13⟩
  have zz13 := ch13.size
  refine rEnd 7 rfl (nxt (wp_seq (reg ?_)))
  refine rP 0 27 (pt gf 0) ?_
  refine rP 1 28 (pt gr 0) ?_
  refine rC 2 29 17 [.tmp 28] #[54] [pt gr 0] ?_
  have kk13 := Chg.step kk12 ch12 ⟨.inl (by simp), trivial⟩
  have kk14 := Chg.step kk13 ch13 ⟨.inl (by simp), trivial⟩
  refine (Rint_any gr A n c b at6 bad6 W14 (Chg.hp ch13 hr6 ⟨by omega, trivial⟩) (byt_chgp hb kk14 (fun g off e hn hl => ⟨by have := hne2 g off e hn; omega, ⟨by have := hne2 g off e hn; omega, trivial⟩⟩)) ⟨by omega, by omega⟩ hneb (by omega) (by omega)).mono ?_
  rintro _ W15 ⟨at7, bad7, v6, rfl, hat7, hr7, hst7, hlt6, ch14⟩
  have zz14 := ch14.size
  refine ⟨_, rfl, ?_⟩
  refine rP 3 30 (pt gf 0) ?_
  refine rP 4 31 (pt gf 3) ?_
  refine rP 5 32 (pt gf 6) ?_
  refine rY 6 rfl rfl (store_seg1 3 (.tmp 32) (.tmp 29) rfl (by kernel_rfl) 6 (by kernel_rfl) (.int .i64 ((v6 : Nat) : Int)) (by kernel_rfl) rfl 39 (frmL_sz rfl rfl rfl rfl rfl rfl) (Chg.hp ch14 hb6 ⟨by omega, trivial⟩) 6 rfl rfl (frmL kd ((a : Nat) : Int) ((d : Nat) : Int) ((d : Nat) : Int) (UInt8.ofNat v4) v5 ((v6 : Nat) : Int) sl0 0 sl0 z32 0 sl0 false z32 0 0 0 false z32 z32 0 z32 z32 0 sl0 sl0) rfl) ?_
  rintro W16 ⟨hb7, ch15⟩
  have zz15 := ch15.size
  refine rEnd 7 rfl (nxt (reg ?_))
  refine rP 0 33 (pt gf 0) ?_
  refine rP 1 34 (pt gr 0) ?_
  refine rP 2 35 (pt gr 0) ?_
  refine rP 3 36 (.func (.func 36) #[pt gr 0] #[]) ?_
  refine rC 4 37 35 [.tmp 34, .tmp 36] #[54, 83] [pt gr 0, .func (.func 36) #[pt gr 0] #[]] ?_
  have kk15 := Chg.step kk14 ch14 ⟨.inl (by simp), trivial⟩
  have kk16 := Chg.step kk15 ch15 ⟨.inl (by simp), trivial⟩
  refine (SeveralU_any gr A n c b at7 bad7 W16 (Chg.hp ch15 hr7 ⟨by omega, trivial⟩) (byt_chgp hb kk16 (fun g off e hn hl => ⟨by have := hne2 g off e hn; omega, ⟨by have := hne2 g off e hn; omega, trivial⟩⟩)) ⟨by omega, by omega⟩ hneb (by omega) (by omega)).mono ?_
  rintro _ W17 ⟨at8, bad8, AA2, nn2, cc2, l2, rfl, hat8, hr8, hst8, ⟨ow2, hQ2⟩, ch16⟩
  have zz16 := ch16.size
  have ltR2 := ow2.at_
  have hq4 := ow2.nc
  have hq5 := ow2.cm
  have hq6 := ow2.len
  refine ⟨_, rfl, ?_⟩
  refine rP 5 38 (pt gf 0) ?_
  refine rP 6 39 (pt gf 3) ?_
  refine rP 7 40 (pt gf 7) ?_
  refine rY 8 rfl rfl (store_seg1 25 (.tmp 40) (.tmp 37) rfl (by kernel_rfl) 7 (by kernel_rfl) (.slice AA2 nn2 cc2) (by kernel_rfl) rfl 39 (frmL_sz rfl rfl rfl rfl rfl rfl) (Chg.hp ch16 hb7 ⟨by omega, trivial⟩) 7 rfl rfl (frmL kd ((a : Nat) : Int) ((d : Nat) : Int) ((d : Nat) : Int) (UInt8.ofNat v4) v5 ((v6 : Nat) : Int) ⟨AA2, nn2, cc2⟩ 0 sl0 z32 0 sl0 false z32 0 0 0 false z32 z32 0 z32 z32 0 sl0 sl0) rfl) ?_
  rintro W18 ⟨hb8, ch17⟩
  have zz17 := ch17.size
  refine rEnd 9 rfl (inN ?_)
  have kk17 := Chg.step kk16 ch16 ⟨.inl (by simp), trivial⟩
  have kk18 := Chg.step kk17 ch17 ⟨.inl (by simp), trivial⟩
  have hgf2 := hb8
  obtain rfl : kd = 1 := UInt8.toNat_inj.1 (by have h_ : (1 : UInt8).toNat = 1 := rfl; omega)
  refine Wk.retN (.tuple #[]) rfl (by kernel_rfl) ?_
  exact ⟨at8, bad8, ofCon a d (.probe v4 v5 v6 l2), ⟨⟨AA2, nn2, cc2⟩, sl0, sl0, sl0, sl0⟩, rfl, ⟨by omega, by omega⟩, (Chg.hp ch17 hr8 ⟨by omega, trivial⟩), hgf2, lies_probe (u := ⟨AA2, nn2, cc2⟩) (Mur.SlR.keepQ ow2.slR ch17 (fun g off e hl => ⟨by have := ltR2 g off e; omega, trivial⟩)) ⟨ow2.nil, ow2.nc, ow2.cm⟩, ⟨(fun g off e => by have := ow2.at_ g off e; omega), sl0_in, sl0_in, sl0_in, sl0_in⟩, rfl, .inl ⟨.probe v4 v5 v6 l2, (show Mur.Step (Mur.readC 1) _ _ _ _ _ _ from (show Mur.Step Mur.readPr _ _ _ _ _ _ from Mur.Step.map (hst5.seq (hst6.seq (hst7.seq hst8))) (fun y : Nat × Nat × Nat × List Mur.Upd => Mur.Cont.probe y.1 y.2.1 y.2.2.1 y.2.2.2))), rfl, ⟨by omega, by omega, hQ2⟩⟩, kk18⟩
 refine rQ 0 10 _ rfl rfl (qboolF (b := (((kd.toNat : Nat) : Int) == (1 : Int))) (beq_eq_false_iff_ne.2 (by first | exact hx1 | omega))) ?_
 refine rP 1 9 (.bool false) ?_
 refine rEnd 2 rfl (nxt (wp_cond_false (by kernel_rfl) (wp_seq (reg ?_))))
 by_cases hx2 : ((kd.toNat : Nat) : Int) = (2 : Int)
 ·refine rQ 0 42 _ rfl rfl (qboolT (b := (((kd.toNat : Nat) : Int) == (2 : Int))) (beq_iff_eq.2 (by first | exact hx2 | omega))) ?_
  refine rP 1 41 (.bool true) ?_
  refine rEnd 2 rfl (nxt (wp_cond_true (by kernel_rfl) (wp_seq (reg ?_))))
  refine rP 0 43 (pt gf 0) ?_
  refine rP 1 44 (pt gf 0) ?_
  refine rP 2 45 (pt gf 8) ?_
  refine rP 3 4 (pt gf 8) ?_
  refine rEnd 4 rfl (nxt (wp_seq (reg ?_)))
  refine rP 0 46 (pt gf 8) ?_
  refine rP 1 47 (pt gr 0) ?_
  refine rC 2 48 16 [.tmp 47] #[54] [pt gr 0] ?_
  refine (Rkind_any gr A n c b at_ bad w hr hb ⟨by omega, by omega⟩ hneb (by omega) (by omega)).mono ?_
  rintro _ W19 ⟨at9, bad9, v7, rfl, hat9, hr9, hst9, hlt7, ch18⟩
  have zz18 := ch18.size
  refine ⟨_, rfl, ?_⟩
  refine rP 3 49 (pt gf 8) ?_
  refine rP 4 50 (pt gf 8) ?_
  refine rY 5 rfl rfl (store_seg1 5 (.tmp 50) (.tmp 48) rfl (by kernel_rfl) 8 (by kernel_rfl) (.int .u8 (((UInt8.ofNat v7).toNat : Nat) : Int)) (by kernel_rfl) rfl 39 (frmL_sz rfl rfl rfl rfl rfl rfl) (Chg.hp ch18 hf ⟨by omega, trivial⟩) 8 rfl rfl (frmL kd ((a : Nat) : Int) ((d : Nat) : Int) 0 0 0 0 sl0 (UInt8.ofNat v7) sl0 z32 0 sl0 false z32 0 0 0 false z32 z32 0 z32 z32 0 sl0 sl0) rfl) ?_
  rintro W20 ⟨hb9, ch19⟩
  have zz19 := ch19.size
  refine rEnd 6 rfl (nxt (wp_seq (reg ?_)))
  refine rP 0 51 (pt gf 8) ?_
  refine rP 1 52 (pt gr 0) ?_
  refine rC 2 53 37 [.tmp 52] #[54] [pt gr 0] ?_
  have kk19 : Chg [gr, gf] (w) W19 := Chg.step ((Chg.refl _).more (by simp)) ch18 ⟨.inl (by simp), trivial⟩
  have kk20 := Chg.step kk19 ch19 ⟨.inl (by simp), trivial⟩
  refine (Rbytes_of gr A n c b at9 bad9 W20 (Chg.hp ch19 hr9 ⟨by omega, trivial⟩) (byt_chgp hb kk20 (fun g off e hn hl => ⟨by have := hne2 g off e hn; omega, ⟨by have := hne2 g off e hn; omega, trivial⟩⟩)) ⟨by omega, by omega⟩ hneb (by omega) (by omega)).mono ?_
  rintro _ W21 ⟨at10, bad10, AA3, nn3, cc3, x1, rfl, hat10, hr10, hst10, ow3, ch20⟩
  have zz20 := ch20.size
  have lt81 := ow3.at_
  have hq7 := ow3.byt.1
  have hq8 := ow3.nc
  have hq9 := ow3.cm
  refine ⟨_, rfl, ?_⟩
  refine rP 3 54 (pt gf 8) ?_
  refine rP 4 55 (pt gf 9) ?_
  refine rY 5 rfl rfl (store_seg1 22 (.tmp 55) (.tmp 53) rfl (by kernel_rfl) 9 (by kernel_rfl) (.slice AA3 nn3 cc3) (by kernel_rfl) rfl 39 (frmL_sz rfl rfl rfl rfl rfl rfl) (Chg.hp ch20 hb9 ⟨by omega, trivial⟩) 9 rfl rfl (frmL kd ((a : Nat) : Int) ((d : Nat) : Int) 0 0 0 0 sl0 (UInt8.ofNat v7) ⟨AA3, nn3, cc3⟩ z32 0 sl0 false z32 0 0 0 false z32 z32 0 z32 z32 0 sl0 sl0) rfl) ?_
  rintro W22 ⟨hb10, ch21⟩
  have zz21 := ch21.size
  refine rEnd 6 rfl (nxt (wp_seq (reg ?_)))
  refine rP 0 56 (pt gf 8) ?_
  refine rP 1 57 (pt gf 8) ?_
  refine rP 2 58 (pt gf 8) ?_
  refine rQ 3 59 _ rfl rfl (ld 5 58 gf 8 (.int .u8 (((UInt8.ofNat v7).toNat : Nat) : Int)) (show World.cell? _ ⟨_, 0 + 8, _⟩ = _ from segs_cell (frmL_sz rfl rfl rfl rfl rfl rfl) (range_row hb10) 8 rfl rfl)) ?_
  by_cases hx3 : (((UInt8.ofNat v7).toNat : Nat) : Int) = (1 : Int)
  ·refine rQ 4 60 _ rfl rfl (qboolT (b := ((((UInt8.ofNat v7).toNat : Nat) : Int) == (1 : Int))) (beq_iff_eq.2 (by first | exact hx3 | omega))) ?_
   refine rEnd 5 rfl (nxt (wp_cond_true (by kernel_rfl) (wp_seq (reg ?_))))
   refine rP 0 61 (pt gf 8) ?_
   refine rP 1 62 (pt gr 0) ?_
   refine rC 2 63 20 [.tmp 62] #[54] [pt gr 0] ?_
   have kk21 := Chg.step kk20 ch20 ⟨.inl (by simp), trivial⟩
   have kk22 := Chg.step kk21 ch21 ⟨.inl (by simp), trivial⟩
   refine (Rdigest_any gr A n c b at10 bad10 W22 (Chg.hp ch21 hr10 ⟨by omega, trivial⟩) (byt_chgp hb kk22 (fun g off e hn hl => ⟨by have := hne2 g off e hn; omega, ⟨by have := hne2 g off e hn; omega, trivial⟩⟩)) ⟨by omega, by omega⟩ hneb (by omega) (by omega)).mono ?_
   rintro _ W23 ⟨at11, bad11, x2, rfl, hat11, hr11, hst11, hl1, ch22⟩
   have zz22 := ch22.size
   refine ⟨_, rfl, ?_⟩
   refine rP 3 64 (pt gf 8) ?_
   refine rP 4 65 (pt gf 10) ?_
   refine rY 5 rfl rfl (store_segs 29 (.tmp 65) (.tmp 63) rfl 10 (by kernel_rfl) (b8s x2) (by kernel_rfl) (by rw [b8s_length, hl1]; kernel_rfl) (b8s_one x2) 39 (frmL_sz rfl rfl rfl rfl rfl rfl) (Chg.hp ch22 hb10 ⟨by omega, trivial⟩) 10 [b8s x2] (by simp) rfl (by rw [b8s_length, hl1]; rfl) (frmL kd ((a : Nat) : Int) ((d : Nat) : Int) 0 0 0 0 sl0 (UInt8.ofNat v7) ⟨AA3, nn3, cc3⟩ x2 0 sl0 false z32 0 0 0 false z32 z32 0 z32 z32 0 sl0 sl0) rfl) ?_
   rintro W24 ⟨hb11, ch23⟩
   have zz23 := ch23.size
   refine rEnd 6 rfl (nxt (reg ?_))
   refine rP 0 66 (pt gf 8) ?_
   refine rP 1 67 (pt gr 0) ?_
   refine rC 2 68 17 [.tmp 67] #[54] [pt gr 0] ?_
   have kk23 := Chg.step kk22 ch22 ⟨.inl (by simp), trivial⟩
   have kk24 := Chg.step kk23 ch23 ⟨.inl (by simp), trivial⟩
   refine (Rint_any gr A n c b at11 bad11 W24 (Chg.hp ch23 hr11 ⟨by omega, trivial⟩) (byt_chgp hb kk24 (fun g off e hn hl => ⟨by have := hne2 g off e hn; omega, ⟨by have := hne2 g off e hn; omega, trivial⟩⟩)) ⟨by omega, by omega⟩ hneb (by omega) (by omega)).mono ?_
   rintro _ W25 ⟨at12, bad12, v8, rfl, hat12, hr12, hst12, hlt8, ch24⟩
   have zz24 := ch24.size
   refine ⟨_, rfl, ?_⟩
   refine rP 3 69 (pt gf 8) ?_
   refine rP 4 70 (pt gf 42) ?_
   refine rY 5 rfl rfl (store_seg1 3 (.tmp 70) (.tmp 68) rfl (by kernel_rfl) 42 (by kernel_rfl) (.int .i64 ((v8 : Nat) : Int)) (by kernel_rfl) rfl 39 (frmL_sz hl1 rfl rfl rfl rfl rfl) (Chg.hp ch24 hb11 ⟨by omega, trivial⟩) 11 rfl rfl (frmL kd ((a : Nat) : Int) ((d : Nat) : Int) 0 0 0 0 sl0 (UInt8.ofNat v7) ⟨AA3, nn3, cc3⟩ x2 ((v8 : Nat) : Int) sl0 false z32 0 0 0 false z32 z32 0 z32 z32 0 sl0 sl0) rfl) ?_
   rintro W26 ⟨hb12, ch25⟩
   have zz25 := ch25.size
   refine rEnd 6 rfl (inN ?_)
   have kk25 := Chg.step kk24 ch24 ⟨.inl (by simp), trivial⟩
   have kk26 := Chg.step kk25 ch25 ⟨.inl (by simp), trivial⟩
   have hgf3 := hb12
   obtain rfl : kd = 2 := UInt8.toNat_inj.1 (by have h_ : (2 : UInt8).toNat = 2 := rfl; omega)
   have hk1_ : UInt8.ofNat v7 = 1 := UInt8.toNat_inj.1 (by have h_ : (1 : UInt8).toNat = 1 := rfl; omega)
   rw [hk1_] at hgf3
   refine Wk.retN (.tuple #[]) rfl (by kernel_rfl) ?_
   exact ⟨at12, bad12, ofCon a d (.sum x1 x2 v8), ⟨sl0, ⟨AA3, nn3, cc3⟩, sl0, sl0, sl0⟩, rfl, ⟨by omega, by omega⟩, (Chg.hp ch25 hr12 ⟨by omega, trivial⟩), hgf3, Mur.lies_sum (p := ⟨AA3, nn3, cc3⟩) (byt_chg (byt_chg (byt_chg (byt_chg (byt_chg ow3.byt ch21 (fun g off e hl => ⟨by have := lt81 g off e; omega, trivial⟩)) ch22 (fun g off e hl => ⟨by have := lt81 g off e; omega, trivial⟩)) ch23 (fun g off e hl => ⟨by have := lt81 g off e; omega, trivial⟩)) ch24 (fun g off e hl => ⟨by have := lt81 g off e; omega, trivial⟩)) ch25 (fun g off e hl => ⟨by have := lt81 g off e; omega, trivial⟩)) ⟨ow3.nil, ow3.nc, ow3.cm⟩, ⟨sl0_in, (fun g off e => by have := ow3.at_ g off e; omega), sl0_in, sl0_in, sl0_in⟩, rfl, .inl ⟨.sum x1 x2 v8, (show Mur.Step (Mur.readC 2) _ _ _ _ _ _ from Mur.Step.gos_sum hst9 (show Mur.Step Mur.readSm _ _ _ _ _ _ from Mur.Step.map (hst10.seq (hst11.seq hst12)) (fun y : List UInt8 × List UInt8 × Nat => Mur.Cont.sum y.1 y.2.1 y.2.2)) hk1_), rfl, ⟨hl1, by omega⟩⟩, kk26⟩
  refine rQ 4 60 _ rfl rfl (qboolF (b := ((((UInt8.ofNat v7).toNat : Nat) : Int) == (1 : Int))) (beq_eq_false_iff_ne.2 (by first | exact hx3 | omega))) ?_
  refine rEnd 5 rfl (nxt (wp_cond_false (by kernel_rfl) (wp_seq (reg ?_))))
  refine rP 0 71 (pt gf 8) ?_
  refine rP 1 72 (pt gr 0) ?_
  refine rP 2 73 (pt gr 0) ?_
  refine rP 3 74 (.func (.func 39) #[pt gr 0] #[]) ?_
  refine rC 4 75 38 [.tmp 72, .tmp 74] #[54, 87] [pt gr 0, .func (.func 39) #[pt gr 0] #[]] ?_
  have kk27 := Chg.step kk20 ch20 ⟨.inl (by simp), trivial⟩
  have kk28 := Chg.step kk27 ch21 ⟨.inl (by simp), trivial⟩
  refine (SeveralA_any gr A n c b at10 bad10 W22 (Chg.hp ch21 hr10 ⟨by omega, trivial⟩) (byt_chgp hb kk28 (fun g off e hn hl => ⟨by have := hne2 g off e hn; omega, ⟨by have := hne2 g off e hn; omega, trivial⟩⟩)) ⟨by omega, by omega⟩ hneb (by omega) (by omega)).mono ?_
  rintro _ W27 ⟨at13, bad13, AA4, nn4, cc4, l3, rfl, hat13, hr13, hst13, ⟨ow4, hQ3⟩, ch26⟩
  have zz26 := ch26.size
  have ltR3 := ow4.at_
  have hq10 := ow4.nc
  have hq11 := ow4.cm
  have hq12 := ow4.len
  refine ⟨_, rfl, ?_⟩
  refine rP 5 76 (pt gf 8) ?_
  refine rP 6 77 (pt gf 43) ?_
  refine rY 7 rfl rfl (store_seg1 30 (.tmp 77) (.tmp 75) rfl (by kernel_rfl) 43 (by kernel_rfl) (.slice AA4 nn4 cc4) (by kernel_rfl) rfl 39 (frmL_sz rfl rfl rfl rfl rfl rfl) (Chg.hp ch26 hb10 ⟨by omega, trivial⟩) 12 rfl rfl (frmL kd ((a : Nat) : Int) ((d : Nat) : Int) 0 0 0 0 sl0 (UInt8.ofNat v7) ⟨AA3, nn3, cc3⟩ z32 0 ⟨AA4, nn4, cc4⟩ false z32 0 0 0 false z32 z32 0 z32 z32 0 sl0 sl0) rfl) ?_
  rintro W28 ⟨hb13, ch27⟩
  have zz27 := ch27.size
  refine rEnd 8 rfl (nxt (reg ?_))
  refine rP 0 78 (pt gf 8) ?_
  refine rP 1 79 (pt gr 0) ?_
  refine rC 2 80 40 [.tmp 79] #[54] [pt gr 0] ?_
  have kk29 := Chg.step kk28 ch26 ⟨.inl (by simp), trivial⟩
  have kk30 := Chg.step kk29 ch27 ⟨.inl (by simp), trivial⟩
  refine (Rflag_any gr A n c b at13 bad13 W28 (Chg.hp ch27 hr13 ⟨by omega, trivial⟩) (byt_chgp hb kk30 (fun g off e hn hl => ⟨by have := hne2 g off e hn; omega, ⟨by have := hne2 g off e hn; omega, trivial⟩⟩)) ⟨by omega, by omega⟩ hneb (by omega) (by omega)).mono ?_
  rintro _ W29 ⟨at14, bad14, fl1, rfl, hat14, hr14, hst14, ch28⟩
  have zz28 := ch28.size
  refine ⟨_, rfl, ?_⟩
  refine rP 3 81 (pt gf 8) ?_
  refine rP 4 82 (pt gf 44) ?_
  refine rY 5 rfl rfl (store_seg1 4 (.tmp 82) (.tmp 80) rfl (by kernel_rfl) 44 (by kernel_rfl) (.bool fl1) (by kernel_rfl) rfl 39 (frmL_sz rfl rfl rfl rfl rfl rfl) (Chg.hp ch28 hb13 ⟨by omega, trivial⟩) 13 rfl rfl (frmL kd ((a : Nat) : Int) ((d : Nat) : Int) 0 0 0 0 sl0 (UInt8.ofNat v7) ⟨AA3, nn3, cc3⟩ z32 0 ⟨AA4, nn4, cc4⟩ fl1 z32 0 0 0 false z32 z32 0 z32 z32 0 sl0 sl0) rfl) ?_
  rintro W30 ⟨hb14, ch29⟩
  have zz29 := ch29.size
  refine rEnd 6 rfl (inN ?_)
  have kk31 := Chg.step kk30 ch28 ⟨.inl (by simp), trivial⟩
  have kk32 := Chg.step kk31 ch29 ⟨.inl (by simp), trivial⟩
  have hgf4 := hb14
  obtain rfl : kd = 2 := UInt8.toNat_inj.1 (by have h_ : (2 : UInt8).toNat = 2 := rfl; omega)
  have hk1_ : ¬ UInt8.ofNat v7 = 1 := fun e_ => by have h_ : (UInt8.ofNat v7).toNat = 1 := congrArg UInt8.toNat e_; omega
  refine Wk.retN (.tuple #[]) rfl (by kernel_rfl) ?_
  exact ⟨at14, bad14, ofCon a d (.items v7 x1 l3 fl1), ⟨sl0, ⟨AA3, nn3, cc3⟩, ⟨AA4, nn4, cc4⟩, sl0, sl0⟩, rfl, ⟨by omega, by omega⟩, (Chg.hp ch29 hr14 ⟨by omega, trivial⟩), hgf4, Mur.lies_items (p := ⟨AA3, nn3, cc3⟩) (i := ⟨AA4, nn4, cc4⟩) (byt_chg (byt_chg (byt_chg (byt_chg (byt_chg ow3.byt ch21 (fun g off e hl => ⟨by have := lt81 g off e; omega, trivial⟩)) ch26 (fun g off e hl => ⟨by have := lt81 g off e; omega, trivial⟩)) ch27 (fun g off e hl => ⟨by have := lt81 g off e; omega, trivial⟩)) ch28 (fun g off e hl => ⟨by have := lt81 g off e; omega, trivial⟩)) ch29 (fun g off e hl => ⟨by have := lt81 g off e; omega, trivial⟩)) ⟨ow3.nil, ow3.nc, ow3.cm⟩ (Mur.SlR.keepQ (Mur.SlR.keepQ (Mur.SlR.keepQ ow4.slR ch27 (fun g off e hl => ⟨by have := ltR3 g off e; omega, trivial⟩)) ch28 (fun g off e hl => ⟨by have := ltR3 g off e; omega, trivial⟩)) ch29 (fun g off e hl => ⟨by have := ltR3 g off e; omega, trivial⟩)) ⟨ow4.nil, ow4.nc, ow4.cm⟩, ⟨sl0_in, (fun g off e => by have := ow3.at_ g off e; omega), (fun g off e => by have := ow4.at_ g off e; omega), sl0_in, sl0_in⟩, rfl, .inl ⟨.items v7 x1 l3 fl1, (show Mur.Step (Mur.readC 2) _ _ _ _ _ _ from Mur.Step.gos_items hst9 (show Mur.Step (Mur.readIt v7) _ _ _ _ _ _ from Mur.Step.map (hst10.seq (hst13.seq hst14)) (fun y : List UInt8 × List Att × Bool => Mur.Cont.items v7 y.1 y.2.1 y.2.2)) hk1_), rfl, trivial⟩, kk32⟩
 refine rQ 0 42 _ rfl rfl (qboolF (b := (((kd.toNat : Nat) : Int) == (2 : Int))) (beq_eq_false_iff_ne.2 (by first | exact hx2 | omega))) ?_
 refine rP 1 41 (.bool false) ?_
 refine rEnd 2 rfl (nxt (wp_cond_false (by kernel_rfl) (wp_seq (reg ?_))))
 by_cases hx4 : ((kd.toNat : Nat) : Int) = (3 : Int)
 ·refine rQ 0 84 _ rfl rfl (qboolT (b := (((kd.toNat : Nat) : Int) == (3 : Int))) (beq_iff_eq.2 (by first | exact hx4 | omega))) ?_
  refine rP 1 83 (.bool true) ?_
  refine rEnd 2 rfl (nxt (wp_cond_true (by kernel_rfl) (wp_seq ?_)))
  refine dReg ([gr, gf]) (by kernel_rfl) ?_
  intro W31 ch30 sz2
  have zz30 := ch30.size
  have sS6 : Chg ([gr, gf]) W31 W31 := (Chg.refl _).more (by simp)
  refine dW 0 85 (pt gf 0) sS6 ?_
  refine dW 1 86 (pt gf 0) sS6 ?_
  refine dW 2 87 (pt gf 0) sS6 ?_
  refine dW 3 88 (pt gf 1) sS6 ?_
  refine dW 5 90 (pt gr 0) sS6 ?_
  refine dOp2 4 6 (by kernel_rfl) ?_ ?_
  ·refine Wk.oVal (some 89) (.int .i64 ((a : Nat) : Int)) rfl rfl (by kernel_rfl) (ld 3 88 gf 1 (.int .i64 ((a : Nat) : Int)) (show World.cell? _ ⟨_, 0 + 1, _⟩ = _ from segs_cell (frmL_sz rfl rfl rfl rfl rfl rfl) (range_row (Chg.hp ch30 hf trivial)) 1 rfl rfl)) ?_
   refine ⟨sS6, ?_⟩
   refine dOp 6 (by kernel_rfl) ?_
   refine oCall (some 91) 20 [.tmp 90] #[54] [pt gr 0] rfl rfl (by kernel_rfl) rfl (by kernel_rfl) (by kernel_rfl) ?_
   have kk33 : Chg [gr, gf] (w) W31 := Chg.step ((Chg.refl _).more (by simp)) ch30 trivial
   refine (Rdigest_any gr A n c b at_ bad W31 (Chg.hp ch30 hr trivial) (byt_chgp hb kk33 (fun g off e hn hl => ⟨by have := hne2 g off e hn; omega, ⟨by have := hne2 g off e hn; omega, trivial⟩⟩)) ⟨by omega, by omega⟩ hneb (by omega) (by omega)).mono ?_
   rintro _ W32 ⟨at15, bad15, x3, rfl, hat15, hr15, hst15, hl2, ch31⟩
   have zz31 := ch31.size
   have sS7 := Chg.step sS6 ch31 ⟨.inl (by simp), trivial⟩
   refine ⟨_, rfl, sS7, ?_⟩
   refine dV 7 92 (.agg ((Mur.claimC x3 ((a : Nat) : Int) 0 0 false).toArray)) rfl rfl (fun w' hw' => (run_built 34 _ rfl [(1, .int .i64 ((a : Nat) : Int)), (0, .agg ((b8s x3).toArray))] (by kernel_rfl) _ (built_claim hl2 ((a : Nat) : Int)))) sS7 ?_
   refine dW 8 93 (pt gf 0) sS7 ?_
   refine dW 9 94 (pt gf 45) sS7 ?_
   refine dOp 10 (by kernel_rfl) ?_
   refine oExS none _ rfl rfl (by kernel_rfl) (store_segs 34 (.tmp 94) (.tmp 92) rfl 45 (by kernel_rfl) (Mur.claimC x3 ((a : Nat) : Int) 0 0 false) (by kernel_rfl) (by rw [claimC_length hl2]; kernel_rfl) claimC_one 39 (frmL_sz rfl rfl rfl rfl rfl rfl) (Chg.hp ch31 (Chg.hp ch30 hf trivial) ⟨by omega, trivial⟩) 14 [b8s x3, [.int .i64 ((a : Nat) : Int)], [.int .u64 0], [.int .u64 0], [.bool false]] rfl rfl (by rw [claimC_length hl2]; rfl) (frmL kd ((a : Nat) : Int) ((d : Nat) : Int) 0 0 0 0 sl0 0 sl0 z32 0 sl0 false x3 ((a : Nat) : Int) 0 0 false z32 z32 0 z32 z32 0 sl0 sl0) rfl) ?_
   rintro W33 ⟨hb15, ch32⟩
   have zz32 := ch32.size
   have sS8 := Chg.step sS7 ch32 ⟨.inl (by simp), trivial⟩
   refine ⟨sS8, ?_⟩
   refine dEnd (by kernel_rfl) (nxt (wp_seq (reg ?_)))
   refine rP 0 95 (pt gf 0) ?_
   refine rP 1 96 (pt gr 0) ?_
   refine rC 2 97 34 [.tmp 96] #[54] [pt gr 0] ?_
   have kk34 := Chg.step kk33 ch31 ⟨.inl (by simp), trivial⟩
   have kk35 := Chg.step kk34 ch32 ⟨.inl (by simp), trivial⟩
   refine (Ruint_any gr A n c b at15 bad15 W33 (Chg.hp ch32 hr15 ⟨by omega, trivial⟩) (byt_chgp hb kk35 (fun g off e hn hl => ⟨by have := hne2 g off e hn; omega, ⟨by have := hne2 g off e hn; omega, trivial⟩⟩)) ⟨by omega, by omega⟩ hneb (by omega) (by omega)).mono ?_
   rintro _ W34 ⟨at16, bad16, v9, rfl, hat16, hr16, hst16, hlt9, ch33⟩
   have zz33 := ch33.size
   refine ⟨_, rfl, ?_⟩
   refine rP 3 98 (pt gf 0) ?_
   refine rP 4 99 (pt gf 45) ?_
   refine rP 5 100 (pt gf 78) ?_
   refine rY 6 rfl rfl (store_seg1 24 (.tmp 100) (.tmp 97) rfl (by kernel_rfl) 78 (by kernel_rfl) (.int .u64 ((v9 : Nat) : Int)) (by kernel_rfl) rfl 39 (frmL_sz rfl hl2 rfl rfl rfl rfl) (Chg.hp ch33 hb15 ⟨by omega, trivial⟩) 16 rfl rfl (frmL kd ((a : Nat) : Int) ((d : Nat) : Int) 0 0 0 0 sl0 0 sl0 z32 0 sl0 false x3 ((a : Nat) : Int) v9 0 false z32 z32 0 z32 z32 0 sl0 sl0) rfl) ?_
   rintro W35 ⟨hb16, ch34⟩
   have zz34 := ch34.size
   refine rEnd 7 rfl (nxt (wp_seq (reg ?_)))
   refine rP 0 101 (pt gf 0) ?_
   refine rP 1 102 (pt gr 0) ?_
   refine rC 2 103 34 [.tmp 102] #[54] [pt gr 0] ?_
   have kk36 := Chg.step kk35 ch33 ⟨.inl (by simp), trivial⟩
   have kk37 := Chg.step kk36 ch34 ⟨.inl (by simp), trivial⟩
   refine (Ruint_any gr A n c b at16 bad16 W35 (Chg.hp ch34 hr16 ⟨by omega, trivial⟩) (byt_chgp hb kk37 (fun g off e hn hl => ⟨by have := hne2 g off e hn; omega, ⟨by have := hne2 g off e hn; omega, trivial⟩⟩)) ⟨by omega, by omega⟩ hneb (by omega) (by omega)).mono ?_
   rintro _ W36 ⟨at17, bad17, v10, rfl, hat17, hr17, hst17, hlt10, ch35⟩
   have zz35 := ch35.size
   refine ⟨_, rfl, ?_⟩
   refine rP 3 104 (pt gf 0) ?_
   refine rP 4 105 (pt gf 45) ?_
   refine rP 5 106 (pt gf 79) ?_
   refine rY 6 rfl rfl (store_seg1 24 (.tmp 106) (.tmp 103) rfl (by kernel_rfl) 79 (by kernel_rfl) (.int .u64 ((v10 : Nat) : Int)) (by kernel_rfl) rfl 39 (frmL_sz rfl hl2 rfl rfl rfl rfl) (Chg.hp ch35 hb16 ⟨by omega, trivial⟩) 17 rfl rfl (frmL kd ((a : Nat) : Int) ((d : Nat) : Int) 0 0 0 0 sl0 0 sl0 z32 0 sl0 false x3 ((a : Nat) : Int) v9 v10 false z32 z32 0 z32 z32 0 sl0 sl0) rfl) ?_
   rintro W37 ⟨hb17, ch36⟩
   have zz36 := ch36.size
   refine rEnd 7 rfl (nxt (reg ?_))
   refine rP 0 107 (pt gf 0) ?_
   refine rP 1 108 (pt gr 0) ?_
   refine rC 2 109 40 [.tmp 108] #[54] [pt gr 0] ?_
   have kk38 := Chg.step kk37 ch35 ⟨.inl (by simp), trivial⟩
   have kk39 := Chg.step kk38 ch36 ⟨.inl (by simp), trivial⟩
   refine (Rflag_any gr A n c b at17 bad17 W37 (Chg.hp ch36 hr17 ⟨by omega, trivial⟩) (byt_chgp hb kk39 (fun g off e hn hl => ⟨by have := hne2 g off e hn; omega, ⟨by have := hne2 g off e hn; omega, trivial⟩⟩)) ⟨by omega, by omega⟩ hneb (by omega) (by omega)).mono ?_
   rintro _ W38 ⟨at18, bad18, fl2, rfl, hat18, hr18, hst18, ch37⟩
   have zz37 := ch37.size
   refine ⟨_, rfl, ?_⟩
   refine rP 3 110 (pt gf 0) ?_
   refine rP 4 111 (pt gf 45) ?_
   refine rP 5 112 (pt gf 80) ?_
   refine rY 6 rfl rfl (store_seg1 4 (.tmp 112) (.tmp 109) rfl (by kernel_rfl) 80 (by kernel_rfl) (.bool fl2) (by kernel_rfl) rfl 39 (frmL_sz rfl hl2 rfl rfl rfl rfl) (Chg.hp ch37 hb17 ⟨by omega, trivial⟩) 18 rfl rfl (frmL kd ((a : Nat) : Int) ((d : Nat) : Int) 0 0 0 0 sl0 0 sl0 z32 0 sl0 false x3 ((a : Nat) : Int) v9 v10 fl2 z32 z32 0 z32 z32 0 sl0 sl0) rfl) ?_
   rintro W39 ⟨hb18, ch38⟩
   have zz38 := ch38.size
   refine rEnd 7 rfl (inN ?_)
   have kk40 := Chg.step kk39 ch37 ⟨.inl (by simp), trivial⟩
   have kk41 := Chg.step kk40 ch38 ⟨.inl (by simp), trivial⟩
   have hgf5 := hb18
   obtain rfl : kd = 3 := UInt8.toNat_inj.1 (by have h_ : (3 : UInt8).toNat = 3 := rfl; omega)
   refine Wk.retN (.tuple #[]) rfl (by kernel_rfl) ?_
   exact ⟨at18, bad18, ofCon a d (.claim x3 v9 v10 fl2), zs0, rfl, ⟨by omega, by omega⟩, (Chg.hp ch38 hr18 ⟨by omega, trivial⟩), hgf5, lies_none rfl rfl rfl rfl rfl, ⟨sl0_in, sl0_in, sl0_in, sl0_in, sl0_in⟩, rfl, .inl ⟨.claim x3 v9 v10 fl2, (show Mur.Step (Mur.readC 3) _ _ _ _ _ _ from (show Mur.Step Mur.readCl _ _ _ _ _ _ from Mur.Step.map (hst15.seq (hst16.seq (hst17.seq hst18))) (fun y : List UInt8 × Nat × Nat × Bool => Mur.Cont.claim y.1 y.2.1 y.2.2.1 y.2.2.2))), rfl, ⟨hl2, by omega, by omega⟩⟩, kk41⟩
  refine oCall (some 91) 20 [.tmp 90] #[54] [pt gr 0] rfl rfl (by kernel_rfl) rfl (by kernel_rfl) (by kernel_rfl) ?_
  have kk42 : Chg [gr, gf] (w) W31 := Chg.step ((Chg.refl _).more (by simp)) ch30 trivial
  refine (Rdigest_any gr A n c b at_ bad W31 (Chg.hp ch30 hr trivial) (byt_chgp hb kk42 (fun g off e hn hl => ⟨by have := hne2 g off e hn; omega, ⟨by have := hne2 g off e hn; omega, trivial⟩⟩)) ⟨by omega, by omega⟩ hneb (by omega) (by omega)).mono ?_
  rintro _ W40 ⟨at19, bad19, x4, rfl, hat19, hr19, hst19, hl3, ch39⟩
  have zz39 := ch39.size
  have sS9 := Chg.step sS6 ch39 ⟨.inl (by simp), trivial⟩
  refine ⟨_, rfl, sS9, ?_⟩
  refine dOp 4 (by kernel_rfl) ?_
  refine Wk.oVal (some 89) (.int .i64 ((a : Nat) : Int)) rfl rfl (by kernel_rfl) (ld 3 88 gf 1 (.int .i64 ((a : Nat) : Int)) (show World.cell? _ ⟨_, 0 + 1, _⟩ = _ from segs_cell (frmL_sz rfl rfl rfl rfl rfl rfl) (range_row (Chg.hp ch39 (Chg.hp ch30 hf trivial) ⟨by omega, trivial⟩)) 1 rfl rfl)) ?_
  refine ⟨sS9, ?_⟩
  refine dV 7 92 (.agg ((Mur.claimC x4 ((a : Nat) : Int) 0 0 false).toArray)) rfl rfl (fun w' hw' => (run_built 34 _ rfl [(1, .int .i64 ((a : Nat) : Int)), (0, .agg ((b8s x4).toArray))] (by kernel_rfl) _ (built_claim hl3 ((a : Nat) : Int)))) sS9 ?_
  refine dW 8 93 (pt gf 0) sS9 ?_
  refine dW 9 94 (pt gf 45) sS9 ?_
  refine dOp 10 (by kernel_rfl) ?_
  refine oExS none _ rfl rfl (by kernel_rfl) (store_segs 34 (.tmp 94) (.tmp 92) rfl 45 (by kernel_rfl) (Mur.claimC x4 ((a : Nat) : Int) 0 0 false) (by kernel_rfl) (by rw [claimC_length hl3]; kernel_rfl) claimC_one 39 (frmL_sz rfl rfl rfl rfl rfl rfl) (Chg.hp ch39 (Chg.hp ch30 hf trivial) ⟨by omega, trivial⟩) 14 [b8s x4, [.int .i64 ((a : Nat) : Int)], [.int .u64 0], [.int .u64 0], [.bool false]] rfl rfl (by rw [claimC_length hl3]; rfl) (frmL kd ((a : Nat) : Int) ((d : Nat) : Int) 0 0 0 0 sl0 0 sl0 z32 0 sl0 false x4 ((a : Nat) : Int) 0 0 false z32 z32 0 z32 z32 0 sl0 sl0) rfl) ?_
  rintro W41 ⟨hb19, ch40⟩
  have zz40 := ch40.size
  have sS10 := Chg.step sS9 ch40 ⟨.inl (by simp), trivial⟩
  refine ⟨sS10, ?_⟩
  refine dEnd (by kernel_rfl) (nxt (wp_seq (reg ?_)))
  refine rP 0 95 (pt gf 0) ?_
  refine rP 1 96 (pt gr 0) ?_
  refine rC 2 97 34 [.tmp 96] #[54] [pt gr 0] ?_
  have kk43 := Chg.step kk42 ch39 ⟨.inl (by simp), trivial⟩
  have kk44 := Chg.step kk43 ch40 ⟨.inl (by simp), trivial⟩
  refine (Ruint_any gr A n c b at19 bad19 W41 (Chg.hp ch40 hr19 ⟨by omega, trivial⟩) (byt_chgp hb kk44 (fun g off e hn hl => ⟨by have := hne2 g off e hn; omega, ⟨by have := hne2 g off e hn; omega, trivial⟩⟩)) ⟨by omega, by omega⟩ hneb (by omega) (by omega)).mono ?_
  rintro _ W42 ⟨at20, bad20, v11, rfl, hat20, hr20, hst20, hlt11, ch41⟩
  have zz41 := ch41.size
  refine ⟨_, rfl, ?_⟩
  refine rP 3 98 (pt gf 0) ?_
  refine rP 4 99 (pt gf 45) ?_
  refine rP 5 100 (pt gf 78) ?_
  refine rY 6 rfl rfl (store_seg1 24 (.tmp 100) (.tmp 97) rfl (by kernel_rfl) 78 (by kernel_rfl) (.int .u64 ((v11 : Nat) : Int)) (by kernel_rfl) rfl 39 (frmL_sz rfl hl3 rfl rfl rfl rfl) (Chg.hp ch41 hb19 ⟨by omega, trivial⟩) 16 rfl rfl (frmL kd ((a : Nat) : Int) ((d : Nat) : Int) 0 0 0 0 sl0 0 sl0 z32 0 sl0 false x4 ((a : Nat) : Int) v11 0 false z32 z32 0 z32 z32 0 sl0 sl0) rfl) ?_
  rintro W43 ⟨hb20, ch42⟩
  have zz42 := ch42.size
  refine rEnd 7 rfl (nxt (wp_seq (reg ?_)))
  refine rP 0 101 (pt gf 0) ?_
  refine rP 1 102 (pt gr 0) ?_
  refine rC 2 103 34 [.tmp 102] #[54] [pt gr 0] ?_
  have kk45 := Chg.step kk44 ch41 ⟨.inl (by simp), trivial⟩
  have kk46 := Chg.step kk45 ch42 ⟨.inl (by simp), trivial⟩
  refine (Ruint_any gr A n c b at20 bad20 W43 (Chg.hp ch42 hr20 ⟨by omega, trivial⟩) (byt_chgp hb kk46 (fun g off e hn hl => ⟨by have := hne2 g off e hn; omega, ⟨by have := hne2 g off e hn; omega, trivial⟩⟩)) ⟨by omega, by omega⟩ hneb (by omega) (by omega)).mono ?_
  rintro _ W44 ⟨at21, bad21, v12, rfl, hat21, hr21, hst21, hlt12, ch43⟩
  have zz43 := ch43.size
  refine ⟨_, rfl, ?_⟩
  refine rP 3 104 (pt gf 0) ?_
  refine rP 4 105 (pt gf 45) ?_
  refine rP 5 106 (pt gf 79) ?_
  refine rY 6 rfl rfl (store_seg1 24 (.tmp 106) (.tmp 103) rfl (by kernel_rfl) 79 (by kernel_rfl) (.int .u64 ((v12 : Nat) : Int)) (by kernel_rfl) rfl 39 (frmL_sz rfl hl3 rfl rfl rfl rfl) (Chg.hp ch43 hb20 ⟨by omega, trivial⟩) 17 rfl rfl (frmL kd ((a : Nat) : Int) ((d : Nat) : Int) 0 0 0 0 sl0 0 sl0 z32 0 sl0 false x4 ((a : Nat) : Int) v11 v12 false z32 z32 0 z32 z32 0 sl0 sl0) rfl) ?_
  rintro W45 ⟨hb21, ch44⟩
  have zz44 := ch44.size
  refine rEnd 7 rfl (nxt (reg ?_))
  refine rP 0 107 (pt gf 0) ?_
  refine rP 1 108 (pt gr 0) ?_
  refine rC 2 109 40 [.tmp 108] #[54] [pt gr 0] ?_
  have kk47 := Chg.step kk46 ch43 ⟨.inl (by simp), trivial⟩
  have kk48 := Chg.step kk47 ch44 ⟨.inl (by simp), trivial⟩
  refine (Rflag_any gr A n c b at21 bad21 W45 (Chg.hp ch44 hr21 ⟨by omega, trivial⟩) (byt_chgp hb kk48 (fun g off e hn hl => ⟨by have := hne2 g off e hn; omega, ⟨by have := hne2 g off e hn; omega, trivial⟩⟩)) ⟨by omega, by omega⟩ hneb (by omega) (by omega)).mono ?_
  rintro _ W46 ⟨at22, bad22, fl3, rfl, hat22, hr22, hst22, ch45⟩
  have zz45 := ch45.size
  refine ⟨_, rfl, ?_⟩
  refine rP 3 110 (pt gf 0) ?_
  refine rP 4 111 (pt gf 45) ?_
  refine rP 5 112 (pt gf 80) ?_
  refine rY 6 rfl rfl (store_seg1 4 (.tmp 112) (.tmp 109) rfl (by kernel_rfl) 80 (by kernel_rfl) (.bool fl3) (by kernel_rfl) rfl 39 (frmL_sz rfl hl3 rfl rfl rfl rfl) (Chg.hp ch45 hb21 ⟨by omega, trivial⟩) 18 rfl rfl (frmL kd ((a : Nat) : Int) ((d : Nat) : Int) 0 0 0 0 sl0 0 sl0 z32 0 sl0 false x4 ((a : Nat) : Int) v11 v12 fl3 z32 z32 0 z32 z32 0 sl0 sl0) rfl) ?_
  rintro W47 ⟨hb22, ch46⟩
  have zz46 := ch46.size
  refine rEnd 7 rfl (inN ?_)
  have kk49 := Chg.step kk48 ch45 ⟨.inl (by simp), trivial⟩
  have kk50 := Chg.step kk49 ch46 ⟨.inl (by simp), trivial⟩
  have hgf6 := hb22
  obtain rfl : kd = 3 := UInt8.toNat_inj.1 (by have h_ : (3 : UInt8).toNat = 3 := rfl; omega)
  refine Wk.retN (.tuple #[]) rfl (by kernel_rfl) ?_
  exact ⟨at22, bad22, ofCon a d (.claim x4 v11 v12 fl3), zs0, rfl, ⟨by omega, by omega⟩, (Chg.hp ch46 hr22 ⟨by omega, trivial⟩), hgf6, lies_none rfl rfl rfl rfl rfl, ⟨sl0_in, sl0_in, sl0_in, sl0_in, sl0_in⟩, rfl, .inl ⟨.claim x4 v11 v12 fl3, (show Mur.Step (Mur.readC 3) _ _ _ _ _ _ from (show Mur.Step Mur.readCl _ _ _ _ _ _ from Mur.Step.map (hst19.seq (hst20.seq (hst21.seq hst22))) (fun y : List UInt8 × Nat × Nat × Bool => Mur.Cont.claim y.1 y.2.1 y.2.2.1 y.2.2.2))), rfl, ⟨hl3, by omega, by omega⟩⟩, kk50⟩
 refine rQ 0 84 _ rfl rfl (qboolF (b := (((kd.toNat : Nat) : Int) == (3 : Int))) (beq_eq_false_iff_ne.2 (by first | exact hx4 | omega))) ?_
 refine rP 1 83 (.bool false) ?_
 refine rEnd 2 rfl (nxt (wp_cond_false (by kernel_rfl) (wp_seq (reg ?_))))
 by_cases hx5 : ((kd.toNat : Nat) : Int) = (4 : Int)
 ·refine rQ 0 114 _ rfl rfl (qboolT (b := (((kd.toNat : Nat) : Int) == (4 : Int))) (beq_iff_eq.2 (by first | exact hx5 | omega))) ?_
  refine rP 1 113 (.bool true) ?_
  refine rEnd 2 rfl (nxt (wp_cond_true (by kernel_rfl) (reg ?_)))
  refine rP 0 115 (pt gf 0) ?_
  refine rP 1 116 (pt gr 0) ?_
  refine rC 2 117 39 [.tmp 116] #[54] [pt gr 0] ?_
  refine (Rattest_any gr A n c b at_ bad w hr hb ⟨by omega, by omega⟩ hneb (by omega) (by omega)).mono ?_
  rintro _ W48 ⟨at23, bad23, y1, rfl, hat23, hr23, hst23, ch47⟩
  have zz47 := ch47.size
  refine ⟨_, rfl, ?_⟩
  refine rP 3 118 (pt gf 0) ?_
  refine rP 4 119 (pt gf 81) ?_
  refine rY 5 rfl rfl (store_segs 36 (.tmp 119) (.tmp 117) rfl 81 (by kernel_rfl) (Mur.attC y1.k y1.r y1.n y1.t) (by kernel_rfl) (by rw [attC_length y1.hk y1.hr y1.ht]; kernel_rfl) Mur.attC_one 39 (frmL_sz rfl rfl rfl rfl rfl rfl) (Chg.hp ch47 hf ⟨by omega, trivial⟩) 19 [b8s y1.k, b8s y1.r, [.int .i64 y1.n], b8s y1.t] (Mur.att_parts _ _ _ _) rfl (by rw [attC_length y1.hk y1.hr y1.ht]; rfl) (frmL kd ((a : Nat) : Int) ((d : Nat) : Int) 0 0 0 0 sl0 0 sl0 z32 0 sl0 false z32 0 0 0 false y1.k y1.r y1.n y1.t z32 0 sl0 sl0) rfl) ?_
  rintro W49 ⟨hb23, ch48⟩
  have zz48 := ch48.size
  refine rEnd 6 rfl (inN ?_)
  have kk51 : Chg [gr, gf] (w) W48 := Chg.step ((Chg.refl _).more (by simp)) ch47 ⟨.inl (by simp), trivial⟩
  have kk52 := Chg.step kk51 ch48 ⟨.inl (by simp), trivial⟩
  have hgf7 := hb23
  obtain rfl : kd = 4 := UInt8.toNat_inj.1 (by have h_ : (4 : UInt8).toNat = 4 := rfl; omega)
  refine Wk.retN (.tuple #[]) rfl (by kernel_rfl) ?_
  exact ⟨at23, bad23, ofCon a d (.result y1), zs0, rfl, ⟨by omega, by omega⟩, (Chg.hp ch48 hr23 ⟨by omega, trivial⟩), hgf7, lies_none rfl rfl rfl rfl rfl, ⟨sl0_in, sl0_in, sl0_in, sl0_in, sl0_in⟩, rfl, .inl ⟨.result y1, (show Mur.Step (Mur.readC 4) _ _ _ _ _ _ from (show Mur.Step Mur.readRe _ _ _ _ _ _ from Mur.Step.map hst23 (fun y : Att => Mur.Cont.result y))), rfl, trivial⟩, kk52⟩
 refine rQ 0 114 _ rfl rfl (qboolF (b := (((kd.toNat : Nat) : Int) == (4 : Int))) (beq_eq_false_iff_ne.2 (by first | exact hx5 | omega))) ?_
 refine rP 1 113 (.bool false) ?_
 refine rEnd 2 rfl (nxt (wp_cond_false (by kernel_rfl) (wp_seq (reg ?_))))
 by_cases hx6 : ((kd.toNat : Nat) : Int) = (5 : Int)
 ·refine rQ 0 121 _ rfl rfl (qboolT (b := (((kd.toNat : Nat) : Int) == (5 : Int))) (beq_iff_eq.2 (by first | exact hx6 | omega))) ?_
  refine rP 1 120 (.bool true) ?_
  refine rEnd 2 rfl (nxt (wp_cond_true (by kernel_rfl) (wp_seq (reg ?_))))
  refine rP 0 122 (pt gf 0) ?_
  refine rP 1 123 (pt gr 0) ?_
  refine rC 2 124 20 [.tmp 123] #[54] [pt gr 0] ?_
  refine (Rdigest_any gr A n c b at_ bad w hr hb ⟨by omega, by omega⟩ hneb (by omega) (by omega)).mono ?_
  rintro _ W50 ⟨at24, bad24, x5, rfl, hat24, hr24, hst24, hl4, ch49⟩
  have zz49 := ch49.size
  refine ⟨_, rfl, ?_⟩
  refine rP 3 125 (pt gf 0) ?_
  refine rP 4 126 (pt gf 178) ?_
  refine rY 5 rfl rfl (store_segs 29 (.tmp 126) (.tmp 124) rfl 178 (by kernel_rfl) (b8s x5) (by kernel_rfl) (by rw [b8s_length, hl4]; kernel_rfl) (b8s_one x5) 39 (frmL_sz rfl rfl rfl rfl rfl rfl) (Chg.hp ch49 hf ⟨by omega, trivial⟩) 23 [b8s x5] (by simp) rfl (by rw [b8s_length, hl4]; rfl) (frmL kd ((a : Nat) : Int) ((d : Nat) : Int) 0 0 0 0 sl0 0 sl0 z32 0 sl0 false z32 0 0 0 false z32 z32 0 z32 x5 0 sl0 sl0) rfl) ?_
  rintro W51 ⟨hb24, ch50⟩
  have zz50 := ch50.size
  refine rEnd 6 rfl (nxt (reg ?_))
  refine rP 0 127 (pt gf 0) ?_
  refine rP 1 128 (pt gr 0) ?_
  refine rC 2 129 17 [.tmp 128] #[54] [pt gr 0] ?_
  have kk53 : Chg [gr, gf] (w) W50 := Chg.step ((Chg.refl _).more (by simp)) ch49 ⟨.inl (by simp), trivial⟩
  have kk54 := Chg.step kk53 ch50 ⟨.inl (by simp), trivial⟩
  refine (Rint_any gr A n c b at24 bad24 W51 (Chg.hp ch50 hr24 ⟨by omega, trivial⟩) (byt_chgp hb kk54 (fun g off e hn hl => ⟨by have := hne2 g off e hn; omega, ⟨by have := hne2 g off e hn; omega, trivial⟩⟩)) ⟨by omega, by omega⟩ hneb (by omega) (by omega)).mono ?_
  rintro _ W52 ⟨at25, bad25, v13, rfl, hat25, hr25, hst25, hlt13, ch51⟩
  have zz51 := ch51.size
  refine ⟨_, rfl, ?_⟩
  refine rP 3 130 (pt gf 0) ?_
  refine rP 4 131 (pt gf 210) ?_
  refine rY 5 rfl rfl (store_seg1 3 (.tmp 131) (.tmp 129) rfl (by kernel_rfl) 210 (by kernel_rfl) (.int .i64 ((v13 : Nat) : Int)) (by kernel_rfl) rfl 39 (frmL_sz rfl rfl rfl rfl rfl hl4) (Chg.hp ch51 hb24 ⟨by omega, trivial⟩) 24 rfl rfl (frmL kd ((a : Nat) : Int) ((d : Nat) : Int) 0 0 0 0 sl0 0 sl0 z32 0 sl0 false z32 0 0 0 false z32 z32 0 z32 x5 ((v13 : Nat) : Int) sl0 sl0) rfl) ?_
  rintro W53 ⟨hb25, ch52⟩
  have zz52 := ch52.size
  refine rEnd 6 rfl (inN ?_)
  have kk55 := Chg.step kk54 ch51 ⟨.inl (by simp), trivial⟩
  have kk56 := Chg.step kk55 ch52 ⟨.inl (by simp), trivial⟩
  have hgf8 := hb25
  obtain rfl : kd = 5 := UInt8.toNat_inj.1 (by have h_ : (5 : UInt8).toNat = 5 := rfl; omega)
  refine Wk.retN (.tuple #[]) rfl (by kernel_rfl) ?_
  exact ⟨at25, bad25, ofCon a d (.want x5 v13), zs0, rfl, ⟨by omega, by omega⟩, (Chg.hp ch52 hr25 ⟨by omega, trivial⟩), hgf8, lies_none rfl rfl rfl rfl rfl, ⟨sl0_in, sl0_in, sl0_in, sl0_in, sl0_in⟩, rfl, .inl ⟨.want x5 v13, (show Mur.Step (Mur.readC 5) _ _ _ _ _ _ from (show Mur.Step Mur.readWa _ _ _ _ _ _ from Mur.Step.map (hst24.seq hst25) (fun y : List UInt8 × Nat => Mur.Cont.want y.1 y.2))), rfl, ⟨hl4, by omega⟩⟩, kk56⟩
 refine rQ 0 121 _ rfl rfl (qboolF (b := (((kd.toNat : Nat) : Int) == (5 : Int))) (beq_eq_false_iff_ne.2 (by first | exact hx6 | omega))) ?_
 refine rP 1 120 (.bool false) ?_
 refine rEnd 2 rfl (nxt (wp_cond_false (by kernel_rfl) (wp_seq (reg ?_))))
 by_cases hx7 : ((kd.toNat : Nat) : Int) = (6 : Int)
 ·refine rQ 0 133 _ rfl rfl (qboolT (b := (((kd.toNat : Nat) : Int) == (6 : Int))) (beq_iff_eq.2 (by first | exact hx7 | omega))) ?_
  refine rP 1 132 (.bool true) ?_
  refine rEnd 2 rfl (nxt (wp_cond_true (by kernel_rfl) (wp_seq (reg ?_))))
  refine rP 0 134 (pt gf 0) ?_
  refine rP 1 135 (pt gr 0) ?_
  refine rC 2 136 20 [.tmp 135] #[54] [pt gr 0] ?_
  refine (Rdigest_any gr A n c b at_ bad w hr hb ⟨by omega, by omega⟩ hneb (by omega) (by omega)).mono ?_
  rintro _ W54 ⟨at26, bad26, x6, rfl, hat26, hr26, hst26, hl5, ch53⟩
  have zz53 := ch53.size
  refine ⟨_, rfl, ?_⟩
  refine rP 3 137 (pt gf 0) ?_
  refine rP 4 138 (pt gf 178) ?_
  refine rY 5 rfl rfl (store_segs 29 (.tmp 138) (.tmp 136) rfl 178 (by kernel_rfl) (b8s x6) (by kernel_rfl) (by rw [b8s_length, hl5]; kernel_rfl) (b8s_one x6) 39 (frmL_sz rfl rfl rfl rfl rfl rfl) (Chg.hp ch53 hf ⟨by omega, trivial⟩) 23 [b8s x6] (by simp) rfl (by rw [b8s_length, hl5]; rfl) (frmL kd ((a : Nat) : Int) ((d : Nat) : Int) 0 0 0 0 sl0 0 sl0 z32 0 sl0 false z32 0 0 0 false z32 z32 0 z32 x6 0 sl0 sl0) rfl) ?_
  rintro W55 ⟨hb26, ch54⟩
  have zz54 := ch54.size
  refine rEnd 6 rfl (nxt (wp_seq (reg ?_)))
  refine rP 0 139 (pt gf 0) ?_
  refine rP 1 140 (pt gr 0) ?_
  refine rC 2 141 17 [.tmp 140] #[54] [pt gr 0] ?_
  have kk57 : Chg [gr, gf] (w) W54 := Chg.step ((Chg.refl _).more (by simp)) ch53 ⟨.inl (by simp), trivial⟩
  have kk58 := Chg.step kk57 ch54 ⟨.inl (by simp), trivial⟩
  refine (Rint_any gr A n c b at26 bad26 W55 (Chg.hp ch54 hr26 ⟨by omega, trivial⟩) (byt_chgp hb kk58 (fun g off e hn hl => ⟨by have := hne2 g off e hn; omega, ⟨by have := hne2 g off e hn; omega, trivial⟩⟩)) ⟨by omega, by omega⟩ hneb (by omega) (by omega)).mono ?_
  rintro _ W56 ⟨at27, bad27, v14, rfl, hat27, hr27, hst27, hlt14, ch55⟩
  have zz55 := ch55.size
  refine ⟨_, rfl, ?_⟩
  refine rP 3 142 (pt gf 0) ?_
  refine rP 4 143 (pt gf 210) ?_
  refine rY 5 rfl rfl (store_seg1 3 (.tmp 143) (.tmp 141) rfl (by kernel_rfl) 210 (by kernel_rfl) (.int .i64 ((v14 : Nat) : Int)) (by kernel_rfl) rfl 39 (frmL_sz rfl rfl rfl rfl rfl hl5) (Chg.hp ch55 hb26 ⟨by omega, trivial⟩) 24 rfl rfl (frmL kd ((a : Nat) : Int) ((d : Nat) : Int) 0 0 0 0 sl0 0 sl0 z32 0 sl0 false z32 0 0 0 false z32 z32 0 z32 x6 ((v14 : Nat) : Int) sl0 sl0) rfl) ?_
  rintro W57 ⟨hb27, ch56⟩
  have zz56 := ch56.size
  refine rEnd 6 rfl (nxt (wp_seq (reg ?_)))
  refine rP 0 144 (pt gf 0) ?_
  refine rP 1 145 (pt gr 0) ?_
  refine rC 2 146 37 [.tmp 145] #[54] [pt gr 0] ?_
  have kk59 := Chg.step kk58 ch55 ⟨.inl (by simp), trivial⟩
  have kk60 := Chg.step kk59 ch56 ⟨.inl (by simp), trivial⟩
  refine (Rbytes_of gr A n c b at27 bad27 W57 (Chg.hp ch56 hr27 ⟨by omega, trivial⟩) (byt_chgp hb kk60 (fun g off e hn hl => ⟨by have := hne2 g off e hn; omega, ⟨by have := hne2 g off e hn; omega, trivial⟩⟩)) ⟨by omega, by omega⟩ hneb (by omega) (by omega)).mono ?_
  rintro _ W58 ⟨at28, bad28, AA5, nn5, cc5, x7, rfl, hat28, hr28, hst28, ow5, ch57⟩
  have zz57 := ch57.size
  have lt82 := ow5.at_
  have hq13 := ow5.byt.1
  have hq14 := ow5.nc
  have hq15 := ow5.cm
  refine ⟨_, rfl, ?_⟩
  refine rP 3 147 (pt gf 0) ?_
  refine rP 4 148 (pt gf 211) ?_
  refine rY 5 rfl rfl (store_seg1 22 (.tmp 148) (.tmp 146) rfl (by kernel_rfl) 211 (by kernel_rfl) (.slice AA5 nn5 cc5) (by kernel_rfl) rfl 39 (frmL_sz rfl rfl rfl rfl rfl hl5) (Chg.hp ch57 hb27 ⟨by omega, trivial⟩) 25 rfl rfl (frmL kd ((a : Nat) : Int) ((d : Nat) : Int) 0 0 0 0 sl0 0 sl0 z32 0 sl0 false z32 0 0 0 false z32 z32 0 z32 x6 ((v14 : Nat) : Int) ⟨AA5, nn5, cc5⟩ sl0) rfl) ?_
  rintro W59 ⟨hb28, ch58⟩
  have zz58 := ch58.size
  refine rEnd 6 rfl (nxt (reg ?_))
  refine rP 0 149 (pt gf 0) ?_
  refine rP 1 150 (pt gr 0) ?_
  refine rP 2 151 (pt gr 0) ?_
  refine rP 3 152 (.func (.func 20) #[pt gr 0] #[]) ?_
  refine rC 4 153 41 [.tmp 150, .tmp 152] #[54, 62] [pt gr 0, .func (.func 20) #[pt gr 0] #[]] ?_
  have kk61 := Chg.step kk60 ch57 ⟨.inl (by simp), trivial⟩
  have kk62 := Chg.step kk61 ch58 ⟨.inl (by simp), trivial⟩
  refine (SeveralD_any gr A n c b at28 bad28 W59 (Chg.hp ch58 hr28 ⟨by omega, trivial⟩) (byt_chgp hb kk62 (fun g off e hn hl => ⟨by have := hne2 g off e hn; omega, ⟨by have := hne2 g off e hn; omega, trivial⟩⟩)) ⟨by omega, by omega⟩ hneb (by omega) (by omega)).mono ?_
  rintro _ W60 ⟨at29, bad29, AA6, nn6, cc6, l4, rfl, hat29, hr29, hst29, ⟨ow6, hQ4⟩, ch59⟩
  have zz59 := ch59.size
  have ltR4 := ow6.at_
  have hq16 := ow6.nc
  have hq17 := ow6.cm
  have hq18 := ow6.len
  refine ⟨_, rfl, ?_⟩
  refine rP 5 154 (pt gf 0) ?_
  refine rP 6 155 (pt gf 212) ?_
  refine rY 7 rfl rfl (store_seg1 37 (.tmp 155) (.tmp 153) rfl (by kernel_rfl) 212 (by kernel_rfl) (.slice AA6 nn6 cc6) (by kernel_rfl) rfl 39 (frmL_sz rfl rfl rfl rfl rfl hl5) (Chg.hp ch59 hb28 ⟨by omega, trivial⟩) 26 rfl rfl (frmL kd ((a : Nat) : Int) ((d : Nat) : Int) 0 0 0 0 sl0 0 sl0 z32 0 sl0 false z32 0 0 0 false z32 z32 0 z32 x6 ((v14 : Nat) : Int) ⟨AA5, nn5, cc5⟩ ⟨AA6, nn6, cc6⟩) rfl) ?_
  rintro W61 ⟨hb29, ch60⟩
  have zz60 := ch60.size
  refine rEnd 8 rfl (inN ?_)
  have kk63 := Chg.step kk62 ch59 ⟨.inl (by simp), trivial⟩
  have kk64 := Chg.step kk63 ch60 ⟨.inl (by simp), trivial⟩
  have hgf9 := hb29
  obtain rfl : kd = 6 := UInt8.toNat_inj.1 (by have h_ : (6 : UInt8).toNat = 6 := rfl; omega)
  refine Wk.retN (.tuple #[]) rfl (by kernel_rfl) ?_
  exact ⟨at29, bad29, ofCon a d (.chunk x6 v14 x7 l4), ⟨sl0, sl0, sl0, ⟨AA5, nn5, cc5⟩, ⟨AA6, nn6, cc6⟩⟩, rfl, ⟨by omega, by omega⟩, (Chg.hp ch60 hr29 ⟨by omega, trivial⟩), hgf9, Mur.lies_chunk (y := ⟨AA5, nn5, cc5⟩) (f := ⟨AA6, nn6, cc6⟩) (byt_chg (byt_chg (byt_chg ow5.byt ch58 (fun g off e hl => ⟨by have := lt82 g off e; omega, trivial⟩)) ch59 (fun g off e hl => ⟨by have := lt82 g off e; omega, trivial⟩)) ch60 (fun g off e hl => ⟨by have := lt82 g off e; omega, trivial⟩)) ⟨ow5.nil, ow5.nc, ow5.cm⟩ (Mur.SlR.keepQ ow6.slR ch60 (fun g off e hl => ⟨by have := ltR4 g off e; omega, trivial⟩)) ⟨ow6.nil, ow6.nc, ow6.cm⟩, ⟨sl0_in, sl0_in, sl0_in, (fun g off e => by have := ow5.at_ g off e; omega), (fun g off e => by have := ow6.at_ g off e; omega)⟩, rfl, .inl ⟨.chunk x6 v14 x7 l4, (show Mur.Step (Mur.readC 6) _ _ _ _ _ _ from (show Mur.Step Mur.readCh _ _ _ _ _ _ from Mur.Step.map (hst26.seq (hst27.seq (hst28.seq hst29))) (fun y : List UInt8 × Nat × List UInt8 × List (List UInt8) => Mur.Cont.chunk y.1 y.2.1 y.2.2.1 y.2.2.2))), rfl, ⟨hl5, by omega, hQ4⟩⟩, kk64⟩
 refine rQ 0 133 _ rfl rfl (qboolF (b := (((kd.toNat : Nat) : Int) == (6 : Int))) (beq_eq_false_iff_ne.2 (by first | exact hx7 | omega))) ?_
 refine rP 1 132 (.bool false) ?_
 refine rEnd 2 rfl (nxt (wp_cond_false (by kernel_rfl) (wp_skip (inN ?_))))
 have hgf10 := hf
 refine Wk.retN (.tuple #[]) rfl (by kernel_rfl) ?_
 exact ⟨at_, bad, headM kd ((a : Nat) : Int) ((d : Nat) : Int), zs0, rfl, ⟨by omega, by omega⟩, hr, hgf10, lies_none rfl rfl rfl rfl rfl, ⟨sl0_in, sl0_in, sl0_in, sl0_in, sl0_in⟩, rfl, .inr ⟨by omega, rfl, rfl, rfl⟩, ((Chg.refl _).more (by simp))⟩
end Go.Proofs.YtgbadghjnpbiaaaDoor
