/- What the row rests on, part 12. -/
import Derived.Test.YtgbadghjnpbiaaaDoorRO11
namespace Go.Proofs.YtgbadghjnpbiaaaDoor
open Go.RowKit Wk
open Mur (b8s Byt Own8 Seg Segs flat cutA attC Att SlA OwnA rowA msgC updU readU_less ownR_nil Some_ byt_chgp updU_len slR_box attL readA_less z32 attL_len readD_less b8s_length)
set_option maxRecDepth 100000
set_option maxHeartbeats 4000000
def SevU_F2 (b : Array Value) (u0 : Value) (u1 : Value) (u4 : Value) (u5 : Value) : Act := ⟨#[u0, u1, gd b 2, gd b 3, u4, u5, gd b 6, gd b 7, gd b 8, gd b 9, gd b 10, gd b 11, gd b 12, gd b 13, gd b 14, gd b 15, gd b 16, gd b 17, gd b 18, gd b 19, gd b 20, gd b 21, gd b 22, gd b 23, gd b 24, gd b 25, gd b 26, gd b 27, gd b 28, gd b 29, gd b 30, gd b 31, gd b 32, gd b 33, gd b 34], []⟩
def SevA_F2 (b : Array Value) (u0 : Value) (u1 : Value) (u4 : Value) (u5 : Value) : Act := ⟨#[u0, u1, gd b 2, gd b 3, u4, u5, gd b 6, gd b 7, gd b 8, gd b 9, gd b 10, gd b 11, gd b 12, gd b 13, gd b 14, gd b 15, gd b 16, gd b 17, gd b 18, gd b 19, gd b 20, gd b 21, gd b 22, gd b 23, gd b 24, gd b 25, gd b 26, gd b 27, gd b 28, gd b 29, gd b 30, gd b 31, gd b 32, gd b 33, gd b 34], []⟩
def SevD_F2 (b : Array Value) (u0 : Value) (u1 : Value) (u4 : Value) (u5 : Value) : Act := ⟨#[u0, u1, gd b 2, gd b 3, u4, u5, gd b 6, gd b 7, gd b 8, gd b 9, gd b 10, gd b 11, gd b 12, gd b 13, gd b 14, gd b 15, gd b 16, gd b 17, gd b 18, gd b 19, gd b 20, gd b 21, gd b 22, gd b 23, gd b 24, gd b 25, gd b 26, gd b 27, gd b 28, gd b 29, gd b 30, gd b 31, gd b 32, gd b 33, gd b 34], []⟩
theorem SeveralU_any (gr : Nat) (A : Option Addr) (n c : Nat) (b : List UInt8) (at_ : Nat) (bad : Bool) (w : World) (hr : w.heap[gr]? = some (.cells #[.slice A n c, .int .i64 ((at_ : Nat) : Int), .bool bad] 56 (0, 0))) (hb : Byt w A n b) (hnc : n ≤ c ∧ c ≤ 9223372036854775807) (hneb : ∀ a, A = some a → 0 < n → a.block ≠ gr) (hat : at_ ≤ n) (hn : n ≤ 100000) : Calls Tryd.prog 35 #[pt gr 0, .func (.func 36) #[pt gr 0] #[]] w fun e w' => ∃ (at2 : Nat) (bad2 : Bool) (A1 : Option Addr) (n1 c1 : Nat) (l : List (Mur.Upd)), e = .returned (.slice A1 n1 c1) ∧ (at_ ≤ at2 ∧ at2 ≤ n) ∧ w'.heap[gr]? = some (.cells #[.slice A n c, .int .i64 ((at2 : Nat) : Int), .bool bad2] 56 (0, 0)) ∧ Mur.Step (Mur.readL Mur.readU) b at_ bad at2 bad2 l ∧ (Mur.OwnR w' w.heap.size 66 3 A1 n1 c1 (l.map updU) ∧ ∀ x, x ∈ l → (x.node ≤ 1073741824 ∧ x.inc < 18446744073709551616)) ∧ Chg [gr] w w' := by
 have hne : ∀ g off, A = some ⟨g, off, none⟩ → 0 < n → g ≠ gr := fun g off e hn => hneb _ e hn
 have hbl_ := hb.1
 have hn_ := hn
 have hgl_ := (Array.getElem?_eq_some_iff.1 hr).1
 refine calls_of_wp Tryd.func35 rfl ?_
 refine wp_seq (reg ?_)
 refine rP 0 4 (.slice none 0 0) rfl rfl ?_
 refine rEnd 1 rfl (nxt (wp_seq (reg ?_)))
 refine rP 0 6 (pt gr 0) rfl rfl ?_
 refine rC 1 7 17 [.tmp 6] #[54] [pt gr 0] rfl rfl rfl ?_
 refine (Rint_any gr A n c b at_ bad w hr hb ⟨by omega, by omega⟩ hneb (by omega) (by omega)).mono ?_
 rintro _ W1 ⟨at1, bad1, v1, rfl, hat1, hr1, hst1, hlt1, ch1⟩
 have zz1 := ch1.size
 cases bad1
 ·refine ⟨_, rfl, ?_⟩
  refine rP 2 5 (.int .i64 ((v1 : Nat) : Int)) rfl rfl ?_
  refine rEnd 3 rfl (nxt (wp_seq (wp_seq (reg ?_))))
  refine rP 0 8 (.int .i64 ((v1 : Nat) : Int)) rfl rfl ?_
  refine rP 1 9 (pt gr 0) rfl rfl ?_
  refine rP 2 10 (pt gr 0) rfl rfl ?_
  refine rP 3 11 (pt gr 0) rfl rfl ?_
  refine rQ 4 12 _ rfl rfl (ld 22 11 gr 0 (.slice A n c) ((cell_of_row _ _ 0 _ _ _ hr1).trans rfl)) ?_
  refine rP 5 13 (.int .i64 ((n : Nat) : Int)) rfl rfl ?_
  by_cases hx1 : ((v1 : Nat) : Int) > ((n : Nat) : Int)
  ·refine rQ 6 14 _ rfl rfl (qboolT (b := decide (((v1 : Nat) : Int) > ((n : Nat) : Int))) (decide_eq_true (by first | exact hx1 | omega))) ?_
   refine rEnd 7 rfl (nxt (wp_cond_true (by kernel_rfl) (reg ?_)))
   refine rP 0 15 (pt gr 0) rfl rfl ?_
   refine rP 1 16 (pt gr 0) rfl rfl ?_
   refine rP 2 17 (pt gr 2) rfl rfl ?_
   refine rY 3 rfl rfl (store1 4 (.tmp 17) (.const (.bool true)) rfl (by kernel_rfl) gr 2 (by kernel_rfl) (.bool true) (by kernel_rfl) rfl 56 #[.slice A n c, .int .i64 ((at1 : Nat) : Int), .bool false] hr1 (by simp)) ?_
   rintro W2 ⟨hb1, ch2⟩
   replace hb1 : W2.heap[gr]? = some (.cells #[.slice A n c, .int .i64 ((at1 : Nat) : Int), .bool true] 56 (0, 0)) := hb1
   have zz2 := ch2.size
   refine rEnd 4 rfl (nxt (wp_seq (wp_block ?_)))
   refine Wk.loopN 2 ?_
   refine Wk.rdS (wp_seq (wp_seq (reg ?_)))
   refine rP 0 18 (.int .i64 ((v1 : Nat) : Int)) rfl rfl ?_
   by_cases hx2 : ((v1 : Nat) : Int) > (0 : Int)
   ·refine rQ 1 19 _ rfl rfl (qboolT (b := decide (((v1 : Nat) : Int) > (0 : Int))) (decide_eq_true (by first | exact hx2 | omega))) ?_
    refine rP 2 20 (.bool true) rfl rfl ?_
    refine rP 3 21 (pt gr 0) rfl rfl ?_
    refine rP 4 22 (pt gr 0) rfl rfl ?_
    refine rP 5 23 (pt gr 2) rfl rfl ?_
    refine rQ 6 24 _ rfl rfl (ld 4 23 gr 2 (.bool true) ((cell_of_row _ _ 2 _ _ _ hb1).trans rfl)) ?_
    refine rP 7 25 (.bool false) rfl rfl ?_
    refine rP 8 26 (.bool false) rfl rfl ?_
    refine rEnd 9 rfl (nxt (wp_cond_false (by kernel_rfl) (wp_exit (thX (thX (inX (nxt (wp_seq (reg ?_)))))))))
    refine rP 0 34 (.slice none 0 0) rfl rfl ?_
    refine rP 1 4 (.slice none 0 0) rfl rfl ?_
    refine rEnd 2 rfl (nxt (wp_ret ?_))
    have kk1 : Chg [gr] (w) W1 := Chg.step ((Chg.refl _).more (by simp)) ch1 ⟨.inl (by simp), trivial⟩
    have kk2 := Chg.step kk1 ch2 ⟨.inl (by simp), trivial⟩
    refine Wk.ret (.slice none 0 0) rfl (by kernel_rfl) ?_
    exact ⟨at1, true, none, 0, 0, [], rfl, ⟨by omega, by omega⟩, hb1, Mur.Step.many_big readU_less hst1 (by omega) [], ⟨ownR_nil _ _ _ (by decide), (by simp)⟩, kk2⟩
   refine rQ 1 19 _ rfl rfl (qboolF (b := decide (((v1 : Nat) : Int) > (0 : Int))) (decide_eq_false (by first | exact hx2 | omega))) ?_
   refine rP 2 20 (.bool false) rfl rfl ?_
   refine rPass 3 (some 21) rfl rfl (by kernel_rfl) ?_
   refine rPass 4 (some 22) rfl rfl (by kernel_rfl) ?_
   refine rPass 5 (some 23) rfl rfl (by kernel_rfl) ?_
   refine rPass 6 (some 24) rfl rfl (by kernel_rfl) ?_
   refine rPass 7 (some 25) rfl rfl (by kernel_rfl) ?_
   refine rP 8 26 (.bool false) rfl rfl ?_
   refine rEnd 9 rfl (nxt (wp_cond_false (by kernel_rfl) (wp_exit (thX (thX (inX (nxt (wp_seq (reg ?_)))))))))
   refine rP 0 34 (.slice none 0 0) rfl rfl ?_
   refine rP 1 4 (.slice none 0 0) rfl rfl ?_
   refine rEnd 2 rfl (nxt (wp_ret ?_))
   have kk3 : Chg [gr] (w) W1 := Chg.step ((Chg.refl _).more (by simp)) ch1 ⟨.inl (by simp), trivial⟩
   have kk4 := Chg.step kk3 ch2 ⟨.inl (by simp), trivial⟩
   refine Wk.ret (.slice none 0 0) rfl (by kernel_rfl) ?_
   exact ⟨at1, true, none, 0, 0, [], rfl, ⟨by omega, by omega⟩, hb1, Mur.Step.many_big readU_less hst1 (by omega) [], ⟨ownR_nil _ _ _ (by decide), (by simp)⟩, kk4⟩
  refine rQ 6 14 _ rfl rfl (qboolF (b := decide (((v1 : Nat) : Int) > ((n : Nat) : Int))) (decide_eq_false (by first | exact hx1 | omega))) ?_
  refine rEnd 7 rfl (nxt (wp_cond_false (by kernel_rfl) (wp_skip (nxt (wp_seq (wp_block ?_))))))
  refine Wk.loop (fun m_ a wr => ∃ (l : List (Mur.Upd)) (m : Nat) (at2 : Nat) (bad2 : Bool) (A1 : Option Addr) (N1 : Nat) (c1 : Nat), m_ = m ∧ a = SevU_F2 a.tmps (pt gr 0) (.func (.func 36) #[pt gr 0] #[]) (.slice A1 N1 c1) (.int .i64 ((m : Nat) : Int)) ∧ l.length + m = v1 ∧ Mur.OwnR wr w.heap.size 66 3 A1 N1 c1 (l.map updU) ∧ wr.heap[gr]? = some (.cells #[.slice A n c, .int .i64 ((at2 : Nat) : Int), .bool bad2] 56 (0, 0)) ∧ (at1 ≤ at2 ∧ at2 ≤ n) ∧ Some_ Mur.readU b at1 at2 bad2 l ∧ (∀ x, x ∈ l → (x.node ≤ 1073741824 ∧ x.inc < 18446744073709551616)) ∧ Chg [gr] w wr) (v1) ?_ ?_
  ·have kk5 : Chg [gr] (w) W1 := Chg.step ((Chg.refl _).more (by simp)) ch1 ⟨.inl (by simp), trivial⟩
   refine ⟨[], v1, at1, false, none, 0, 0, rfl, by kernel_rfl, (by simp), (ownR_nil _ _ _ (by decide)), hr1, ⟨by omega, by omega⟩, Some_.nil, (by simp), kk5⟩
  rintro mm1 aa1 W3 ⟨l, m, at2, bad2, A1, N1, c1, hmm1, hF1, hlm, hO, hrc, hat2, hso, hQ, HB⟩
  generalize aa1.tmps = bb1 at hF1
  subst hF1
  have hzB := HB.size
  have hOn := hO.nc
  have hOc := hO.cm
  have hOl := hO.len
  rw [List.length_map] at hOl
  refine wp_seq (wp_seq (reg ?_))
  refine rP 0 18 (.int .i64 ((m : Nat) : Int)) rfl rfl ?_
  by_cases hx3 : ((m : Nat) : Int) > (0 : Int)
  ·refine rQ 1 19 _ rfl rfl (qboolT (b := decide (((m : Nat) : Int) > (0 : Int))) (decide_eq_true (by first | exact hx3 | omega))) ?_
   refine rP 2 20 (.bool true) rfl rfl ?_
   refine rP 3 21 (pt gr 0) rfl rfl ?_
   refine rP 4 22 (pt gr 0) rfl rfl ?_
   refine rP 5 23 (pt gr 2) rfl rfl ?_
   refine rQ 6 24 _ rfl rfl (ld 4 23 gr 2 (.bool bad2) ((cell_of_row _ _ 2 _ _ _ hrc).trans rfl)) ?_
   refine rP 7 25 (.bool (!bad2)) rfl rfl ?_
   refine rP 8 26 (.bool (!bad2)) rfl rfl ?_
   refine rEnd 9 rfl (nxt ?_)
   cases bad2
   ·refine wp_cond_true (by kernel_rfl) (wp_skip (nxt (wp_seq (wp_block (reg ?_)))))
    refine rP 0 29 (.slice A1 N1 c1) rfl rfl ?_
    refine rP 1 30 (.func (.func 36) #[pt gr 0] #[]) rfl rfl ?_
    refine Wk.rCallM 2 (some 31) (.tmp 30) 36 #[pt gr 0] [] #[] [] rfl rfl (by kernel_rfl) rfl (by kernel_rfl) (by kernel_rfl) (by kernel_rfl) ?_
    refine (Rupdate_any gr A n c b at2 false W3 hrc (byt_chgp hb HB (fun g off e hn hl => ⟨by have := hne g off e hn; omega, trivial⟩)) ⟨by omega, by omega⟩ hneb (by omega) (by omega)).mono ?_
    rintro _ W4 ⟨at2, bad2, u1, rfl, hat2, hr2, hst2, hu1, ch3⟩
    have zz3 := ch3.size
    refine ⟨_, rfl, ?_⟩
    refine rX 3 32 rfl rfl (Mur.buildR1 25 66 (.tmp 31) rfl Tryd.underlying25 [.int .i64 0, .int .u8 0, .int .u64 0] 3 24 (by kernel_rfl) (by kernel_rfl) (by decide) (by decide) (updU u1) (updU_len u1) (by kernel_rfl)) ?_
    rintro _ W5 ⟨rfl, hb2, ch4, sz1⟩
    have zz4 := ch4.size
    have ow1 := Mur.OwnR.chg hO (by decide) ch3 (fun q e _ _ => ⟨by have := hO.lt q e; omega, trivial⟩)
    have ow2 := Mur.OwnR.chg ow1 (by decide) ch4 (fun q e _ _ => trivial)
    refine rX 4 33 rfl rfl (Mur.appendR (.tmp 29) (.tmp 32) 25 66 rfl Tryd.underlying25 (.agg [.int .i64 0, .int .u8 0, .int .u64 0].toArray) 3 24 (by kernel_rfl) (by kernel_rfl) (by decide) (by decide) w.heap.size A1 N1 c1 (l.map updU) (some ⟨W4.heap.size, 0, none⟩) 1 1 [(updU u1)] (by kernel_rfl) (by kernel_rfl) ow2 (slR_box (updU_len u1) (Mur.updC_one _) hb2) (fun h => by cases h) (by omega) (by omega) (N1 + 1) rfl) ?_
    rintro _ W6 ⟨AA1, nn1, rfl, ow3, ch5, ha1⟩
    have zz5 := ch5.size
    have ow4 : Mur.OwnR W6 w.heap.size 66 3 AA1 (N1 + 1) nn1 ((l ++ [u1]).map updU) := by rw [List.map_append]; exact ow3
    have hq1 := ow4.nc
    have hq2 := ow4.cm
    refine rP 5 4 (.slice AA1 (N1 + 1) nn1) rfl rfl ?_
    refine rEnd 6 rfl (inN (nxt (reg ?_)))
    refine rP 0 27 (.int .i64 ((m : Nat) : Int)) rfl rfl ?_
    refine rQ 1 28 _ rfl rfl (qint64 (n := ((m : Nat) : Int) - 1) (z := ((m - 1 : Nat) : Int)) (by omega) (by omega) (by omega)) ?_
    refine rP 2 5 (.int .i64 ((m - 1 : Nat) : Int)) rfl rfl ?_
    refine rEnd 3 rfl (nxt ?_)
    have kk6 := Chg.step HB ch3 ⟨.inl (by simp), trivial⟩
    have kk7 := Chg.step kk6 ch4 trivial
    have kk8 := Chg.step kk7 ch5 (newOr_blk (fun g hg => by have := hO.lt g hg; omega))
    refine ⟨_, ?_, l ++ [u1], m - 1, at2, bad2, AA1, N1 + 1, nn1, rfl, by kernel_rfl, (by rw [List.length_append, List.length_singleton]; omega), ow4, (Chg.hp ch5 (Chg.hp ch4 hr2 trivial) (off_blk (fun gz hgz => by have := hO.lt gz hgz; omega))), ⟨by omega, by omega⟩, (Some_.snoc hso hst2), (fun y_ hy_ => by rcases List.mem_append.1 hy_ with h1_ | h1_ <;> first | exact hQ y_ h1_ | (rw [List.mem_singleton.1 h1_]; exact hu1)), kk8⟩
    omega
   refine wp_cond_false (by kernel_rfl) (wp_exit (thX (thX (inX (nxt (wp_seq (reg ?_)))))))
   refine rP 0 34 (.slice A1 N1 c1) rfl rfl ?_
   refine rP 1 4 (.slice A1 N1 c1) rfl rfl ?_
   refine rEnd 2 rfl (nxt (wp_ret ?_))
   refine Wk.ret (.slice A1 N1 c1) rfl (by kernel_rfl) ?_
   exact ⟨at2, true, A1, N1, c1, l, rfl, ⟨by omega, by omega⟩, hrc, Mur.Step.many hst1 hso (by omega) (fun e_ => by cases e_), ⟨hO, hQ⟩, HB⟩
  refine rQ 1 19 _ rfl rfl (qboolF (b := decide (((m : Nat) : Int) > (0 : Int))) (decide_eq_false (by first | exact hx3 | omega))) ?_
  refine rP 2 20 (.bool false) rfl rfl ?_
  refine rPass 3 (some 21) rfl rfl (by kernel_rfl) ?_
  refine rPass 4 (some 22) rfl rfl (by kernel_rfl) ?_
  refine rPass 5 (some 23) rfl rfl (by kernel_rfl) ?_
  refine rPass 6 (some 24) rfl rfl (by kernel_rfl) ?_
  refine rPass 7 (some 25) rfl rfl (by kernel_rfl) ?_
  refine rP 8 26 (.bool false) rfl rfl ?_
  refine rEnd 9 rfl (nxt (wp_cond_false (by kernel_rfl) (wp_exit (thX (thX (inX (nxt (wp_seq (reg ?_)))))))))
  refine rP 0 34 (.slice A1 N1 c1) rfl rfl ?_
  refine rP 1 4 (.slice A1 N1 c1) rfl rfl ?_
  refine rEnd 2 rfl (nxt (wp_ret ?_))
  refine Wk.ret (.slice A1 N1 c1) rfl (by kernel_rfl) ?_
  exact ⟨at2, bad2, A1, N1, c1, l, rfl, ⟨by omega, by omega⟩, hrc, Mur.Step.many hst1 hso (by omega) (fun e_ => by omega), ⟨hO, hQ⟩, HB⟩
 refine ⟨_, rfl, ?_⟩
 refine rP 2 5 (.int .i64 ((v1 : Nat) : Int)) rfl rfl ?_
 refine rEnd 3 rfl (nxt (wp_seq (wp_seq (reg ?_))))
 refine rP 0 8 (.int .i64 ((v1 : Nat) : Int)) rfl rfl ?_
 refine rP 1 9 (pt gr 0) rfl rfl ?_
 refine rP 2 10 (pt gr 0) rfl rfl ?_
 refine rP 3 11 (pt gr 0) rfl rfl ?_
 refine rQ 4 12 _ rfl rfl (ld 22 11 gr 0 (.slice A n c) ((cell_of_row _ _ 0 _ _ _ hr1).trans rfl)) ?_
 refine rP 5 13 (.int .i64 ((n : Nat) : Int)) rfl rfl ?_
 by_cases hx4 : ((v1 : Nat) : Int) > ((n : Nat) : Int)
 ·refine rQ 6 14 _ rfl rfl (qboolT (b := decide (((v1 : Nat) : Int) > ((n : Nat) : Int))) (decide_eq_true (by first | exact hx4 | omega))) ?_
  refine rEnd 7 rfl (nxt (wp_cond_true (by kernel_rfl) (reg ?_)))
  refine rP 0 15 (pt gr 0) rfl rfl ?_
  refine rP 1 16 (pt gr 0) rfl rfl ?_
  refine rP 2 17 (pt gr 2) rfl rfl ?_
  refine rY 3 rfl rfl (store1 4 (.tmp 17) (.const (.bool true)) rfl (by kernel_rfl) gr 2 (by kernel_rfl) (.bool true) (by kernel_rfl) rfl 56 #[.slice A n c, .int .i64 ((at1 : Nat) : Int), .bool true] hr1 (by simp)) ?_
  rintro W7 ⟨hb3, ch6⟩
  replace hb3 : W7.heap[gr]? = some (.cells #[.slice A n c, .int .i64 ((at1 : Nat) : Int), .bool true] 56 (0, 0)) := hb3
  have zz6 := ch6.size
  refine rEnd 4 rfl (nxt (wp_seq (wp_block ?_)))
  refine Wk.loopN 2 ?_
  refine Wk.rdS (wp_seq (wp_seq (reg ?_)))
  refine rP 0 18 (.int .i64 ((v1 : Nat) : Int)) rfl rfl ?_
  by_cases hx5 : ((v1 : Nat) : Int) > (0 : Int)
  ·refine rQ 1 19 _ rfl rfl (qboolT (b := decide (((v1 : Nat) : Int) > (0 : Int))) (decide_eq_true (by first | exact hx5 | omega))) ?_
   refine rP 2 20 (.bool true) rfl rfl ?_
   refine rP 3 21 (pt gr 0) rfl rfl ?_
   refine rP 4 22 (pt gr 0) rfl rfl ?_
   refine rP 5 23 (pt gr 2) rfl rfl ?_
   refine rQ 6 24 _ rfl rfl (ld 4 23 gr 2 (.bool true) ((cell_of_row _ _ 2 _ _ _ hb3).trans rfl)) ?_
   refine rP 7 25 (.bool false) rfl rfl ?_
   refine rP 8 26 (.bool false) rfl rfl ?_
   refine rEnd 9 rfl (nxt (wp_cond_false (by kernel_rfl) (wp_exit (thX (thX (inX (nxt (wp_seq (reg ?_)))))))))
   refine rP 0 34 (.slice none 0 0) rfl rfl ?_
   refine rP 1 4 (.slice none 0 0) rfl rfl ?_
   refine rEnd 2 rfl (nxt (wp_ret ?_))
   have kk9 : Chg [gr] (w) W1 := Chg.step ((Chg.refl _).more (by simp)) ch1 ⟨.inl (by simp), trivial⟩
   have kk10 := Chg.step kk9 ch6 ⟨.inl (by simp), trivial⟩
   refine Wk.ret (.slice none 0 0) rfl (by kernel_rfl) ?_
   exact ⟨at1, true, none, 0, 0, [], rfl, ⟨by omega, by omega⟩, hb3, Mur.Step.many_bad hst1 [], ⟨ownR_nil _ _ _ (by decide), (by simp)⟩, kk10⟩
  refine rQ 1 19 _ rfl rfl (qboolF (b := decide (((v1 : Nat) : Int) > (0 : Int))) (decide_eq_false (by first | exact hx5 | omega))) ?_
  refine rP 2 20 (.bool false) rfl rfl ?_
  refine rPass 3 (some 21) rfl rfl (by kernel_rfl) ?_
  refine rPass 4 (some 22) rfl rfl (by kernel_rfl) ?_
  refine rPass 5 (some 23) rfl rfl (by kernel_rfl) ?_
  refine rPass 6 (some 24) rfl rfl (by kernel_rfl) ?_
  refine rPass 7 (some 25) rfl rfl (by kernel_rfl) ?_
  refine rP 8 26 (.bool false) rfl rfl ?_
  refine rEnd 9 rfl (nxt (wp_cond_false (by kernel_rfl) (wp_exit (thX (thX (inX (nxt (wp_seq (reg ?_)))))))))
  refine rP 0 34 (.slice none 0 0) rfl rfl ?_
  refine rP 1 4 (.slice none 0 0) rfl rfl ?_
  refine rEnd 2 rfl (nxt (wp_ret ?_))
  have kk11 : Chg [gr] (w) W1 := Chg.step ((Chg.refl _).more (by simp)) ch1 ⟨.inl (by simp), trivial⟩
  have kk12 := Chg.step kk11 ch6 ⟨.inl (by simp), trivial⟩
  refine Wk.ret (.slice none 0 0) rfl (by kernel_rfl) ?_
  exact ⟨at1, true, none, 0, 0, [], rfl, ⟨by omega, by omega⟩, hb3, Mur.Step.many_bad hst1 [], ⟨ownR_nil _ _ _ (by decide), (by simp)⟩, kk12⟩
 refine rQ 6 14 _ rfl rfl (qboolF (b := decide (((v1 : Nat) : Int) > ((n : Nat) : Int))) (decide_eq_false (by first | exact hx4 | omega))) ?_
 refine rEnd 7 rfl (nxt (wp_cond_false (by kernel_rfl) (wp_skip (nxt (wp_seq (wp_block ?_))))))
 refine Wk.loopN 2 ?_
 refine Wk.rdS (wp_seq (wp_seq (reg ?_)))
 refine rP 0 18 (.int .i64 ((v1 : Nat) : Int)) rfl rfl ?_
 by_cases hx6 : ((v1 : Nat) : Int) > (0 : Int)
 ·refine rQ 1 19 _ rfl rfl (qboolT (b := decide (((v1 : Nat) : Int) > (0 : Int))) (decide_eq_true (by first | exact hx6 | omega))) ?_
  refine rP 2 20 (.bool true) rfl rfl ?_
  refine rP 3 21 (pt gr 0) rfl rfl ?_
  refine rP 4 22 (pt gr 0) rfl rfl ?_
  refine rP 5 23 (pt gr 2) rfl rfl ?_
  refine rQ 6 24 _ rfl rfl (ld 4 23 gr 2 (.bool true) ((cell_of_row _ _ 2 _ _ _ hr1).trans rfl)) ?_
  refine rP 7 25 (.bool false) rfl rfl ?_
  refine rP 8 26 (.bool false) rfl rfl ?_
  refine rEnd 9 rfl (nxt (wp_cond_false (by kernel_rfl) (wp_exit (thX (thX (inX (nxt (wp_seq (reg ?_)))))))))
  refine rP 0 34 (.slice none 0 0) rfl rfl ?_
  refine rP 1 4 (.slice none 0 0) rfl rfl ?_
  refine rEnd 2 rfl (nxt (wp_ret ?_))
  have kk13 : Chg [gr] (w) W1 := Chg.step ((Chg.refl _).more (by simp)) ch1 ⟨.inl (by simp), trivial⟩
  refine Wk.ret (.slice none 0 0) rfl (by kernel_rfl) ?_
  exact ⟨at1, true, none, 0, 0, [], rfl, ⟨by omega, by omega⟩, hr1, Mur.Step.many_bad hst1 [], ⟨ownR_nil _ _ _ (by decide), (by simp)⟩, kk13⟩
 refine rQ 1 19 _ rfl rfl (qboolF (b := decide (((v1 : Nat) : Int) > (0 : Int))) (decide_eq_false (by first | exact hx6 | omega))) ?_
 refine rP 2 20 (.bool false) rfl rfl ?_
 refine rPass 3 (some 21) rfl rfl (by kernel_rfl) ?_
 refine rPass 4 (some 22) rfl rfl (by kernel_rfl) ?_
 refine rPass 5 (some 23) rfl rfl (by kernel_rfl) ?_
 refine rPass 6 (some 24) rfl rfl (by kernel_rfl) ?_
 refine rPass 7 (some 25) rfl rfl (by kernel_rfl) ?_
 refine rP 8 26 (.bool false) rfl rfl ?_
 refine rEnd 9 rfl (nxt (wp_cond_false (by kernel_rfl) (wp_exit (thX (thX (inX (nxt (wp_seq (reg ?_)))))))))
 refine rP 0 34 (.slice none 0 0) rfl rfl ?_
 refine rP 1 4 (.slice none 0 0) rfl rfl ?_
 refine rEnd 2 rfl (nxt (wp_ret ?_))
 have kk14 : Chg [gr] (w) W1 := Chg.step ((Chg.refl _).more (by simp)) ch1 ⟨.inl (by simp), trivial⟩
 refine Wk.ret (.slice none 0 0) rfl (by kernel_rfl) ?_
 exact ⟨at1, true, none, 0, 0, [], rfl, ⟨by omega, by omega⟩, hr1, Mur.Step.many_bad hst1 [], ⟨ownR_nil _ _ _ (by decide), (by simp)⟩, kk14⟩
theorem SeveralA_any (gr : Nat) (A : Option Addr) (n c : Nat) (b : List UInt8) (at_ : Nat) (bad : Bool) (w : World) (hr : w.heap[gr]? = some (.cells #[.slice A n c, .int .i64 ((at_ : Nat) : Int), .bool bad] 56 (0, 0))) (hb : Byt w A n b) (hnc : n ≤ c ∧ c ≤ 9223372036854775807) (hneb : ∀ a, A = some a → 0 < n → a.block ≠ gr) (hat : at_ ≤ n) (hn : n ≤ 100000) : Calls Tryd.prog 38 #[pt gr 0, .func (.func 39) #[pt gr 0] #[]] w fun e w' => ∃ (at2 : Nat) (bad2 : Bool) (A1 : Option Addr) (n1 c1 : Nat) (l : List (Att)), e = .returned (.slice A1 n1 c1) ∧ (at_ ≤ at2 ∧ at2 ≤ n) ∧ w'.heap[gr]? = some (.cells #[.slice A n c, .int .i64 ((at2 : Nat) : Int), .bool bad2] 56 (0, 0)) ∧ Mur.Step (Mur.readL Mur.readA) b at_ bad at2 bad2 l ∧ (Mur.OwnR w' w.heap.size 36 97 A1 n1 c1 (l.map attL) ∧ ∀ x, x ∈ l → True) ∧ Chg [gr] w w' := by
 have hne : ∀ g off, A = some ⟨g, off, none⟩ → 0 < n → g ≠ gr := fun g off e hn => hneb _ e hn
 have hbl_ := hb.1
 have hn_ := hn
 have hgl_ := (Array.getElem?_eq_some_iff.1 hr).1
 refine calls_of_wp Tryd.func38 rfl ?_
 refine wp_seq (reg ?_)
 refine rP 0 4 (.slice none 0 0) rfl rfl ?_
 refine rEnd 1 rfl (nxt (wp_seq (reg ?_)))
 refine rP 0 6 (pt gr 0) rfl rfl ?_
 refine rC 1 7 17 [.tmp 6] #[54] [pt gr 0] rfl rfl rfl ?_
 refine (Rint_any gr A n c b at_ bad w hr hb ⟨by omega, by omega⟩ hneb (by omega) (by omega)).mono ?_
 rintro _ W1 ⟨at1, bad1, v1, rfl, hat1, hr1, hst1, hlt1, ch1⟩
 have zz1 := ch1.size
 cases bad1
 ·refine ⟨_, rfl, ?_⟩
  refine rP 2 5 (.int .i64 ((v1 : Nat) : Int)) rfl rfl ?_
  refine rEnd 3 rfl (nxt (wp_seq (wp_seq (reg ?_))))
  refine rP 0 8 (.int .i64 ((v1 : Nat) : Int)) rfl rfl ?_
  refine rP 1 9 (pt gr 0) rfl rfl ?_
  refine rP 2 10 (pt gr 0) rfl rfl ?_
  refine rP 3 11 (pt gr 0) rfl rfl ?_
  refine rQ 4 12 _ rfl rfl (ld 22 11 gr 0 (.slice A n c) ((cell_of_row _ _ 0 _ _ _ hr1).trans rfl)) ?_
  refine rP 5 13 (.int .i64 ((n : Nat) : Int)) rfl rfl ?_
  by_cases hx1 : ((v1 : Nat) : Int) > ((n : Nat) : Int)
  ·refine rQ 6 14 _ rfl rfl (qboolT (b := decide (((v1 : Nat) : Int) > ((n : Nat) : Int))) (decide_eq_true (by first | exact hx1 | omega))) ?_
   refine rEnd 7 rfl (nxt (wp_cond_true (by kernel_rfl) (reg ?_)))
   refine rP 0 15 (pt gr 0) rfl rfl ?_
   refine rP 1 16 (pt gr 0) rfl rfl ?_
   refine rP 2 17 (pt gr 2) rfl rfl ?_
   refine rY 3 rfl rfl (store1 4 (.tmp 17) (.const (.bool true)) rfl (by kernel_rfl) gr 2 (by kernel_rfl) (.bool true) (by kernel_rfl) rfl 56 #[.slice A n c, .int .i64 ((at1 : Nat) : Int), .bool false] hr1 (by simp)) ?_
   rintro W2 ⟨hb1, ch2⟩
   replace hb1 : W2.heap[gr]? = some (.cells #[.slice A n c, .int .i64 ((at1 : Nat) : Int), .bool true] 56 (0, 0)) := hb1
   have zz2 := ch2.size
   refine rEnd 4 rfl (nxt (wp_seq (wp_block ?_)))
   refine Wk.loopN 2 ?_
   refine Wk.rdS (wp_seq (wp_seq (reg ?_)))
   refine rP 0 18 (.int .i64 ((v1 : Nat) : Int)) rfl rfl ?_
   by_cases hx2 : ((v1 : Nat) : Int) > (0 : Int)
   ·refine rQ 1 19 _ rfl rfl (qboolT (b := decide (((v1 : Nat) : Int) > (0 : Int))) (decide_eq_true (by first | exact hx2 | omega))) ?_
    refine rP 2 20 (.bool true) rfl rfl ?_
    refine rP 3 21 (pt gr 0) rfl rfl ?_
    refine rP 4 22 (pt gr 0) rfl rfl ?_
    refine rP 5 23 (pt gr 2) rfl rfl ?_
    refine rQ 6 24 _ rfl rfl (ld 4 23 gr 2 (.bool true) ((cell_of_row _ _ 2 _ _ _ hb1).trans rfl)) ?_
    refine rP 7 25 (.bool false) rfl rfl ?_
    refine rP 8 26 (.bool false) rfl rfl ?_
    refine rEnd 9 rfl (nxt (wp_cond_false (by kernel_rfl) (wp_exit (thX (thX (inX (nxt (wp_seq (reg ?_)))))))))
    refine rP 0 34 (.slice none 0 0) rfl rfl ?_
    refine rP 1 4 (.slice none 0 0) rfl rfl ?_
    refine rEnd 2 rfl (nxt (wp_ret ?_))
    have kk1 : Chg [gr] (w) W1 := Chg.step ((Chg.refl _).more (by simp)) ch1 ⟨.inl (by simp), trivial⟩
    have kk2 := Chg.step kk1 ch2 ⟨.inl (by simp), trivial⟩
    refine Wk.ret (.slice none 0 0) rfl (by kernel_rfl) ?_
    exact ⟨at1, true, none, 0, 0, [], rfl, ⟨by omega, by omega⟩, hb1, Mur.Step.many_big readA_less hst1 (by omega) [], ⟨ownR_nil _ _ _ (by decide), (by simp)⟩, kk2⟩
   refine rQ 1 19 _ rfl rfl (qboolF (b := decide (((v1 : Nat) : Int) > (0 : Int))) (decide_eq_false (by first | exact hx2 | omega))) ?_
   refine rP 2 20 (.bool false) rfl rfl ?_
   refine rPass 3 (some 21) rfl rfl (by kernel_rfl) ?_
   refine rPass 4 (some 22) rfl rfl (by kernel_rfl) ?_
   refine rPass 5 (some 23) rfl rfl (by kernel_rfl) ?_
   refine rPass 6 (some 24) rfl rfl (by kernel_rfl) ?_
   refine rPass 7 (some 25) rfl rfl (by kernel_rfl) ?_
   refine rP 8 26 (.bool false) rfl rfl ?_
   refine rEnd 9 rfl (nxt (wp_cond_false (by kernel_rfl) (wp_exit (thX (thX (inX (nxt (wp_seq (reg ?_)))))))))
   refine rP 0 34 (.slice none 0 0) rfl rfl ?_
   refine rP 1 4 (.slice none 0 0) rfl rfl ?_
   refine rEnd 2 rfl (nxt (wp_ret ?_))
   have kk3 : Chg [gr] (w) W1 := Chg.step ((Chg.refl _).more (by simp)) ch1 ⟨.inl (by simp), trivial⟩
   have kk4 := Chg.step kk3 ch2 ⟨.inl (by simp), trivial⟩
   refine Wk.ret (.slice none 0 0) rfl (by kernel_rfl) ?_
   exact ⟨at1, true, none, 0, 0, [], rfl, ⟨by omega, by omega⟩, hb1, Mur.Step.many_big readA_less hst1 (by omega) [], ⟨ownR_nil _ _ _ (by decide), (by simp)⟩, kk4⟩
  refine rQ 6 14 _ rfl rfl (qboolF (b := decide (((v1 : Nat) : Int) > ((n : Nat) : Int))) (decide_eq_false (by first | exact hx1 | omega))) ?_
  refine rEnd 7 rfl (nxt (wp_cond_false (by kernel_rfl) (wp_skip (nxt (wp_seq (wp_block ?_))))))
  refine Wk.loop (fun m_ a wr => ∃ (l : List (Att)) (m : Nat) (at2 : Nat) (bad2 : Bool) (A1 : Option Addr) (N1 : Nat) (c1 : Nat), m_ = m ∧ a = SevA_F2 a.tmps (pt gr 0) (.func (.func 39) #[pt gr 0] #[]) (.slice A1 N1 c1) (.int .i64 ((m : Nat) : Int)) ∧ l.length + m = v1 ∧ Mur.OwnR wr w.heap.size 36 97 A1 N1 c1 (l.map attL) ∧ wr.heap[gr]? = some (.cells #[.slice A n c, .int .i64 ((at2 : Nat) : Int), .bool bad2] 56 (0, 0)) ∧ (at1 ≤ at2 ∧ at2 ≤ n) ∧ Some_ Mur.readA b at1 at2 bad2 l ∧ (∀ x, x ∈ l → True) ∧ Chg [gr] w wr) (v1) ?_ ?_
  ·have kk5 : Chg [gr] (w) W1 := Chg.step ((Chg.refl _).more (by simp)) ch1 ⟨.inl (by simp), trivial⟩
   refine ⟨[], v1, at1, false, none, 0, 0, rfl, by kernel_rfl, (by simp), (ownR_nil _ _ _ (by decide)), hr1, ⟨by omega, by omega⟩, Some_.nil, (by simp), kk5⟩
  rintro mm1 aa1 W3 ⟨l, m, at2, bad2, A1, N1, c1, hmm1, hF1, hlm, hO, hrc, hat2, hso, hQ, HB⟩
  generalize aa1.tmps = bb1 at hF1
  subst hF1
  have hzB := HB.size
  have hOn := hO.nc
  have hOc := hO.cm
  have hOl := hO.len
  rw [List.length_map] at hOl
  refine wp_seq (wp_seq (reg ?_))
  refine rP 0 18 (.int .i64 ((m : Nat) : Int)) rfl rfl ?_
  by_cases hx3 : ((m : Nat) : Int) > (0 : Int)
  ·refine rQ 1 19 _ rfl rfl (qboolT (b := decide (((m : Nat) : Int) > (0 : Int))) (decide_eq_true (by first | exact hx3 | omega))) ?_
   refine rP 2 20 (.bool true) rfl rfl ?_
   refine rP 3 21 (pt gr 0) rfl rfl ?_
   refine rP 4 22 (pt gr 0) rfl rfl ?_
   refine rP 5 23 (pt gr 2) rfl rfl ?_
   refine rQ 6 24 _ rfl rfl (ld 4 23 gr 2 (.bool bad2) ((cell_of_row _ _ 2 _ _ _ hrc).trans rfl)) ?_
   refine rP 7 25 (.bool (!bad2)) rfl rfl ?_
   refine rP 8 26 (.bool (!bad2)) rfl rfl ?_
   refine rEnd 9 rfl (nxt ?_)
   cases bad2
   ·refine wp_cond_true (by kernel_rfl) (wp_skip (nxt (wp_seq (wp_block (reg ?_)))))
    refine rP 0 29 (.slice A1 N1 c1) rfl rfl ?_
    refine rP 1 30 (.func (.func 39) #[pt gr 0] #[]) rfl rfl ?_
    refine Wk.rCallM 2 (some 31) (.tmp 30) 39 #[pt gr 0] [] #[] [] rfl rfl (by kernel_rfl) rfl (by kernel_rfl) (by kernel_rfl) (by kernel_rfl) ?_
    refine (Rattest_any gr A n c b at2 false W3 hrc (byt_chgp hb HB (fun g off e hn hl => ⟨by have := hne g off e hn; omega, trivial⟩)) ⟨by omega, by omega⟩ hneb (by omega) (by omega)).mono ?_
    rintro _ W4 ⟨at2, bad2, y1, rfl, hat2, hr2, hst2, ch3⟩
    have zz3 := ch3.size
    refine ⟨_, rfl, ?_⟩
    refine rX 3 32 rfl rfl (Mur.buildR1 30 36 (.tmp 31) rfl Tryd.underlying30 (Mur.attC z32 z32 0 z32) 97 104 (by kernel_rfl) (by kernel_rfl) (by decide) (by decide) (attL y1) (attL_len y1) (by kernel_rfl)) ?_
    rintro _ W5 ⟨rfl, hb2, ch4, sz1⟩
    have zz4 := ch4.size
    have ow1 := Mur.OwnR.chg hO (by decide) ch3 (fun q e _ _ => ⟨by have := hO.lt q e; omega, trivial⟩)
    have ow2 := Mur.OwnR.chg ow1 (by decide) ch4 (fun q e _ _ => trivial)
    refine rX 4 33 rfl rfl (Mur.appendR (.tmp 29) (.tmp 32) 30 36 rfl Tryd.underlying30 (.agg (Mur.attC z32 z32 0 z32).toArray) 97 104 (by kernel_rfl) (by kernel_rfl) (by decide) (by decide) w.heap.size A1 N1 c1 (l.map attL) (some ⟨W4.heap.size, 0, none⟩) 1 1 [(attL y1)] (by kernel_rfl) (by kernel_rfl) ow2 (slR_box (attL_len y1) Mur.attC_one hb2) (fun h => by cases h) (by omega) (by omega) (N1 + 1) rfl) ?_
    rintro _ W6 ⟨AA1, nn1, rfl, ow3, ch5, ha1⟩
    have zz5 := ch5.size
    have ow4 : Mur.OwnR W6 w.heap.size 36 97 AA1 (N1 + 1) nn1 ((l ++ [y1]).map attL) := by rw [List.map_append]; exact ow3
    have hq1 := ow4.nc
    have hq2 := ow4.cm
    refine rP 5 4 (.slice AA1 (N1 + 1) nn1) rfl rfl ?_
    refine rEnd 6 rfl (inN (nxt (reg ?_)))
    refine rP 0 27 (.int .i64 ((m : Nat) : Int)) rfl rfl ?_
    refine rQ 1 28 _ rfl rfl (qint64 (n := ((m : Nat) : Int) - 1) (z := ((m - 1 : Nat) : Int)) (by omega) (by omega) (by omega)) ?_
    refine rP 2 5 (.int .i64 ((m - 1 : Nat) : Int)) rfl rfl ?_
    refine rEnd 3 rfl (nxt ?_)
    have kk6 := Chg.step HB ch3 ⟨.inl (by simp), trivial⟩
    have kk7 := Chg.step kk6 ch4 trivial
    have kk8 := Chg.step kk7 ch5 (newOr_blk (fun g hg => by have := hO.lt g hg; omega))
    refine ⟨_, ?_, l ++ [y1], m - 1, at2, bad2, AA1, N1 + 1, nn1, rfl, by kernel_rfl, (by rw [List.length_append, List.length_singleton]; omega), ow4, (Chg.hp ch5 (Chg.hp ch4 hr2 trivial) (off_blk (fun gz hgz => by have := hO.lt gz hgz; omega))), ⟨by omega, by omega⟩, (Some_.snoc hso hst2), (fun _ _ => trivial), kk8⟩
    omega
   refine wp_cond_false (by kernel_rfl) (wp_exit (thX (thX (inX (nxt (wp_seq (reg ?_)))))))
   refine rP 0 34 (.slice A1 N1 c1) rfl rfl ?_
   refine rP 1 4 (.slice A1 N1 c1) rfl rfl ?_
   refine rEnd 2 rfl (nxt (wp_ret ?_))
   refine Wk.ret (.slice A1 N1 c1) rfl (by kernel_rfl) ?_
   exact ⟨at2, true, A1, N1, c1, l, rfl, ⟨by omega, by omega⟩, hrc, Mur.Step.many hst1 hso (by omega) (fun e_ => by cases e_), ⟨hO, hQ⟩, HB⟩
  refine rQ 1 19 _ rfl rfl (qboolF (b := decide (((m : Nat) : Int) > (0 : Int))) (decide_eq_false (by first | exact hx3 | omega))) ?_
  refine rP 2 20 (.bool false) rfl rfl ?_
  refine rPass 3 (some 21) rfl rfl (by kernel_rfl) ?_
  refine rPass 4 (some 22) rfl rfl (by kernel_rfl) ?_
  refine rPass 5 (some 23) rfl rfl (by kernel_rfl) ?_
  refine rPass 6 (some 24) rfl rfl (by kernel_rfl) ?_
  refine rPass 7 (some 25) rfl rfl (by kernel_rfl) ?_
  refine rP 8 26 (.bool false) rfl rfl ?_
  refine rEnd 9 rfl (nxt (wp_cond_false (by kernel_rfl) (wp_exit (thX (thX (inX (nxt (wp_seq (reg ?_)))))))))
  refine rP 0 34 (.slice A1 N1 c1) rfl rfl ?_
  refine rP 1 4 (.slice A1 N1 c1) rfl rfl ?_
  refine rEnd 2 rfl (nxt (wp_ret ?_))
  refine Wk.ret (.slice A1 N1 c1) rfl (by kernel_rfl) ?_
  exact ⟨at2, bad2, A1, N1, c1, l, rfl, ⟨by omega, by omega⟩, hrc, Mur.Step.many hst1 hso (by omega) (fun e_ => by omega), ⟨hO, hQ⟩, HB⟩
 refine ⟨_, rfl, ?_⟩
 refine rP 2 5 (.int .i64 ((v1 : Nat) : Int)) rfl rfl ?_
 refine rEnd 3 rfl (nxt (wp_seq (wp_seq (reg ?_))))
 refine rP 0 8 (.int .i64 ((v1 : Nat) : Int)) rfl rfl ?_
 refine rP 1 9 (pt gr 0) rfl rfl ?_
 refine rP 2 10 (pt gr 0) rfl rfl ?_
 refine rP 3 11 (pt gr 0) rfl rfl ?_
 refine rQ 4 12 _ rfl rfl (ld 22 11 gr 0 (.slice A n c) ((cell_of_row _ _ 0 _ _ _ hr1).trans rfl)) ?_
 refine rP 5 13 (.int .i64 ((n : Nat) : Int)) rfl rfl ?_
 by_cases hx4 : ((v1 : Nat) : Int) > ((n : Nat) : Int)
 ·refine rQ 6 14 _ rfl rfl (qboolT (b := decide (((v1 : Nat) : Int) > ((n : Nat) : Int))) (decide_eq_true (by first | exact hx4 | omega))) ?_
  refine rEnd 7 rfl (nxt (wp_cond_true (by kernel_rfl) (reg ?_)))
  refine rP 0 15 (pt gr 0) rfl rfl ?_
  refine rP 1 16 (pt gr 0) rfl rfl ?_
  refine rP 2 17 (pt gr 2) rfl rfl ?_
  refine rY 3 rfl rfl (store1 4 (.tmp 17) (.const (.bool true)) rfl (by kernel_rfl) gr 2 (by kernel_rfl) (.bool true) (by kernel_rfl) rfl 56 #[.slice A n c, .int .i64 ((at1 : Nat) : Int), .bool true] hr1 (by simp)) ?_
  rintro W7 ⟨hb3, ch6⟩
  replace hb3 : W7.heap[gr]? = some (.cells #[.slice A n c, .int .i64 ((at1 : Nat) : Int), .bool true] 56 (0, 0)) := hb3
  have zz6 := ch6.size
  refine rEnd 4 rfl (nxt (wp_seq (wp_block ?_)))
  refine Wk.loopN 2 ?_
  refine Wk.rdS (wp_seq (wp_seq (reg ?_)))
  refine rP 0 18 (.int .i64 ((v1 : Nat) : Int)) rfl rfl ?_
  by_cases hx5 : ((v1 : Nat) : Int) > (0 : Int)
  ·refine rQ 1 19 _ rfl rfl (qboolT (b := decide (((v1 : Nat) : Int) > (0 : Int))) (decide_eq_true (by first | exact hx5 | omega))) ?_
   refine rP 2 20 (.bool true) rfl rfl ?_
   refine rP 3 21 (pt gr 0) rfl rfl ?_
   refine rP 4 22 (pt gr 0) rfl rfl ?_
   refine rP 5 23 (pt gr 2) rfl rfl ?_
   refine rQ 6 24 _ rfl rfl (ld 4 23 gr 2 (.bool true) ((cell_of_row _ _ 2 _ _ _ hb3).trans rfl)) ?_
   refine rP 7 25 (.bool false) rfl rfl ?_
   refine rP 8 26 (.bool false) rfl rfl ?_
   refine rEnd 9 rfl (nxt (wp_cond_false (by kernel_rfl) (wp_exit (thX (thX (inX (nxt (wp_seq (reg ?_)))))))))
   refine rP 0 34 (.slice none 0 0) rfl rfl ?_
   refine rP 1 4 (.slice none 0 0) rfl rfl ?_
   refine rEnd 2 rfl (nxt (wp_ret ?_))
   have kk9 : Chg [gr] (w) W1 := Chg.step ((Chg.refl _).more (by simp)) ch1 ⟨.inl (by simp), trivial⟩
   have kk10 := Chg.step kk9 ch6 ⟨.inl (by simp), trivial⟩
   refine Wk.ret (.slice none 0 0) rfl (by kernel_rfl) ?_
   exact ⟨at1, true, none, 0, 0, [], rfl, ⟨by omega, by omega⟩, hb3, Mur.Step.many_bad hst1 [], ⟨ownR_nil _ _ _ (by decide), (by simp)⟩, kk10⟩
  refine rQ 1 19 _ rfl rfl (qboolF (b := decide (((v1 : Nat) : Int) > (0 : Int))) (decide_eq_false (by first | exact hx5 | omega))) ?_
  refine rP 2 20 (.bool false) rfl rfl ?_
  refine rPass 3 (some 21) rfl rfl (by kernel_rfl) ?_
  refine rPass 4 (some 22) rfl rfl (by kernel_rfl) ?_
  refine rPass 5 (some 23) rfl rfl (by kernel_rfl) ?_
  refine rPass 6 (some 24) rfl rfl (by kernel_rfl) ?_
  refine rPass 7 (some 25) rfl rfl (by kernel_rfl) ?_
  refine rP 8 26 (.bool false) rfl rfl ?_
  refine rEnd 9 rfl (nxt (wp_cond_false (by kernel_rfl) (wp_exit (thX (thX (inX (nxt (wp_seq (reg ?_)))))))))
  refine rP 0 34 (.slice none 0 0) rfl rfl ?_
  refine rP 1 4 (.slice none 0 0) rfl rfl ?_
  refine rEnd 2 rfl (nxt (wp_ret ?_))
  have kk11 : Chg [gr] (w) W1 := Chg.step ((Chg.refl _).more (by simp)) ch1 ⟨.inl (by simp), trivial⟩
  have kk12 := Chg.step kk11 ch6 ⟨.inl (by simp), trivial⟩
  refine Wk.ret (.slice none 0 0) rfl (by kernel_rfl) ?_
  exact ⟨at1, true, none, 0, 0, [], rfl, ⟨by omega, by omega⟩, hb3, Mur.Step.many_bad hst1 [], ⟨ownR_nil _ _ _ (by decide), (by simp)⟩, kk12⟩
 refine rQ 6 14 _ rfl rfl (qboolF (b := decide (((v1 : Nat) : Int) > ((n : Nat) : Int))) (decide_eq_false (by first | exact hx4 | omega))) ?_
 refine rEnd 7 rfl (nxt (wp_cond_false (by kernel_rfl) (wp_skip (nxt (wp_seq (wp_block ?_))))))
 refine Wk.loopN 2 ?_
 refine Wk.rdS (wp_seq (wp_seq (reg ?_)))
 refine rP 0 18 (.int .i64 ((v1 : Nat) : Int)) rfl rfl ?_
 by_cases hx6 : ((v1 : Nat) : Int) > (0 : Int)
 ·refine rQ 1 19 _ rfl rfl (qboolT (b := decide (((v1 : Nat) : Int) > (0 : Int))) (decide_eq_true (by first | exact hx6 | omega))) ?_
  refine rP 2 20 (.bool true) rfl rfl ?_
  refine rP 3 21 (pt gr 0) rfl rfl ?_
  refine rP 4 22 (pt gr 0) rfl rfl ?_
  refine rP 5 23 (pt gr 2) rfl rfl ?_
  refine rQ 6 24 _ rfl rfl (ld 4 23 gr 2 (.bool true) ((cell_of_row _ _ 2 _ _ _ hr1).trans rfl)) ?_
  refine rP 7 25 (.bool false) rfl rfl ?_
  refine rP 8 26 (.bool false) rfl rfl ?_
  refine rEnd 9 rfl (nxt (wp_cond_false (by kernel_rfl) (wp_exit (thX (thX (inX (nxt (wp_seq (reg ?_)))))))))
  refine rP 0 34 (.slice none 0 0) rfl rfl ?_
  refine rP 1 4 (.slice none 0 0) rfl rfl ?_
  refine rEnd 2 rfl (nxt (wp_ret ?_))
  have kk13 : Chg [gr] (w) W1 := Chg.step ((Chg.refl _).more (by simp)) ch1 ⟨.inl (by simp), trivial⟩
  refine Wk.ret (.slice none 0 0) rfl (by kernel_rfl) ?_
  exact ⟨at1, true, none, 0, 0, [], rfl, ⟨by omega, by omega⟩, hr1, Mur.Step.many_bad hst1 [], ⟨ownR_nil _ _ _ (by decide), (by simp)⟩, kk13⟩
 refine rQ 1 19 _ rfl rfl (qboolF (b := decide (((v1 : Nat) : Int) > (0 : Int))) (decide_eq_false (by first | exact hx6 | omega))) ?_
 refine rP 2 20 (.bool false) rfl rfl ?_
 refine rPass 3 (some 21) rfl rfl (by kernel_rfl) ?_
 refine rPass 4 (some 22) rfl rfl (by kernel_rfl) ?_
 refine rPass 5 (some 23) rfl rfl (by kernel_rfl) ?_
 refine rPass 6 (some 24) rfl rfl (by kernel_rfl) ?_
 refine rPass 7 (some 25) rfl rfl (by kernel_rfl) ?_
 refine rP 8 26 (.bool false) rfl rfl ?_
 refine rEnd 9 rfl (nxt (wp_cond_false (by kernel_rfl) (wp_exit (thX (thX (inX (nxt (wp_seq (reg ?_)))))))))
 refine rP 0 34 (.slice none 0 0) rfl rfl ?_
 refine rP 1 4 (.slice none 0 0) rfl rfl ?_
 refine rEnd 2 rfl (nxt (wp_ret ?_))
 have kk14 : Chg [gr] (w) W1 := Chg.step ((Chg.refl _).more (by simp)) ch1 ⟨.inl (by simp), trivial⟩
 refine Wk.ret (.slice none 0 0) rfl (by kernel_rfl) ?_
 exact ⟨at1, true, none, 0, 0, [], rfl, ⟨by omega, by omega⟩, hr1, Mur.Step.many_bad hst1 [], ⟨ownR_nil _ _ _ (by decide), (by simp)⟩, kk14⟩
theorem SeveralD_any (gr : Nat) (A : Option Addr) (n c : Nat) (b : List UInt8) (at_ : Nat) (bad : Bool) (w : World) (hr : w.heap[gr]? = some (.cells #[.slice A n c, .int .i64 ((at_ : Nat) : Int), .bool bad] 56 (0, 0))) (hb : Byt w A n b) (hnc : n ≤ c ∧ c ≤ 9223372036854775807) (hneb : ∀ a, A = some a → 0 < n → a.block ≠ gr) (hat : at_ ≤ n) (hn : n ≤ 100000) : Calls Tryd.prog 41 #[pt gr 0, .func (.func 20) #[pt gr 0] #[]] w fun e w' => ∃ (at2 : Nat) (bad2 : Bool) (A1 : Option Addr) (n1 c1 : Nat) (l : List (List UInt8)), e = .returned (.slice A1 n1 c1) ∧ (at_ ≤ at2 ∧ at2 ≤ n) ∧ w'.heap[gr]? = some (.cells #[.slice A n c, .int .i64 ((at2 : Nat) : Int), .bool bad2] 56 (0, 0)) ∧ Mur.Step (Mur.readL (Mur.readS 32)) b at_ bad at2 bad2 l ∧ (Mur.OwnR w' w.heap.size 29 32 A1 n1 c1 (l.map b8s) ∧ ∀ x, x ∈ l → x.length = 32) ∧ Chg [gr] w w' := by
 have hne : ∀ g off, A = some ⟨g, off, none⟩ → 0 < n → g ≠ gr := fun g off e hn => hneb _ e hn
 have hbl_ := hb.1
 have hn_ := hn
 have hgl_ := (Array.getElem?_eq_some_iff.1 hr).1
 refine calls_of_wp Tryd.func41 rfl ?_
 refine wp_seq (reg ?_)
 refine rP 0 4 (.slice none 0 0) rfl rfl ?_
 refine rEnd 1 rfl (nxt (wp_seq (reg ?_)))
 refine rP 0 6 (pt gr 0) rfl rfl ?_
 refine rC 1 7 17 [.tmp 6] #[54] [pt gr 0] rfl rfl rfl ?_
 refine (Rint_any gr A n c b at_ bad w hr hb ⟨by omega, by omega⟩ hneb (by omega) (by omega)).mono ?_
 rintro _ W1 ⟨at1, bad1, v1, rfl, hat1, hr1, hst1, hlt1, ch1⟩
 have zz1 := ch1.size
 cases bad1
 ·refine ⟨_, rfl, ?_⟩
  refine rP 2 5 (.int .i64 ((v1 : Nat) : Int)) rfl rfl ?_
  refine rEnd 3 rfl (nxt (wp_seq (wp_seq (reg ?_))))
  refine rP 0 8 (.int .i64 ((v1 : Nat) : Int)) rfl rfl ?_
  refine rP 1 9 (pt gr 0) rfl rfl ?_
  refine rP 2 10 (pt gr 0) rfl rfl ?_
  refine rP 3 11 (pt gr 0) rfl rfl ?_
  refine rQ 4 12 _ rfl rfl (ld 22 11 gr 0 (.slice A n c) ((cell_of_row _ _ 0 _ _ _ hr1).trans rfl)) ?_
  refine rP 5 13 (.int .i64 ((n : Nat) : Int)) rfl rfl ?_
  by_cases hx1 : ((v1 : Nat) : Int) > ((n : Nat) : Int)
  ·refine rQ 6 14 _ rfl rfl (qboolT (b := decide (((v1 : Nat) : Int) > ((n : Nat) : Int))) (decide_eq_true (by first | exact hx1 | omega))) ?_
   refine rEnd 7 rfl (nxt (wp_cond_true (by kernel_rfl) (reg ?_)))
   refine rP 0 15 (pt gr 0) rfl rfl ?_
   refine rP 1 16 (pt gr 0) rfl rfl ?_
   refine rP 2 17 (pt gr 2) rfl rfl ?_
   refine rY 3 rfl rfl (store1 4 (.tmp 17) (.const (.bool true)) rfl (by kernel_rfl) gr 2 (by kernel_rfl) (.bool true) (by kernel_rfl) rfl 56 #[.slice A n c, .int .i64 ((at1 : Nat) : Int), .bool false] hr1 (by simp)) ?_
   rintro W2 ⟨hb1, ch2⟩
   replace hb1 : W2.heap[gr]? = some (.cells #[.slice A n c, .int .i64 ((at1 : Nat) : Int), .bool true] 56 (0, 0)) := hb1
   have zz2 := ch2.size
   refine rEnd 4 rfl (nxt (wp_seq (wp_block ?_)))
   refine Wk.loopN 2 ?_
   refine Wk.rdS (wp_seq (wp_seq (reg ?_)))
   refine rP 0 18 (.int .i64 ((v1 : Nat) : Int)) rfl rfl ?_
   by_cases hx2 : ((v1 : Nat) : Int) > (0 : Int)
   ·refine rQ 1 19 _ rfl rfl (qboolT (b := decide (((v1 : Nat) : Int) > (0 : Int))) (decide_eq_true (by first | exact hx2 | omega))) ?_
    refine rP 2 20 (.bool true) rfl rfl ?_
    refine rP 3 21 (pt gr 0) rfl rfl ?_
    refine rP 4 22 (pt gr 0) rfl rfl ?_
    refine rP 5 23 (pt gr 2) rfl rfl ?_
    refine rQ 6 24 _ rfl rfl (ld 4 23 gr 2 (.bool true) ((cell_of_row _ _ 2 _ _ _ hb1).trans rfl)) ?_
    refine rP 7 25 (.bool false) rfl rfl ?_
    refine rP 8 26 (.bool false) rfl rfl ?_
    refine rEnd 9 rfl (nxt (wp_cond_false (by kernel_rfl) (wp_exit (thX (thX (inX (nxt (wp_seq (reg ?_)))))))))
    refine rP 0 34 (.slice none 0 0) rfl rfl ?_
    refine rP 1 4 (.slice none 0 0) rfl rfl ?_
    refine rEnd 2 rfl (nxt (wp_ret ?_))
    have kk1 : Chg [gr] (w) W1 := Chg.step ((Chg.refl _).more (by simp)) ch1 ⟨.inl (by simp), trivial⟩
    have kk2 := Chg.step kk1 ch2 ⟨.inl (by simp), trivial⟩
    refine Wk.ret (.slice none 0 0) rfl (by kernel_rfl) ?_
    exact ⟨at1, true, none, 0, 0, [], rfl, ⟨by omega, by omega⟩, hb1, Mur.Step.many_big readD_less hst1 (by omega) [], ⟨ownR_nil _ _ _ (by decide), (by simp)⟩, kk2⟩
   refine rQ 1 19 _ rfl rfl (qboolF (b := decide (((v1 : Nat) : Int) > (0 : Int))) (decide_eq_false (by first | exact hx2 | omega))) ?_
   refine rP 2 20 (.bool false) rfl rfl ?_
   refine rPass 3 (some 21) rfl rfl (by kernel_rfl) ?_
   refine rPass 4 (some 22) rfl rfl (by kernel_rfl) ?_
   refine rPass 5 (some 23) rfl rfl (by kernel_rfl) ?_
   refine rPass 6 (some 24) rfl rfl (by kernel_rfl) ?_
   refine rPass 7 (some 25) rfl rfl (by kernel_rfl) ?_
   refine rP 8 26 (.bool false) rfl rfl ?_
   refine rEnd 9 rfl (nxt (wp_cond_false (by kernel_rfl) (wp_exit (thX (thX (inX (nxt (wp_seq (reg ?_)))))))))
   refine rP 0 34 (.slice none 0 0) rfl rfl ?_
   refine rP 1 4 (.slice none 0 0) rfl rfl ?_
   refine rEnd 2 rfl (nxt (wp_ret ?_))
   have kk3 : Chg [gr] (w) W1 := Chg.step ((Chg.refl _).more (by simp)) ch1 ⟨.inl (by simp), trivial⟩
   have kk4 := Chg.step kk3 ch2 ⟨.inl (by simp), trivial⟩
   refine Wk.ret (.slice none 0 0) rfl (by kernel_rfl) ?_
   exact ⟨at1, true, none, 0, 0, [], rfl, ⟨by omega, by omega⟩, hb1, Mur.Step.many_big readD_less hst1 (by omega) [], ⟨ownR_nil _ _ _ (by decide), (by simp)⟩, kk4⟩
  refine rQ 6 14 _ rfl rfl (qboolF (b := decide (((v1 : Nat) : Int) > ((n : Nat) : Int))) (decide_eq_false (by first | exact hx1 | omega))) ?_
  refine rEnd 7 rfl (nxt (wp_cond_false (by kernel_rfl) (wp_skip (nxt (wp_seq (wp_block ?_))))))
  refine Wk.loop (fun m_ a wr => ∃ (l : List (List UInt8)) (m : Nat) (at2 : Nat) (bad2 : Bool) (A1 : Option Addr) (N1 : Nat) (c1 : Nat), m_ = m ∧ a = SevD_F2 a.tmps (pt gr 0) (.func (.func 20) #[pt gr 0] #[]) (.slice A1 N1 c1) (.int .i64 ((m : Nat) : Int)) ∧ l.length + m = v1 ∧ Mur.OwnR wr w.heap.size 29 32 A1 N1 c1 (l.map b8s) ∧ wr.heap[gr]? = some (.cells #[.slice A n c, .int .i64 ((at2 : Nat) : Int), .bool bad2] 56 (0, 0)) ∧ (at1 ≤ at2 ∧ at2 ≤ n) ∧ Some_ (Mur.readS 32) b at1 at2 bad2 l ∧ (∀ x, x ∈ l → x.length = 32) ∧ Chg [gr] w wr) (v1) ?_ ?_
  ·have kk5 : Chg [gr] (w) W1 := Chg.step ((Chg.refl _).more (by simp)) ch1 ⟨.inl (by simp), trivial⟩
   refine ⟨[], v1, at1, false, none, 0, 0, rfl, by kernel_rfl, (by simp), (ownR_nil _ _ _ (by decide)), hr1, ⟨by omega, by omega⟩, Some_.nil, (by simp), kk5⟩
  rintro mm1 aa1 W3 ⟨l, m, at2, bad2, A1, N1, c1, hmm1, hF1, hlm, hO, hrc, hat2, hso, hQ, HB⟩
  generalize aa1.tmps = bb1 at hF1
  subst hF1
  have hzB := HB.size
  have hOn := hO.nc
  have hOc := hO.cm
  have hOl := hO.len
  rw [List.length_map] at hOl
  refine wp_seq (wp_seq (reg ?_))
  refine rP 0 18 (.int .i64 ((m : Nat) : Int)) rfl rfl ?_
  by_cases hx3 : ((m : Nat) : Int) > (0 : Int)
  ·refine rQ 1 19 _ rfl rfl (qboolT (b := decide (((m : Nat) : Int) > (0 : Int))) (decide_eq_true (by first | exact hx3 | omega))) ?_
   refine rP 2 20 (.bool true) rfl rfl ?_
   refine rP 3 21 (pt gr 0) rfl rfl ?_
   refine rP 4 22 (pt gr 0) rfl rfl ?_
   refine rP 5 23 (pt gr 2) rfl rfl ?_
   refine rQ 6 24 _ rfl rfl (ld 4 23 gr 2 (.bool bad2) ((cell_of_row _ _ 2 _ _ _ hrc).trans rfl)) ?_
   refine rP 7 25 (.bool (!bad2)) rfl rfl ?_
   refine rP 8 26 (.bool (!bad2)) rfl rfl ?_
   refine rEnd 9 rfl (nxt ?_)
   cases bad2
   ·refine wp_cond_true (by kernel_rfl) (wp_skip (nxt (wp_seq (wp_block (reg ?_)))))
    refine rP 0 29 (.slice A1 N1 c1) rfl rfl ?_
    refine rP 1 30 (.func (.func 20) #[pt gr 0] #[]) rfl rfl ?_
    refine Wk.rCallM 2 (some 31) (.tmp 30) 20 #[pt gr 0] [] #[] [] rfl rfl (by kernel_rfl) rfl (by kernel_rfl) (by kernel_rfl) (by kernel_rfl) ?_
    refine (Rdigest_any gr A n c b at2 false W3 hrc (byt_chgp hb HB (fun g off e hn hl => ⟨by have := hne g off e hn; omega, trivial⟩)) ⟨by omega, by omega⟩ hneb (by omega) (by omega)).mono ?_
    rintro _ W4 ⟨at2, bad2, x1, rfl, hat2, hr2, hst2, hl1, ch3⟩
    have zz3 := ch3.size
    refine ⟨_, rfl, ?_⟩
    refine rX 3 32 rfl rfl (Mur.buildR1 37 29 (.tmp 31) rfl Tryd.underlying37 (b8s z32) 32 32 (by kernel_rfl) (by kernel_rfl) (by decide) (by decide) (b8s x1) (by rw [b8s_length, hl1]) (by kernel_rfl)) ?_
    rintro _ W5 ⟨rfl, hb2, ch4, sz1⟩
    have zz4 := ch4.size
    have ow1 := Mur.OwnR.chg hO (by decide) ch3 (fun q e _ _ => ⟨by have := hO.lt q e; omega, trivial⟩)
    have ow2 := Mur.OwnR.chg ow1 (by decide) ch4 (fun q e _ _ => trivial)
    refine rX 4 33 rfl rfl (Mur.appendR (.tmp 29) (.tmp 32) 37 29 rfl Tryd.underlying37 (.agg (b8s z32).toArray) 32 32 (by kernel_rfl) (by kernel_rfl) (by decide) (by decide) w.heap.size A1 N1 c1 (l.map b8s) (some ⟨W4.heap.size, 0, none⟩) 1 1 [(b8s x1)] (by kernel_rfl) (by kernel_rfl) ow2 (slR_box (by rw [b8s_length, hl1]) (Mur.b8s_one x1) hb2) (fun h => by cases h) (by omega) (by omega) (N1 + 1) rfl) ?_
    rintro _ W6 ⟨AA1, nn1, rfl, ow3, ch5, ha1⟩
    have zz5 := ch5.size
    have ow4 : Mur.OwnR W6 w.heap.size 29 32 AA1 (N1 + 1) nn1 ((l ++ [x1]).map b8s) := by rw [List.map_append]; exact ow3
    have hq1 := ow4.nc
    have hq2 := ow4.cm
    refine rP 5 4 (.slice AA1 (N1 + 1) nn1) rfl rfl ?_
    refine rEnd 6 rfl (inN (nxt (reg ?_)))
    refine rP 0 27 (.int .i64 ((m : Nat) : Int)) rfl rfl ?_
    refine rQ 1 28 _ rfl rfl (qint64 (n := ((m : Nat) : Int) - 1) (z := ((m - 1 : Nat) : Int)) (by omega) (by omega) (by omega)) ?_
    refine rP 2 5 (.int .i64 ((m - 1 : Nat) : Int)) rfl rfl ?_
    refine rEnd 3 rfl (nxt ?_)
    have kk6 := Chg.step HB ch3 ⟨.inl (by simp), trivial⟩
    have kk7 := Chg.step kk6 ch4 trivial
    have kk8 := Chg.step kk7 ch5 (newOr_blk (fun g hg => by have := hO.lt g hg; omega))
    refine ⟨_, ?_, l ++ [x1], m - 1, at2, bad2, AA1, N1 + 1, nn1, rfl, by kernel_rfl, (by rw [List.length_append, List.length_singleton]; omega), ow4, (Chg.hp ch5 (Chg.hp ch4 hr2 trivial) (off_blk (fun gz hgz => by have := hO.lt gz hgz; omega))), ⟨by omega, by omega⟩, (Some_.snoc hso hst2), (fun y_ hy_ => by rcases List.mem_append.1 hy_ with h1_ | h1_ <;> first | exact hQ y_ h1_ | (rw [List.mem_singleton.1 h1_]; exact hl1)), kk8⟩
    omega
   refine wp_cond_false (by kernel_rfl) (wp_exit (thX (thX (inX (nxt (wp_seq (reg ?_)))))))
   refine rP 0 34 (.slice A1 N1 c1) rfl rfl ?_
   refine rP 1 4 (.slice A1 N1 c1) rfl rfl ?_
   refine rEnd 2 rfl (nxt (wp_ret ?_))
   refine Wk.ret (.slice A1 N1 c1) rfl (by kernel_rfl) ?_
   exact ⟨at2, true, A1, N1, c1, l, rfl, ⟨by omega, by omega⟩, hrc, Mur.Step.many hst1 hso (by omega) (fun e_ => by cases e_), ⟨hO, hQ⟩, HB⟩
  refine rQ 1 19 _ rfl rfl (qboolF (b := decide (((m : Nat) : Int) > (0 : Int))) (decide_eq_false (by first | exact hx3 | omega))) ?_
  refine rP 2 20 (.bool false) rfl rfl ?_
  refine rPass 3 (some 21) rfl rfl (by kernel_rfl) ?_
  refine rPass 4 (some 22) rfl rfl (by kernel_rfl) ?_
  refine rPass 5 (some 23) rfl rfl (by kernel_rfl) ?_
  refine rPass 6 (some 24) rfl rfl (by kernel_rfl) ?_
  refine rPass 7 (some 25) rfl rfl (by kernel_rfl) ?_
  refine rP 8 26 (.bool false) rfl rfl ?_
  refine rEnd 9 rfl (nxt (wp_cond_false (by kernel_rfl) (wp_exit (thX (thX (inX (nxt (wp_seq (reg ?_)))))))))
  refine rP 0 34 (.slice A1 N1 c1) rfl rfl ?_
  refine rP 1 4 (.slice A1 N1 c1) rfl rfl ?_
  refine rEnd 2 rfl (nxt (wp_ret ?_))
  refine Wk.ret (.slice A1 N1 c1) rfl (by kernel_rfl) ?_
  exact ⟨at2, bad2, A1, N1, c1, l, rfl, ⟨by omega, by omega⟩, hrc, Mur.Step.many hst1 hso (by omega) (fun e_ => by omega), ⟨hO, hQ⟩, HB⟩
 refine ⟨_, rfl, ?_⟩
 refine rP 2 5 (.int .i64 ((v1 : Nat) : Int)) rfl rfl ?_
 refine rEnd 3 rfl (nxt (wp_seq (wp_seq (reg ?_))))
 refine rP 0 8 (.int .i64 ((v1 : Nat) : Int)) rfl rfl ?_
 refine rP 1 9 (pt gr 0) rfl rfl ?_
 refine rP 2 10 (pt gr 0) rfl rfl ?_
 refine rP 3 11 (pt gr 0) rfl rfl ?_
 refine rQ 4 12 _ rfl rfl (ld 22 11 gr 0 (.slice A n c) ((cell_of_row _ _ 0 _ _ _ hr1).trans rfl)) ?_
 refine rP 5 13 (.int .i64 ((n : Nat) : Int)) rfl rfl ?_
 by_cases hx4 : ((v1 : Nat) : Int) > ((n : Nat) : Int)
 ·refine rQ 6 14 _ rfl rfl (qboolT (b := decide (((v1 : Nat) : Int) > ((n : Nat) : Int))) (decide_eq_true (by first | exact hx4 | omega))) ?_
  refine rEnd 7 rfl (nxt (wp_cond_true (by kernel_rfl) (reg ?_)))
  refine rP 0 15 (pt gr 0) rfl rfl ?_
  refine rP 1 16 (pt gr 0) rfl rfl ?_
  refine rP 2 17 (pt gr 2) rfl rfl ?_
  refine rY 3 rfl rfl (store1 4 (.tmp 17) (.const (.bool true)) rfl (by kernel_rfl) gr 2 (by kernel_rfl) (.bool true) (by kernel_rfl) rfl 56 #[.slice A n c, .int .i64 ((at1 : Nat) : Int), .bool true] hr1 (by simp)) ?_
  rintro W7 ⟨hb3, ch6⟩
  replace hb3 : W7.heap[gr]? = some (.cells #[.slice A n c, .int .i64 ((at1 : Nat) : Int), .bool true] 56 (0, 0)) := hb3
  have zz6 := ch6.size
  refine rEnd 4 rfl (nxt (wp_seq (wp_block ?_)))
  refine Wk.loopN 2 ?_
  refine Wk.rdS (wp_seq (wp_seq (reg ?_)))
  refine rP 0 18 (.int .i64 ((v1 : Nat) : Int)) rfl rfl ?_
  by_cases hx5 : ((v1 : Nat) : Int) > (0 : Int)
  ·refine rQ 1 19 _ rfl rfl (qboolT (b := decide (((v1 : Nat) : Int) > (0 : Int))) (decide_eq_true (by first | exact hx5 | omega))) ?_
   refine rP 2 20 (.bool true) rfl rfl ?_
   refine rP 3 21 (pt gr 0) rfl rfl ?_
   refine rP 4 22 (pt gr 0) rfl rfl ?_
   refine rP 5 23 (pt gr 2) rfl rfl ?_
   refine rQ 6 24 _ rfl rfl (ld 4 23 gr 2 (.bool true) ((cell_of_row _ _ 2 _ _ _ hb3).trans rfl)) ?_
   refine rP 7 25 (.bool false) rfl rfl ?_
   refine rP 8 26 (.bool false) rfl rfl ?_
   refine rEnd 9 rfl (nxt (wp_cond_false (by kernel_rfl) (wp_exit (thX (thX (inX (nxt (wp_seq (reg ?_)))))))))
   refine rP 0 34 (.slice none 0 0) rfl rfl ?_
   refine rP 1 4 (.slice none 0 0) rfl rfl ?_
   refine rEnd 2 rfl (nxt (wp_ret ?_))
   have kk9 : Chg [gr] (w) W1 := Chg.step ((Chg.refl _).more (by simp)) ch1 ⟨.inl (by simp), trivial⟩
   have kk10 := Chg.step kk9 ch6 ⟨.inl (by simp), trivial⟩
   refine Wk.ret (.slice none 0 0) rfl (by kernel_rfl) ?_
   exact ⟨at1, true, none, 0, 0, [], rfl, ⟨by omega, by omega⟩, hb3, Mur.Step.many_bad hst1 [], ⟨ownR_nil _ _ _ (by decide), (by simp)⟩, kk10⟩
  refine rQ 1 19 _ rfl rfl (qboolF (b := decide (((v1 : Nat) : Int) > (0 : Int))) (decide_eq_false (by first | exact hx5 | omega))) ?_
  refine rP 2 20 (.bool false) rfl rfl ?_
  refine rPass 3 (some 21) rfl rfl (by kernel_rfl) ?_
  refine rPass 4 (some 22) rfl rfl (by kernel_rfl) ?_
  refine rPass 5 (some 23) rfl rfl (by kernel_rfl) ?_
  refine rPass 6 (some 24) rfl rfl (by kernel_rfl) ?_
  refine rPass 7 (some 25) rfl rfl (by kernel_rfl) ?_
  refine rP 8 26 (.bool false) rfl rfl ?_
  refine rEnd 9 rfl (nxt (wp_cond_false (by kernel_rfl) (wp_exit (thX (thX (inX (nxt (wp_seq (reg ?_)))))))))
  refine rP 0 34 (.slice none 0 0) rfl rfl ?_
  refine rP 1 4 (.slice none 0 0) rfl rfl ?_
  refine rEnd 2 rfl (nxt (wp_ret ?_))
  have kk11 : Chg [gr] (w) W1 := Chg.step ((Chg.refl _).more (by simp)) ch1 ⟨.inl (by simp), trivial⟩
  have kk12 := Chg.step kk11 ch6 ⟨.inl (by simp), trivial⟩
  refine Wk.ret (.slice none 0 0) rfl (by kernel_rfl) ?_
  exact ⟨at1, true, none, 0, 0, [], rfl, ⟨by omega, by omega⟩, hb3, Mur.Step.many_bad hst1 [], ⟨ownR_nil _ _ _ (by decide), (by simp)⟩, kk12⟩
 refine rQ 6 14 _ rfl rfl (qboolF (b := decide (((v1 : Nat) : Int) > ((n : Nat) : Int))) (decide_eq_false (by first | exact hx4 | omega))) ?_
 refine rEnd 7 rfl (nxt (wp_cond_false (by kernel_rfl) (wp_skip (nxt (wp_seq (wp_block ?_))))))
 refine Wk.loopN 2 ?_
 refine Wk.rdS (wp_seq (wp_seq (reg ?_)))
 refine rP 0 18 (.int .i64 ((v1 : Nat) : Int)) rfl rfl ?_
 by_cases hx6 : ((v1 : Nat) : Int) > (0 : Int)
 ·refine rQ 1 19 _ rfl rfl (qboolT (b := decide (((v1 : Nat) : Int) > (0 : Int))) (decide_eq_true (by first | exact hx6 | omega))) ?_
  refine rP 2 20 (.bool true) rfl rfl ?_
  refine rP 3 21 (pt gr 0) rfl rfl ?_
  refine rP 4 22 (pt gr 0) rfl rfl ?_
  refine rP 5 23 (pt gr 2) rfl rfl ?_
  refine rQ 6 24 _ rfl rfl (ld 4 23 gr 2 (.bool true) ((cell_of_row _ _ 2 _ _ _ hr1).trans rfl)) ?_
  refine rP 7 25 (.bool false) rfl rfl ?_
  refine rP 8 26 (.bool false) rfl rfl ?_
  refine rEnd 9 rfl (nxt (wp_cond_false (by kernel_rfl) (wp_exit (thX (thX (inX (nxt (wp_seq (reg ?_)))))))))
  refine rP 0 34 (.slice none 0 0) rfl rfl ?_
  refine rP 1 4 (.slice none 0 0) rfl rfl ?_
  refine rEnd 2 rfl (nxt (wp_ret ?_))
  have kk13 : Chg [gr] (w) W1 := Chg.step ((Chg.refl _).more (by simp)) ch1 ⟨.inl (by simp), trivial⟩
  refine Wk.ret (.slice none 0 0) rfl (by kernel_rfl) ?_
  exact ⟨at1, true, none, 0, 0, [], rfl, ⟨by omega, by omega⟩, hr1, Mur.Step.many_bad hst1 [], ⟨ownR_nil _ _ _ (by decide), (by simp)⟩, kk13⟩
 refine rQ 1 19 _ rfl rfl (qboolF (b := decide (((v1 : Nat) : Int) > (0 : Int))) (decide_eq_false (by first | exact hx6 | omega))) ?_
 refine rP 2 20 (.bool false) rfl rfl ?_
 refine rPass 3 (some 21) rfl rfl (by kernel_rfl) ?_
 refine rPass 4 (some 22) rfl rfl (by kernel_rfl) ?_
 refine rPass 5 (some 23) rfl rfl (by kernel_rfl) ?_
 refine rPass 6 (some 24) rfl rfl (by kernel_rfl) ?_
 refine rPass 7 (some 25) rfl rfl (by kernel_rfl) ?_
 refine rP 8 26 (.bool false) rfl rfl ?_
 refine rEnd 9 rfl (nxt (wp_cond_false (by kernel_rfl) (wp_exit (thX (thX (inX (nxt (wp_seq (reg ?_)))))))))
 refine rP 0 34 (.slice none 0 0) rfl rfl ?_
 refine rP 1 4 (.slice none 0 0) rfl rfl ?_
 refine rEnd 2 rfl (nxt (wp_ret ?_))
 have kk14 : Chg [gr] (w) W1 := Chg.step ((Chg.refl _).more (by simp)) ch1 ⟨.inl (by simp), trivial⟩
 refine Wk.ret (.slice none 0 0) rfl (by kernel_rfl) ?_
 exact ⟨at1, true, none, 0, 0, [], rfl, ⟨by omega, by omega⟩, hr1, Mur.Step.many_bad hst1 [], ⟨ownR_nil _ _ _ (by decide), (by simp)⟩, kk14⟩
end Go.Proofs.YtgbadghjnpbiaaaDoor
