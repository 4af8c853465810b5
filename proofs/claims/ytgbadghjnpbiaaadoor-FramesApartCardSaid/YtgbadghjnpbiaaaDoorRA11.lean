/- What the row rests on, part 11. -/
import Derived.Test.YtgbadghjnpbiaaaDoorRA10
import Derived.Test.YtgbadghjnpbiaaaDoorRA6
import Derived.Test.YtgbadghjnpbiaaaDoorRA8
namespace Go.Proofs.YtgbadghjnpbiaaaDoor
open Go.RowKit Wk
open Mur (b8s Byt Own8 Seg Segs flat cutA attC Att SlA OwnA rowA msgC msg_pre byt_chg mayM_iff msg_cnt msg_items msg_ans u8_cast_inj attC_length z32 attC_size take_snoc)
set_option maxRecDepth 100000
set_option maxHeartbeats 4000000
def MayG_F1 (b : Array Value) (u1 : Value) (u43 : Value) (u44 : Value) (u45 : Value) : Act := ⟨#[gd b 0, u1, gd b 2, gd b 3, gd b 4, gd b 5, gd b 6, gd b 7, gd b 8, gd b 9, gd b 10, gd b 11, gd b 12, gd b 13, gd b 14, gd b 15, gd b 16, gd b 17, gd b 18, gd b 19, gd b 20, gd b 21, gd b 22, gd b 23, gd b 24, gd b 25, gd b 26, gd b 27, gd b 28, gd b 29, gd b 30, gd b 31, gd b 32, gd b 33, gd b 34, gd b 35, gd b 36, gd b 37, gd b 38, gd b 39, gd b 40, gd b 41, gd b 42, u43, u44, u45, gd b 46, gd b 47, gd b 48, gd b 49, gd b 50, gd b 51, gd b 52, gd b 53, gd b 54, gd b 55, gd b 56, gd b 57, gd b 58, gd b 59, gd b 60, gd b 61, gd b 62, gd b 63, gd b 64, gd b 65, gd b 66, gd b 67, gd b 68, gd b 69, gd b 70, gd b 71, gd b 72, gd b 73, gd b 74, gd b 75, gd b 76, gd b 77, gd b 78, gd b 79, gd b 80, gd b 81, gd b 82, gd b 83, gd b 84, gd b 85, gd b 86, gd b 87, gd b 88], []⟩
theorem May_any (kd : UInt8) (p : List UInt8) (PA : Option Addr) (pn pc : Nat) (s : List UInt8) (m : Int) (I : List Att) (A : Option Addr) (n c : Nat) (b : Bool) (w : World) (hs : s.length = 32) (hb : Byt w PA pn p) (hl : SlA w A n I) (hpn : pn ≤ 9223372036854775807) (hn : n ≤ 9223372036854775807) : Calls Tryd.prog 46 #[.agg (msgC kd PA pn pc s m A n c b).toArray] w fun e w' => ∃ v, e = .returned (.bool v) ∧ (v = true ↔ Mur.mayM ⟨kd, p, s, m, I, b⟩) ∧ Chg [] w w' := by
 have hlI0 := hl.len
 have hkd_ := kd.toNat_lt
 refine calls_of_wp Tryd.func46 rfl ?_
 refine wp_seq (reg ?_)
 refine rX 0 1 rfl rfl (new_ex (pt w.heap.size 0) ((Mur.msgC kd PA pn pc s m A n c b).toArray) 32 (by kernel_rfl)) ?_
 rintro _ W1 ⟨rfl, hb1, ch1, sz1⟩
 have zz1 := ch1.size
 refine rP 1 2 (.bool false) ?_
 refine rEnd 2 rfl (nxt (wp_seq (wp_seq (reg ?_))))
 refine rP 0 7 (pt w.heap.size 1) ?_
 refine rQ 1 8 _ rfl rfl (ld 22 7 w.heap.size 1 (.slice PA pn pc) (show World.cell? _ ⟨_, 0 + 1, _⟩ = _ from msg_pre (range_row hb1))) ?_
 refine rC 2 9 71 [.tmp 8] #[22] [.slice PA pn pc] ?_
 have kk1 : Chg [] w W1 := Chg.step ((Chg.refl _).more (by simp)) ch1 trivial
 refine (IsPrefix_any p PA pn pc W1 (byt_chg hb kk1 (fun g off e hl => trivial)) (by omega)).mono ?_
 cases hpre1 : Mur.isPre p
 ·rintro _ _ ⟨rfl, rfl⟩
  refine ⟨_, rfl, ?_⟩
  refine rP 3 10 (.bool true) ?_
  refine rP 4 11 (.bool true) ?_
  refine rZ 5 12 ?_
  refine rZ 6 13 ?_
  refine rZ 7 14 ?_
  refine rP 8 15 (.bool true) ?_
  refine rP 9 16 (.bool true) ?_
  refine rZ 10 17 ?_
  refine rZ 11 18 ?_
  refine rZ 12 19 ?_
  refine rP 13 20 (.bool true) ?_
  refine rP 14 21 (.bool true) ?_
  refine rZ 15 22 ?_
  refine rZ 16 23 ?_
  refine rZ 17 24 ?_
  refine rZ 18 25 ?_
  refine rP 19 26 (.bool true) ?_
  refine rEnd 20 rfl (nxt (wp_cond_true (by kernel_rfl) (wp_seq (reg ?_))))
  refine rP 0 2 (.bool false) ?_
  refine rEnd 1 rfl (nxt (wp_ret (thR ?_)))
  have hlI_ := hl.len
  refine rt (.bool false) ?_
  refine ⟨_, rfl, ⟨fun h_ => (by cases h_), fun h_ => ?_⟩, kk1⟩
  exfalso
  obtain ⟨h1_, h2_, h3_, h4_, h5_⟩ := mayM_iff.1 h_
  exact absurd (h1_.symm.trans hpre1) (by decide)
 rintro _ _ ⟨rfl, rfl⟩
 refine ⟨_, rfl, ?_⟩
 refine rP 3 10 (.bool false) ?_
 refine rP 4 11 (.bool false) ?_
 refine rP 5 12 (pt w.heap.size 34) ?_
 refine rQ 6 13 _ rfl rfl (ld 3 12 w.heap.size 34 (.int .i64 m) (show World.cell? _ ⟨_, 0 + 34, _⟩ = _ from msg_cnt hs (range_row hb1))) ?_
 by_cases hx1 : m < (0 : Int)
 ·refine rQ 7 14 _ rfl rfl (qboolT (b := decide (m < (0 : Int))) (decide_eq_true (by first | exact hx1 | omega))) ?_
  refine rP 8 15 (.bool true) ?_
  refine rP 9 16 (.bool true) ?_
  refine rZ 10 17 ?_
  refine rZ 11 18 ?_
  refine rZ 12 19 ?_
  refine rP 13 20 (.bool true) ?_
  refine rP 14 21 (.bool true) ?_
  refine rZ 15 22 ?_
  refine rZ 16 23 ?_
  refine rZ 17 24 ?_
  refine rZ 18 25 ?_
  refine rP 19 26 (.bool true) ?_
  refine rEnd 20 rfl (nxt (wp_cond_true (by kernel_rfl) (wp_seq (reg ?_))))
  refine rP 0 2 (.bool false) ?_
  refine rEnd 1 rfl (nxt (wp_ret (thR ?_)))
  have hlI_ := hl.len
  refine rt (.bool false) ?_
  refine ⟨_, rfl, ⟨fun h_ => (by cases h_), fun h_ => ?_⟩, kk1⟩
  exfalso
  obtain ⟨h1_, h2_, h3_, h4_, h5_⟩ := mayM_iff.1 h_
  have h1k_ : ((1 : UInt8).toNat : Int) = 1 := rfl
  have h2k_ : ((2 : UInt8).toNat : Int) = 2 := rfl
  rcases h5_ with ⟨hk_, hi_, hb_⟩ | ⟨hk_, hi_, hso_, hz_, hc_⟩
  ·have hk2_ : (kd.toNat : Int) = _ := congrArg (fun z : UInt8 => (z.toNat : Int)) hk_
   have hi2_ := congrArg List.length hi_
   rw [List.length_nil] at hi2_
   first | omega | cases hb_ | (subst hb_; omega)
  have hk2_ : (kd.toNat : Int) = _ := congrArg (fun z : UInt8 => (z.toNat : Int)) hk_
  omega
 refine rQ 7 14 _ rfl rfl (qboolF (b := decide (m < (0 : Int))) (decide_eq_false (by first | exact hx1 | omega))) ?_
 refine rP 8 15 (.bool false) ?_
 refine rP 9 16 (.bool false) ?_
 refine rP 10 17 (pt w.heap.size 34) ?_
 refine rQ 11 18 _ rfl rfl (ld 3 17 w.heap.size 34 (.int .i64 m) (show World.cell? _ ⟨_, 0 + 34, _⟩ = _ from msg_cnt hs (range_row hb1))) ?_
 by_cases hx2 : m > (200 : Int)
 ·refine rQ 12 19 _ rfl rfl (qboolT (b := decide (m > (200 : Int))) (decide_eq_true (by first | exact hx2 | omega))) ?_
  refine rP 13 20 (.bool true) ?_
  refine rP 14 21 (.bool true) ?_
  refine rZ 15 22 ?_
  refine rZ 16 23 ?_
  refine rZ 17 24 ?_
  refine rZ 18 25 ?_
  refine rP 19 26 (.bool true) ?_
  refine rEnd 20 rfl (nxt (wp_cond_true (by kernel_rfl) (wp_seq (reg ?_))))
  refine rP 0 2 (.bool false) ?_
  refine rEnd 1 rfl (nxt (wp_ret (thR ?_)))
  have hlI_ := hl.len
  refine rt (.bool false) ?_
  refine ⟨_, rfl, ⟨fun h_ => (by cases h_), fun h_ => ?_⟩, kk1⟩
  exfalso
  obtain ⟨h1_, h2_, h3_, h4_, h5_⟩ := mayM_iff.1 h_
  have h1k_ : ((1 : UInt8).toNat : Int) = 1 := rfl
  have h2k_ : ((2 : UInt8).toNat : Int) = 2 := rfl
  rcases h5_ with ⟨hk_, hi_, hb_⟩ | ⟨hk_, hi_, hso_, hz_, hc_⟩
  ·have hk2_ : (kd.toNat : Int) = _ := congrArg (fun z : UInt8 => (z.toNat : Int)) hk_
   have hi2_ := congrArg List.length hi_
   rw [List.length_nil] at hi2_
   first | omega | cases hb_ | (subst hb_; omega)
  have hk2_ : (kd.toNat : Int) = _ := congrArg (fun z : UInt8 => (z.toNat : Int)) hk_
  omega
 refine rQ 12 19 _ rfl rfl (qboolF (b := decide (m > (200 : Int))) (decide_eq_false (by first | exact hx2 | omega))) ?_
 refine rP 13 20 (.bool false) ?_
 refine rP 14 21 (.bool false) ?_
 refine rP 15 22 (pt w.heap.size 35) ?_
 refine rQ 16 23 _ rfl rfl (ld 30 22 w.heap.size 35 (.slice A n c) (show World.cell? _ ⟨_, 0 + 35, _⟩ = _ from msg_items hs (range_row hb1))) ?_
 refine rP 17 24 (.int .i64 ((n : Nat) : Int)) ?_
 by_cases hx3 : ((n : Nat) : Int) > (8 : Int)
 ·refine rQ 18 25 _ rfl rfl (qboolT (b := decide (((n : Nat) : Int) > (8 : Int))) (decide_eq_true (by first | exact hx3 | omega))) ?_
  refine rP 19 26 (.bool true) ?_
  refine rEnd 20 rfl (nxt (wp_cond_true (by kernel_rfl) (wp_seq (reg ?_))))
  refine rP 0 2 (.bool false) ?_
  refine rEnd 1 rfl (nxt (wp_ret (thR ?_)))
  have hlI_ := hl.len
  refine rt (.bool false) ?_
  refine ⟨_, rfl, ⟨fun h_ => (by cases h_), fun h_ => ?_⟩, kk1⟩
  exfalso
  obtain ⟨h1_, h2_, h3_, h4_, h5_⟩ := mayM_iff.1 h_
  have h1k_ : ((1 : UInt8).toNat : Int) = 1 := rfl
  have h2k_ : ((2 : UInt8).toNat : Int) = 2 := rfl
  rcases h5_ with ⟨hk_, hi_, hb_⟩ | ⟨hk_, hi_, hso_, hz_, hc_⟩
  ·have hk2_ : (kd.toNat : Int) = _ := congrArg (fun z : UInt8 => (z.toNat : Int)) hk_
   have hi2_ := congrArg List.length hi_
   rw [List.length_nil] at hi2_
   first | omega | cases hb_ | (subst hb_; omega)
  have hk2_ : (kd.toNat : Int) = _ := congrArg (fun z : UInt8 => (z.toNat : Int)) hk_
  omega
 refine rQ 18 25 _ rfl rfl (qboolF (b := decide (((n : Nat) : Int) > (8 : Int))) (decide_eq_false (by first | exact hx3 | omega))) ?_
 refine rP 19 26 (.bool false) ?_
 refine rEnd 20 rfl (nxt (wp_cond_false (by kernel_rfl) (wp_skip (nxt (wp_seq (wp_seq (reg ?_)))))))
 have hpreT_ := hpre1
 have hp8_ := Mur.pre_len hpreT_
 have hpl_ := hb.1
 refine rP 0 27 (pt w.heap.size 0) ?_
 refine rQ 1 28 _ rfl rfl (ld 5 27 w.heap.size 0 (.int .u8 ((kd.toNat : Nat) : Int)) (show World.cell? _ ⟨_, 0 + 0, _⟩ = _ from Mur.msg_kind (range_row hb1))) ?_
 refine rEnd 2 rfl (nxt (wp_block (wp_seq (reg ?_))))
 by_cases hx4 : ((kd.toNat : Nat) : Int) = (1 : Int)
 ·refine rQ 0 30 _ rfl rfl (qboolT (b := (((kd.toNat : Nat) : Int) == (1 : Int))) (beq_iff_eq.2 (by first | exact hx4 | omega))) ?_
  refine rP 1 29 (.bool true) ?_
  refine rEnd 2 rfl (nxt (wp_cond_true (by kernel_rfl) (wp_seq (reg ?_))))
  cases b
  ·refine rP 0 31 (pt w.heap.size 35) ?_
   refine rQ 1 32 _ rfl rfl (ld 30 31 w.heap.size 35 (.slice A n c) (show World.cell? _ ⟨_, 0 + 35, _⟩ = _ from msg_items hs (range_row hb1))) ?_
   refine rP 2 33 (.int .i64 ((n : Nat) : Int)) ?_
   by_cases hx5 : ((n : Nat) : Int) = (0 : Int)
   ·refine rQ 3 34 _ rfl rfl (qboolT (b := (((n : Nat) : Int) == (0 : Int))) (beq_iff_eq.2 (by first | exact hx5 | omega))) ?_
    refine rP 4 35 (.bool true) ?_
    refine rP 5 36 (pt w.heap.size 36) ?_
    refine rQ 6 37 _ rfl rfl (ld 4 36 w.heap.size 36 (.bool false) (show World.cell? _ ⟨_, 0 + 36, _⟩ = _ from msg_ans hs (range_row hb1))) ?_
    refine rP 7 38 (.bool true) ?_
    refine rP 8 39 (.bool true) ?_
    refine rP 9 2 (.bool true) ?_
    refine rEnd 10 rfl (nxt (wp_ret (inR (thR ?_))))
    have hlI_ := hl.len
    refine rt (.bool true) ?_
    exact ⟨_, rfl, ⟨fun _ => mayM_iff.2 ⟨hpreT_, by omega, by omega, by omega, .inl ⟨u8_cast_inj (by have h_ : ((1 : UInt8).toNat : Int) = 1 := rfl; omega), List.eq_nil_of_length_eq_zero (by omega), rfl⟩⟩, fun _ => rfl⟩, kk1⟩
   refine rQ 3 34 _ rfl rfl (qboolF (b := (((n : Nat) : Int) == (0 : Int))) (beq_eq_false_iff_ne.2 (by first | exact hx5 | omega))) ?_
   refine rP 4 35 (.bool false) ?_
   refine rZ 5 36 ?_
   refine rZ 6 37 ?_
   refine rZ 7 38 ?_
   refine rP 8 39 (.bool false) ?_
   refine rP 9 2 (.bool false) ?_
   refine rEnd 10 rfl (nxt (wp_ret (inR (thR ?_))))
   have hlI_ := hl.len
   refine rt (.bool false) ?_
   refine ⟨_, rfl, ⟨fun h_ => (by cases h_), fun h_ => ?_⟩, kk1⟩
   exfalso
   obtain ⟨h1_, h2_, h3_, h4_, h5_⟩ := mayM_iff.1 h_
   have h1k_ : ((1 : UInt8).toNat : Int) = 1 := rfl
   have h2k_ : ((2 : UInt8).toNat : Int) = 2 := rfl
   rcases h5_ with ⟨hk_, hi_, hb_⟩ | ⟨hk_, hi_, hso_, hz_, hc_⟩
   ·have hk2_ : (kd.toNat : Int) = _ := congrArg (fun z : UInt8 => (z.toNat : Int)) hk_
    have hi2_ := congrArg List.length hi_
    rw [List.length_nil] at hi2_
    first | omega | cases hb_ | (subst hb_; omega)
   have hk2_ : (kd.toNat : Int) = _ := congrArg (fun z : UInt8 => (z.toNat : Int)) hk_
   omega
  refine rP 0 31 (pt w.heap.size 35) ?_
  refine rQ 1 32 _ rfl rfl (ld 30 31 w.heap.size 35 (.slice A n c) (show World.cell? _ ⟨_, 0 + 35, _⟩ = _ from msg_items hs (range_row hb1))) ?_
  refine rP 2 33 (.int .i64 ((n : Nat) : Int)) ?_
  by_cases hx6 : ((n : Nat) : Int) = (0 : Int)
  ·refine rQ 3 34 _ rfl rfl (qboolT (b := (((n : Nat) : Int) == (0 : Int))) (beq_iff_eq.2 (by first | exact hx6 | omega))) ?_
   refine rP 4 35 (.bool true) ?_
   refine rP 5 36 (pt w.heap.size 36) ?_
   refine rQ 6 37 _ rfl rfl (ld 4 36 w.heap.size 36 (.bool true) (show World.cell? _ ⟨_, 0 + 36, _⟩ = _ from msg_ans hs (range_row hb1))) ?_
   refine rP 7 38 (.bool false) ?_
   refine rP 8 39 (.bool false) ?_
   refine rP 9 2 (.bool false) ?_
   refine rEnd 10 rfl (nxt (wp_ret (inR (thR ?_))))
   have hlI_ := hl.len
   refine rt (.bool false) ?_
   refine ⟨_, rfl, ⟨fun h_ => (by cases h_), fun h_ => ?_⟩, kk1⟩
   exfalso
   obtain ⟨h1_, h2_, h3_, h4_, h5_⟩ := mayM_iff.1 h_
   have h1k_ : ((1 : UInt8).toNat : Int) = 1 := rfl
   have h2k_ : ((2 : UInt8).toNat : Int) = 2 := rfl
   rcases h5_ with ⟨hk_, hi_, hb_⟩ | ⟨hk_, hi_, hso_, hz_, hc_⟩
   ·have hk2_ : (kd.toNat : Int) = _ := congrArg (fun z : UInt8 => (z.toNat : Int)) hk_
    have hi2_ := congrArg List.length hi_
    rw [List.length_nil] at hi2_
    first | omega | cases hb_ | (subst hb_; omega)
   have hk2_ : (kd.toNat : Int) = _ := congrArg (fun z : UInt8 => (z.toNat : Int)) hk_
   omega
  refine rQ 3 34 _ rfl rfl (qboolF (b := (((n : Nat) : Int) == (0 : Int))) (beq_eq_false_iff_ne.2 (by first | exact hx6 | omega))) ?_
  refine rP 4 35 (.bool false) ?_
  refine rZ 5 36 ?_
  refine rZ 6 37 ?_
  refine rZ 7 38 ?_
  refine rP 8 39 (.bool false) ?_
  refine rP 9 2 (.bool false) ?_
  refine rEnd 10 rfl (nxt (wp_ret (inR (thR ?_))))
  have hlI_ := hl.len
  refine rt (.bool false) ?_
  refine ⟨_, rfl, ⟨fun h_ => (by cases h_), fun h_ => ?_⟩, kk1⟩
  exfalso
  obtain ⟨h1_, h2_, h3_, h4_, h5_⟩ := mayM_iff.1 h_
  have h1k_ : ((1 : UInt8).toNat : Int) = 1 := rfl
  have h2k_ : ((2 : UInt8).toNat : Int) = 2 := rfl
  rcases h5_ with ⟨hk_, hi_, hb_⟩ | ⟨hk_, hi_, hso_, hz_, hc_⟩
  ·have hk2_ : (kd.toNat : Int) = _ := congrArg (fun z : UInt8 => (z.toNat : Int)) hk_
   have hi2_ := congrArg List.length hi_
   rw [List.length_nil] at hi2_
   first | omega | cases hb_ | (subst hb_; omega)
  have hk2_ : (kd.toNat : Int) = _ := congrArg (fun z : UInt8 => (z.toNat : Int)) hk_
  omega
 refine rQ 0 30 _ rfl rfl (qboolF (b := (((kd.toNat : Nat) : Int) == (1 : Int))) (beq_eq_false_iff_ne.2 (by first | exact hx4 | omega))) ?_
 refine rP 1 29 (.bool false) ?_
 refine rEnd 2 rfl (nxt (wp_cond_false (by kernel_rfl) (wp_seq (reg ?_))))
 by_cases hx7 : ((kd.toNat : Nat) : Int) = (2 : Int)
 ·refine rQ 0 41 _ rfl rfl (qboolT (b := (((kd.toNat : Nat) : Int) == (2 : Int))) (beq_iff_eq.2 (by first | exact hx7 | omega))) ?_
  refine rP 1 40 (.bool true) ?_
  refine rEnd 2 rfl (nxt (wp_cond_true (by kernel_rfl) (wp_seq (wp_seq (reg ?_)))))
  refine rP 0 42 (pt w.heap.size 35) ?_
  refine rQ 1 43 _ rfl rfl (ld 30 42 w.heap.size 35 (.slice A n c) (show World.cell? _ ⟨_, 0 + 35, _⟩ = _ from msg_items hs (range_row hb1))) ?_
  refine rP 2 44 (.int .i64 ((n : Nat) : Int)) ?_
  refine rP 3 45 (.int .i64 0) ?_
  refine rEnd 4 rfl (nxt (wp_block ?_))
  refine Wk.loop (fun m_ a wr => ∃ (i : Nat), m_ = n - i ∧ a = MayG_F1 a.tmps (pt w.heap.size 0) (.slice A n c) (.int .i64 ((n : Nat) : Int)) (.int .i64 ((i : Nat) : Int)) ∧ i ≤ n ∧ (∀ x, x ∈ I.take i → Mur.may x.n ∧ Mur.under p x.k = true) ∧ Mur.Sorted (I.take i) ∧ wr.heap[w.heap.size]? = some (.cells (Mur.msgC kd PA pn pc s m A n c b).toArray 32 (0, 0)) ∧ Chg [] w wr) (n - 0) ?_ ?_
  ·refine ⟨0, rfl, by kernel_rfl, (by omega), (by simp), List.Pairwise.nil, hb1, kk1⟩
  rintro mm1 aa1 W2 ⟨i, hmm1, hF1, hi, hall, hsr, hX, HB⟩
  generalize aa1.tmps = bb1 at hF1
  subst hF1
  have hzB := HB.size
  have hxl_ := (Array.getElem?_eq_some_iff.1 hX).1
  have hlI := hl.len
  by_cases hlt : i < n
  ·obtain ⟨g_x, o_x, rfl, _⟩ := hl.ex (by omega)
   obtain ⟨x, hx⟩ : ∃ x, I[i]? = some x := ⟨_, List.getElem?_eq_getElem (by have := hl.len; omega)⟩
   refine wp_seq (reg ?_)
   refine rQ 0 46 _ rfl rfl (qboolT (b := decide (((i : Nat) : Int) < ((n : Nat) : Int))) (decide_eq_true (by omega))) ?_
   refine rEnd 1 rfl (nxt (wp_seq (wp_cond_true (by kernel_rfl) (wp_skip (nxt (wp_seq (wp_block (wp_seq (reg ?_)))))))))
   refine rP 0 47 (.int .i64 ((i : Nat) : Int)) ?_
   refine rQ 1 48 (pt g_x (o_x + i * 97)) rfl rfl (index_sl 30 36 (.tmp 43) (.tmp 45) rfl Tryd.underlying30 97 (by kernel_rfl) g_x o_x n c i .i64 (by kernel_rfl) (by kernel_rfl) (by omega)) ?_
   refine rQ 2 49 (.agg ((Mur.attC x.k x.r x.n x.t).toArray)) rfl rfl (loadR 36 (.tmp 48) rfl _ Tryd.underlying36 rfl g_x (o_x + i * 97) (by kernel_rfl) (Mur.attC x.k x.r x.n x.t) (by rw [attC_length x.hk x.hr x.ht]; kernel_rfl) ((Mur.SlA.chg hl HB (fun g off e hl => trivial)).elem hx)) ?_
   refine rX 3 4 rfl rfl (new_ex (pt W2.heap.size 0) (Mur.attC z32 z32 0 z32).toArray 36 (by kernel_rfl)) ?_
   rintro _ W3 ⟨rfl, hb2, ch2, sz2⟩
   have zz2 := ch2.size
   refine rP 4 3 (.int .i64 ((i : Nat) : Int)) ?_
   refine rY 5 rfl rfl (Mur.storeArr 36 (.tmp 4) (.tmp 49) rfl W2.heap.size (by kernel_rfl) (Mur.attC x.k x.r x.n x.t).toArray 97 (attC_size x.hk x.hr x.ht) Mur.attC_all (by kernel_rfl) (by kernel_rfl) 36 ((Mur.attC z32 z32 0 z32).toArray) hb2 (attC_size rfl rfl rfl)) ?_
   rintro W4 ⟨hb3, ch3⟩
   have zz3 := ch3.size
   refine rEnd 6 rfl (nxt (wp_seq (reg ?_)))
   refine rQ 0 51 (.agg ((Mur.attC x.k x.r x.n x.t).toArray)) rfl rfl (Mur.loadArr 36 (.tmp 4) rfl _ Tryd.underlying36 rfl W2.heap.size (by kernel_rfl) (Mur.attC x.k x.r x.n x.t).toArray 97 (attC_size x.hk x.hr x.ht) (by kernel_rfl) 36 (0, 0) hb3) ?_
   refine rC 1 52 47 [.tmp 51] #[36] [.agg ((Mur.attC x.k x.r x.n x.t).toArray)] ?_
   by_cases hmay1 : Mur.may x.n
   ·have hmay1u : (1 ≤ x.n ∧ x.n ≤ 5000) := hmay1
    refine (Bytes_ok x.k x.r x.t x.n x.hk x.hr x.ht W4 hmay1).mono ?_
    rintro _ W5 ⟨qr1, cr1, RB1, hRB1, rfl, hbr1, hq1, hq2, ch4⟩
    have zz4 := ch4.size
    have hBt1 : ∀ g off, (some ⟨qr1, 0, none⟩ : Option Addr) = some ⟨g, off, none⟩ → W4.heap.size ≤ g ∧ g < W5.heap.size := fun g off e => by cases e; exact hq1
    refine ⟨_, rfl, ?_⟩
    refine rP 2 50 (.tuple #[.slice (some ⟨qr1, 0, none⟩) 104 cr1, .int .i64 0]) ?_
    refine rP 3 53 (.slice (some ⟨qr1, 0, none⟩) 104 cr1) ?_
    refine rP 4 54 (.int .i64 0) ?_
    refine rP 5 5 (.slice (some ⟨qr1, 0, none⟩) 104 cr1) ?_
    refine rP 6 6 (.int .i64 0) ?_
    refine rEnd 7 rfl (nxt (wp_seq ?_))
    refine dReg ([]) (by kernel_rfl) ?_
    intro W6 ch5 sz3
    have zz5 := ch5.size
    have sS1 : Chg ([]) W6 W6 := (Chg.refl _).more (by simp)
    refine dW 0 55 (.int .i64 0) sS1 ?_
    refine dV 1 56 (.bool false) rfl rfl (fun w' hw' => (boolF (b := ((0 : Int) != (0 : Int))) (bne_eq_false_iff_eq.2 (by decide)) (by kernel_rfl))) sS1 ?_
    refine dW 2 57 (.bool false) sS1 ?_
    refine dV 3 58 (.agg ((Mur.attC x.k x.r x.n x.t).toArray)) rfl rfl (fun w' hw' => (Mur.loadArr 36 (.tmp 4) rfl _ Tryd.underlying36 rfl W2.heap.size (by kernel_rfl) (Mur.attC x.k x.r x.n x.t).toArray 97 (attC_size x.hk x.hr x.ht) (by kernel_rfl) 36 (0, 0) (Chg.hp hw' (Chg.hp ch5 (Chg.hp ch4 hb3 trivial) trivial) trivial))) sS1 ?_
    refine dW 4 59 (pt w.heap.size 1) sS1 ?_
    refine dV 5 60 (.slice PA pn pc) rfl rfl (fun w' hw' => (ld 22 59 w.heap.size 1 (.slice PA pn pc) (show World.cell? _ ⟨_, 0 + 1, _⟩ = _ from msg_pre (range_row (Chg.hp hw' (Chg.hp ch5 (Chg.hp ch4 (Chg.hp ch3 (Chg.hp ch2 hX trivial) ⟨by omega, trivial⟩) trivial) trivial) trivial))))) sS1 ?_
    refine dOp 6 (by kernel_rfl) ?_
    refine oCall (some 61) 72 [.tmp 58, .tmp 60] #[36, 22] [.agg ((Mur.attC x.k x.r x.n x.t).toArray), .slice PA pn pc] rfl rfl (by kernel_rfl) rfl (by kernel_rfl) (by kernel_rfl) ?_
    have kk2 := Chg.step HB ch2 trivial
    have kk3 := Chg.step kk2 ch3 ⟨.inr (by omega), trivial⟩
    have kk4 := Chg.step kk3 ch4 trivial
    have kk5 := Chg.step kk4 ch5 trivial
    refine (within_any x p PA pn pc W6 (byt_chg hb kk5 (fun g off e hl => trivial)) (by omega)).mono ?_
    cases hun1 : Mur.under p x.k
    ·rintro _ W7 ⟨rfl, ch6⟩
     have zz6 := ch6.size
     have sS2 := Chg.step sS1 ch6 trivial
     refine ⟨_, rfl, sS2, ?_⟩
     refine dW 7 62 (.bool true) sS2 ?_
     refine dW 8 63 (.bool true) sS2 ?_
     refine dW 9 64 (.bool true) sS2 ?_
     refine dZ 10 65 sS2 ?_
     refine dZ 11 66 sS2 ?_
     refine dZ 12 67 sS2 ?_
     refine dZ 13 68 sS2 ?_
     refine dZ 14 69 sS2 ?_
     refine dZ 15 70 sS2 ?_
     refine dZ 16 71 sS2 ?_
     refine dZ 17 72 sS2 ?_
     refine dZ 18 73 sS2 ?_
     refine dZ 19 74 sS2 ?_
     refine dZ 20 75 sS2 ?_
     refine dZ 21 76 sS2 ?_
     refine dZ 22 77 sS2 ?_
     refine dW 23 78 (.bool true) sS2 ?_
     refine dEnd (by kernel_rfl) (nxt (wp_cond_true (by kernel_rfl) (wp_seq (reg ?_))))
     refine rP 0 2 (.bool false) ?_
     refine rEnd 1 rfl (nxt (wp_ret (inR (thR (thR (inR (thR (inR (thR ?_)))))))))
     have kk6 := Chg.step kk5 ch6 trivial
     have hlI_ := hl.len
     refine rt (.bool false) ?_
     refine ⟨_, rfl, ⟨fun h_ => (by cases h_), fun h_ => ?_⟩, kk6⟩
     exfalso
     obtain ⟨h1_, h2_, h3_, h4_, h5_⟩ := mayM_iff.1 h_
     have h1k_ : ((1 : UInt8).toNat : Int) = 1 := rfl
     have h2k_ : ((2 : UInt8).toNat : Int) = 2 := rfl
     rcases h5_ with ⟨hk_, hi_, hb_⟩ | ⟨hk_, hi_, hso_, hz_, hc_⟩
     ·have hk2_ : (kd.toNat : Int) = _ := congrArg (fun z : UInt8 => (z.toNat : Int)) hk_
      have hi2_ := congrArg List.length hi_
      rw [List.length_nil] at hi2_
      first | omega | cases hb_ | (subst hb_; omega)
     have hk2_ : (kd.toNat : Int) = _ := congrArg (fun z : UInt8 => (z.toNat : Int)) hk_
     have hu_ := (hi_ x (List.mem_of_getElem? hx)).2
     rw [hun1] at hu_
     cases hu_
    rintro _ W7 ⟨rfl, ch6⟩
    have zz7 := ch6.size
    have sS3 := Chg.step sS1 ch6 trivial
    refine ⟨_, rfl, sS3, ?_⟩
    refine dW 7 62 (.bool false) sS3 ?_
    refine dW 8 63 (.bool false) sS3 ?_
    refine dW 9 64 (.bool false) sS3 ?_
    refine dW 10 65 (.int .i64 ((i : Nat) : Int)) sS3 ?_
    by_cases hx8 : ((i : Nat) : Int) > (0 : Int)
    ·refine dV 11 66 (.bool true) rfl rfl (fun w' hw' => (boolT (b := decide (((i : Nat) : Int) > (0 : Int))) (decide_eq_true (by first | exact hx8 | omega)) (by kernel_rfl))) sS3 ?_
     refine dW 12 67 (.bool true) sS3 ?_
     refine dW 13 68 (pt w.heap.size 35) sS3 ?_
     refine dV 14 69 (.slice (some ⟨g_x, o_x, none⟩) n c) rfl rfl (fun w' hw' => (ld 30 68 w.heap.size 35 (.slice (some ⟨g_x, o_x, none⟩) n c) (show World.cell? _ ⟨_, 0 + 35, _⟩ = _ from msg_items hs (range_row (Chg.hp hw' (Chg.hp ch5 (Chg.hp ch4 (Chg.hp ch3 (Chg.hp ch2 hX trivial) ⟨by omega, trivial⟩) trivial) trivial) trivial))))) sS3 ?_
     refine dW 15 70 (.int .i64 ((i : Nat) : Int)) sS3 ?_
     obtain ⟨z, hz⟩ : ∃ z, I[i - 1]? = some z := ⟨_, List.getElem?_eq_getElem (by omega)⟩
     refine dV 16 71 (.int .i64 ((i - 1 : Nat) : Int)) rfl rfl (fun w' hw' => (int64 (n := ((i : Nat) : Int) - 1) (z := ((i - 1 : Nat) : Int)) (by omega) (by omega) (by omega) (by kernel_rfl))) sS3 ?_
     refine dV 17 72 (.pointer (some ⟨g_x, o_x + (i - 1) * 97, none⟩)) rfl rfl (fun w' hw' => (index_sl 30 36 (.tmp 69) (.tmp 71) rfl Tryd.underlying30 97 (by kernel_rfl) g_x o_x n c (i - 1) .i64 (by kernel_rfl) (by kernel_rfl) (by omega))) sS3 ?_
     refine dV 18 73 (.agg ((Mur.attC z.k z.r z.n z.t).toArray)) rfl rfl (fun w' hw' => (loadR 36 (.tmp 72) rfl _ Tryd.underlying36 rfl g_x (o_x + (i - 1) * 97) (by kernel_rfl) (Mur.attC z.k z.r z.n z.t) (by rw [attC_length z.hk z.hr z.ht]; kernel_rfl) ((Mur.SlA.chg (Mur.SlA.chg hl kk5 (fun g off e hl => trivial)) hw' (fun g off e hl => trivial)).elem hz))) sS3 ?_
     refine dV 19 74 (.agg ((Mur.attC x.k x.r x.n x.t).toArray)) rfl rfl (fun w' hw' => (Mur.loadArr 36 (.tmp 4) rfl _ Tryd.underlying36 rfl W2.heap.size (by kernel_rfl) (Mur.attC x.k x.r x.n x.t).toArray 97 (attC_size x.hk x.hr x.ht) (by kernel_rfl) 36 (0, 0) (Chg.hp hw' (Chg.hp ch5 (Chg.hp ch4 hb3 trivial) trivial) trivial))) sS3 ?_
     refine dOp 20 (by kernel_rfl) ?_
     refine oCall (some 75) 73 [.tmp 73, .tmp 74] #[36, 36] [.agg ((Mur.attC z.k z.r z.n z.t).toArray), .agg ((Mur.attC x.k x.r x.n x.t).toArray)] rfl rfl (by kernel_rfl) rfl (by kernel_rfl) (by kernel_rfl) ?_
     refine (Less_any z.k z.r z.t z.n z.hk z.hr z.ht x.k x.r x.t x.n x.hk x.hr x.ht W7).mono ?_
     by_cases hls1 : Go.Lib.compareBytes (Mur.rawL z.k z.r z.n z.t) (Mur.rawL x.k x.r x.n x.t) < 0
     ·rw [decide_eq_true (hls1 : Go.Lib.compareBytes (Mur.rawL z.k z.r z.n z.t) (Mur.rawL x.k x.r x.n x.t) < 0)]
      rintro _ W8 ⟨rfl, ch7⟩
      have zz8 := ch7.size
      have sS4 := Chg.step sS3 ch7 trivial
      refine ⟨_, rfl, sS4, ?_⟩
      refine dW 21 76 (.bool false) sS4 ?_
      refine dW 22 77 (.bool false) sS4 ?_
      refine dW 23 78 (.bool false) sS4 ?_
      refine dEnd (by kernel_rfl) (nxt (wp_cond_false (by kernel_rfl) (wp_skip (inN (nxt (reg ?_))))))
      refine rQ 0 79 _ rfl rfl (qint64 (n := ((i : Nat) : Int) + 1) (z := ((i + 1 : Nat) : Int)) (by omega) (by omega) (by omega)) ?_
      refine rP 1 45 (.int .i64 ((i + 1 : Nat) : Int)) ?_
      refine rEnd 2 rfl (nxt ?_)
      have kk7 := Chg.step kk5 ch6 trivial
      have kk8 := Chg.step kk7 ch7 trivial
      refine ⟨_, ?_, i + 1, rfl, by kernel_rfl, (by omega), (fun y_ hy_ => by rw [take_snoc hx] at hy_; rcases List.mem_append.1 hy_ with h1_ | h1_ <;> first | exact hall y_ h1_ | (rw [List.mem_singleton.1 h1_]; exact ⟨hmay1, hun1⟩)), (Mur.sorted_more hsr hx hz (by omega) hls1), (Chg.hp ch7 (Chg.hp ch6 (Chg.hp ch5 (Chg.hp ch4 (Chg.hp ch3 (Chg.hp ch2 hX trivial) ⟨by omega, trivial⟩) trivial) trivial) trivial) trivial), kk8⟩
      omega
     rw [decide_eq_false (hls1 : ¬ Go.Lib.compareBytes (Mur.rawL z.k z.r z.n z.t) (Mur.rawL x.k x.r x.n x.t) < 0)]
     rintro _ W8 ⟨rfl, ch7⟩
     have zz9 := ch7.size
     have sS5 := Chg.step sS3 ch7 trivial
     refine ⟨_, rfl, sS5, ?_⟩
     refine dW 21 76 (.bool true) sS5 ?_
     refine dW 22 77 (.bool true) sS5 ?_
     refine dW 23 78 (.bool true) sS5 ?_
     refine dEnd (by kernel_rfl) (nxt (wp_cond_true (by kernel_rfl) (wp_seq (reg ?_))))
     refine rP 0 2 (.bool false) ?_
     refine rEnd 1 rfl (nxt (wp_ret (inR (thR (thR (inR (thR (inR (thR ?_)))))))))
     have kk9 := Chg.step kk5 ch6 trivial
     have kk10 := Chg.step kk9 ch7 trivial
     have hlI_ := hl.len
     refine rt (.bool false) ?_
     refine ⟨_, rfl, ⟨fun h_ => (by cases h_), fun h_ => ?_⟩, kk10⟩
     exfalso
     obtain ⟨h1_, h2_, h3_, h4_, h5_⟩ := mayM_iff.1 h_
     have h1k_ : ((1 : UInt8).toNat : Int) = 1 := rfl
     have h2k_ : ((2 : UInt8).toNat : Int) = 2 := rfl
     rcases h5_ with ⟨hk_, hi_, hb_⟩ | ⟨hk_, hi_, hso_, hz_, hc_⟩
     ·have hk2_ : (kd.toNat : Int) = _ := congrArg (fun z : UInt8 => (z.toNat : Int)) hk_
      have hi2_ := congrArg List.length hi_
      rw [List.length_nil] at hi2_
      first | omega | cases hb_ | (subst hb_; omega)
     have hk2_ : (kd.toNat : Int) = _ := congrArg (fun z : UInt8 => (z.toNat : Int)) hk_
     exact Mur.not_sorted hx hz (by omega) hls1 hso_
    refine dV 11 66 (.bool false) rfl rfl (fun w' hw' => (boolF (b := decide (((i : Nat) : Int) > (0 : Int))) (decide_eq_false (by first | exact hx8 | omega)) (by kernel_rfl))) sS3 ?_
    refine dW 12 67 (.bool false) sS3 ?_
    refine dZ 13 68 sS3 ?_
    refine dZ 14 69 sS3 ?_
    refine dZ 15 70 sS3 ?_
    refine dZ 16 71 sS3 ?_
    refine dZ 17 72 sS3 ?_
    refine dZ 18 73 sS3 ?_
    refine dZ 19 74 sS3 ?_
    refine dZ 20 75 sS3 ?_
    refine dZ 21 76 sS3 ?_
    refine dW 22 77 (.bool false) sS3 ?_
    refine dW 23 78 (.bool false) sS3 ?_
    refine dEnd (by kernel_rfl) (nxt (wp_cond_false (by kernel_rfl) (wp_skip (inN (nxt (reg ?_))))))
    refine rQ 0 79 _ rfl rfl (qint64 (n := ((i : Nat) : Int) + 1) (z := ((i + 1 : Nat) : Int)) (by omega) (by omega) (by omega)) ?_
    refine rP 1 45 (.int .i64 ((i + 1 : Nat) : Int)) ?_
    refine rEnd 2 rfl (nxt ?_)
    have kk11 := Chg.step kk5 ch6 trivial
    refine ⟨_, ?_, i + 1, rfl, by kernel_rfl, (by omega), (fun y_ hy_ => by rw [take_snoc hx] at hy_; rcases List.mem_append.1 hy_ with h1_ | h1_ <;> first | exact hall y_ h1_ | (rw [List.mem_singleton.1 h1_]; exact ⟨hmay1, hun1⟩)), (by have h0_ : i = 0 := (by omega); subst h0_; exact Mur.sorted_one hx), (Chg.hp ch6 (Chg.hp ch5 (Chg.hp ch4 (Chg.hp ch3 (Chg.hp ch2 hX trivial) ⟨by omega, trivial⟩) trivial) trivial) trivial), kk11⟩
    omega
   have hmay1u : ¬ (1 ≤ x.n ∧ x.n ≤ 5000) := hmay1
   refine (Bytes_no x.k x.r x.t x.n x.hk x.hr x.ht W4 hmay1).mono ?_
   rintro _ W10 ⟨rfl, ch8⟩
   have zz10 := ch8.size
   refine ⟨_, rfl, ?_⟩
   refine rP 2 50 (.tuple #[.slice none 0 0, .int .i64 2]) ?_
   refine rP 3 53 (.slice none 0 0) ?_
   refine rP 4 54 (.int .i64 2) ?_
   refine rP 5 5 (.slice none 0 0) ?_
   refine rP 6 6 (.int .i64 2) ?_
   refine rEnd 7 rfl (nxt (wp_seq ?_))
   refine dReg ([]) (by kernel_rfl) ?_
   intro W11 ch9 sz4
   have zz11 := ch9.size
   have sS6 : Chg ([]) W11 W11 := (Chg.refl _).more (by simp)
   refine dW 0 55 (.int .i64 2) sS6 ?_
   refine dV 1 56 (.bool true) rfl rfl (fun w' hw' => (boolT (b := ((2 : Int) != (0 : Int))) (bne_iff_ne.2 (by decide)) (by kernel_rfl))) sS6 ?_
   refine dW 2 57 (.bool true) sS6 ?_
   refine dZ 3 58 sS6 ?_
   refine dZ 4 59 sS6 ?_
   refine dZ 5 60 sS6 ?_
   refine dZ 6 61 sS6 ?_
   refine dZ 7 62 sS6 ?_
   refine dW 8 63 (.bool true) sS6 ?_
   refine dW 9 64 (.bool true) sS6 ?_
   refine dZ 10 65 sS6 ?_
   refine dZ 11 66 sS6 ?_
   refine dZ 12 67 sS6 ?_
   refine dZ 13 68 sS6 ?_
   refine dZ 14 69 sS6 ?_
   refine dZ 15 70 sS6 ?_
   refine dZ 16 71 sS6 ?_
   refine dZ 17 72 sS6 ?_
   refine dZ 18 73 sS6 ?_
   refine dZ 19 74 sS6 ?_
   refine dZ 20 75 sS6 ?_
   refine dZ 21 76 sS6 ?_
   refine dZ 22 77 sS6 ?_
   refine dW 23 78 (.bool true) sS6 ?_
   refine dEnd (by kernel_rfl) (nxt (wp_cond_true (by kernel_rfl) (wp_seq (reg ?_))))
   refine rP 0 2 (.bool false) ?_
   refine rEnd 1 rfl (nxt (wp_ret (inR (thR (thR (inR (thR (inR (thR ?_)))))))))
   have kk12 := Chg.step HB ch2 trivial
   have kk13 := Chg.step kk12 ch3 ⟨.inr (by omega), trivial⟩
   have kk14 := Chg.step kk13 ch8 trivial
   have kk15 := Chg.step kk14 ch9 trivial
   have hlI_ := hl.len
   refine rt (.bool false) ?_
   refine ⟨_, rfl, ⟨fun h_ => (by cases h_), fun h_ => ?_⟩, kk15⟩
   exfalso
   obtain ⟨h1_, h2_, h3_, h4_, h5_⟩ := mayM_iff.1 h_
   have h1k_ : ((1 : UInt8).toNat : Int) = 1 := rfl
   have h2k_ : ((2 : UInt8).toNat : Int) = 2 := rfl
   rcases h5_ with ⟨hk_, hi_, hb_⟩ | ⟨hk_, hi_, hso_, hz_, hc_⟩
   ·have hk2_ : (kd.toNat : Int) = _ := congrArg (fun z : UInt8 => (z.toNat : Int)) hk_
    have hi2_ := congrArg List.length hi_
    rw [List.length_nil] at hi2_
    first | omega | cases hb_ | (subst hb_; omega)
   have hk2_ : (kd.toNat : Int) = _ := congrArg (fun z : UInt8 => (z.toNat : Int)) hk_
   exact hmay1 (hi_ x (List.mem_of_getElem? hx)).1
  rw [List.take_of_length_le (show I.length ≤ i by omega)] at hall hsr
  refine wp_seq (reg ?_)
  refine rQ 0 46 _ rfl rfl (qboolF (b := decide (((i : Nat) : Int) < ((n : Nat) : Int))) (decide_eq_false (by omega))) ?_
  refine rEnd 1 rfl (nxt (wp_seq (wp_cond_false (by kernel_rfl) (wp_exit (thX (thX (inX (nxt (wp_seq (reg ?_))))))))))
  refine rP 0 80 (pt w.heap.size 2) ?_
  refine rQ 1 81 (.agg ((b8s s).toArray)) rfl rfl (loadR 29 (.tmp 80) rfl _ Tryd.underlying29 rfl w.heap.size 2 (by kernel_rfl) (b8s s) (by rw [Mur.b8s_length, hs]; kernel_rfl) (show World.rangeAt _ _ (0 + 2) _ from Mur.msg_sum (range_row hX))) ?_
  refine rP 2 82 (.agg ((b8s [0, 0, 0, 0, 0, 0, 0, 0, 0, 0, 0, 0, 0, 0, 0, 0, 0, 0, 0, 0, 0, 0, 0, 0, 0, 0, 0, 0, 0, 0, 0, 0]).toArray)) ?_
  by_cases hzs : s = z32
  ·refine rQ 3 83 (.bool true) rfl rfl (Mur.run_eql_yes digT s z32 hs rfl hzs _ (.tmp 81) (.tmp 82) 29 rfl (by kernel_rfl) (by kernel_rfl)) ?_
   refine rP 4 84 (.bool true) ?_
   refine rP 5 85 (pt w.heap.size 34) ?_
   refine rQ 6 86 _ rfl rfl (ld 3 85 w.heap.size 34 (.int .i64 m) (show World.cell? _ ⟨_, 0 + 34, _⟩ = _ from msg_cnt hs (range_row hX))) ?_
   by_cases hx9 : m = (0 : Int)
   ·refine rQ 7 87 _ rfl rfl (qboolT (b := (m == (0 : Int))) (beq_iff_eq.2 (by first | exact hx9 | omega))) ?_
    refine rP 8 88 (.bool true) ?_
    refine rP 9 2 (.bool true) ?_
    refine rEnd 10 rfl (nxt (wp_ret (inR (thR ?_))))
    have hlI_ := hl.len
    refine rt (.bool true) ?_
    exact ⟨_, rfl, ⟨fun _ => mayM_iff.2 ⟨hpreT_, by omega, by omega, by omega, .inr ⟨u8_cast_inj (by have h_ : ((2 : UInt8).toNat : Int) = 2 := rfl; omega), hall, hsr, hzs, by omega⟩⟩, fun _ => rfl⟩, HB⟩
   refine rQ 7 87 _ rfl rfl (qboolF (b := (m == (0 : Int))) (beq_eq_false_iff_ne.2 (by first | exact hx9 | omega))) ?_
   refine rP 8 88 (.bool false) ?_
   refine rP 9 2 (.bool false) ?_
   refine rEnd 10 rfl (nxt (wp_ret (inR (thR ?_))))
   have hlI_ := hl.len
   refine rt (.bool false) ?_
   refine ⟨_, rfl, ⟨fun h_ => (by cases h_), fun h_ => ?_⟩, HB⟩
   exfalso
   obtain ⟨h1_, h2_, h3_, h4_, h5_⟩ := mayM_iff.1 h_
   have h1k_ : ((1 : UInt8).toNat : Int) = 1 := rfl
   have h2k_ : ((2 : UInt8).toNat : Int) = 2 := rfl
   rcases h5_ with ⟨hk_, hi_, hb_⟩ | ⟨hk_, hi_, hso_, hz_, hc_⟩
   ·have hk2_ : (kd.toNat : Int) = _ := congrArg (fun z : UInt8 => (z.toNat : Int)) hk_
    have hi2_ := congrArg List.length hi_
    rw [List.length_nil] at hi2_
    first | omega | cases hb_ | (subst hb_; omega)
   have hk2_ : (kd.toNat : Int) = _ := congrArg (fun z : UInt8 => (z.toNat : Int)) hk_
   omega
  refine rQ 3 83 (.bool false) rfl rfl (Mur.run_eql_no digT s z32 hs rfl hzs _ (.tmp 81) (.tmp 82) 29 rfl (by kernel_rfl) (by kernel_rfl)) ?_
  refine rP 4 84 (.bool false) ?_
  refine rZ 5 85 ?_
  refine rZ 6 86 ?_
  refine rZ 7 87 ?_
  refine rP 8 88 (.bool false) ?_
  refine rP 9 2 (.bool false) ?_
  refine rEnd 10 rfl (nxt (wp_ret (inR (thR ?_))))
  have hlI_ := hl.len
  refine rt (.bool false) ?_
  refine ⟨_, rfl, ⟨fun h_ => (by cases h_), fun h_ => ?_⟩, HB⟩
  exfalso
  obtain ⟨h1_, h2_, h3_, h4_, h5_⟩ := mayM_iff.1 h_
  have h1k_ : ((1 : UInt8).toNat : Int) = 1 := rfl
  have h2k_ : ((2 : UInt8).toNat : Int) = 2 := rfl
  rcases h5_ with ⟨hk_, hi_, hb_⟩ | ⟨hk_, hi_, hso_, hz_, hc_⟩
  ·have hk2_ : (kd.toNat : Int) = _ := congrArg (fun z : UInt8 => (z.toNat : Int)) hk_
   have hi2_ := congrArg List.length hi_
   rw [List.length_nil] at hi2_
   first | omega | cases hb_ | (subst hb_; omega)
  have hk2_ : (kd.toNat : Int) = _ := congrArg (fun z : UInt8 => (z.toNat : Int)) hk_
  exact hzs hz_
 refine rQ 0 41 _ rfl rfl (qboolF (b := (((kd.toNat : Nat) : Int) == (2 : Int))) (beq_eq_false_iff_ne.2 (by first | exact hx7 | omega))) ?_
 refine rP 1 40 (.bool false) ?_
 refine rEnd 2 rfl (nxt (wp_cond_false (by kernel_rfl) (wp_skip (inN (nxt (wp_seq (reg ?_)))))))
 refine rP 0 2 (.bool false) ?_
 refine rEnd 1 rfl (nxt (wp_ret ?_))
 have hlI_ := hl.len
 refine rt (.bool false) ?_
 refine ⟨_, rfl, ⟨fun h_ => (by cases h_), fun h_ => ?_⟩, kk1⟩
 exfalso
 obtain ⟨h1_, h2_, h3_, h4_, h5_⟩ := mayM_iff.1 h_
 have h1k_ : ((1 : UInt8).toNat : Int) = 1 := rfl
 have h2k_ : ((2 : UInt8).toNat : Int) = 2 := rfl
 rcases h5_ with ⟨hk_, hi_, hb_⟩ | ⟨hk_, hi_, hso_, hz_, hc_⟩
 ·have hk2_ : (kd.toNat : Int) = _ := congrArg (fun z : UInt8 => (z.toNat : Int)) hk_
  have hi2_ := congrArg List.length hi_
  rw [List.length_nil] at hi2_
  first | omega | cases hb_ | (subst hb_; omega)
 have hk2_ : (kd.toNat : Int) = _ := congrArg (fun z : UInt8 => (z.toNat : Int)) hk_
 omega
end Go.Proofs.YtgbadghjnpbiaaaDoor
namespace Go.Proofs.YtgbadghjnpbiaaaDoor
open Go.RowKit Wk
open Mur (b8s Byt Own8 Seg Segs flat cutA attC Att SlA OwnA rowA msgC Frm Zs LiesF FrmIn frmP segs_rng frmL_sz segs_cell mayFM frmL_size bareM bareZ mayFM_1 mayFM_2 mayFM_3 mayFM_4 mayFM_6)
set_option maxRecDepth 100000
set_option maxHeartbeats 4000000
def MayF_J3_1 (b : Array Value) (u1 : Value) (u3 : Value) : Act := ⟨#[gd b 0, u1, gd b 2, u3, gd b 4, gd b 5, gd b 6, gd b 7, gd b 8, gd b 9, gd b 10, gd b 11, gd b 12, gd b 13, gd b 14, gd b 15, gd b 16, gd b 17, gd b 18, gd b 19, gd b 20, gd b 21, gd b 22, gd b 23, gd b 24, gd b 25, gd b 26, gd b 27, gd b 28, gd b 29, gd b 30, gd b 31, gd b 32, gd b 33, gd b 34, gd b 35, gd b 36, gd b 37, gd b 38, gd b 39, gd b 40, gd b 41, gd b 42, gd b 43, gd b 44, gd b 45, gd b 46, gd b 47, gd b 48, gd b 49, gd b 50, gd b 51, gd b 52, gd b 53, gd b 54, gd b 55, gd b 56, gd b 57, gd b 58, gd b 59, gd b 60, gd b 61, gd b 62, gd b 63, gd b 64, gd b 65, gd b 66, gd b 67, gd b 68, gd b 69, gd b 70, gd b 71, gd b 72, gd b 73, gd b 74, gd b 75, gd b 76, gd b 77, gd b 78, gd b 79, gd b 80, gd b 81, gd b 82, gd b 83, gd b 84, gd b 85, gd b 86, gd b 87, gd b 88, gd b 89, gd b 90, gd b 91, gd b 92, gd b 93, gd b 94, gd b 95, gd b 96], []⟩
theorem Probe_any (f : Frm) (z : Zs) (w : World) (hL : LiesF w z f) (hI : FrmIn f) : Calls Tryd.prog 45 #[.agg (frmP f z).flatten.toArray] w fun e w' => ∃ v, e = .returned (.bool v) ∧ (v = true ↔ (f.pTo = f.dst ∧ (1 ≤ f.pKind.toNat ∧ f.pKind.toNat ≤ 3) ∧ (0 ≤ f.pAbout ∧ f.pAbout < 16) ∧ f.pUpd.length ≤ 8 ∧ ∀ u, u ∈ f.pUpd → Mur.goodU u)) ∧ Chg [] w w' := by
 have hLin_ : z.In fun g => g < w.heap.size → Wk.Off g [] := ⟨fun _ _ _ _ => trivial, fun _ _ _ _ => trivial, fun _ _ _ _ => trivial, fun _ _ _ _ => trivial, fun _ _ _ _ => trivial⟩
 have hLunc_ := hL.nu.nc
 have hLucm_ := hL.nu.cm
 have hLpnc_ := hL.np.nc
 have hLpcm_ := hL.np.cm
 have hLinc_ := hL.ni.nc
 have hLicm_ := hL.ni.cm
 have hLync_ := hL.ny.nc
 have hLycm_ := hL.ny.cm
 have hLfnc_ := hL.nf.nc
 have hLfcm_ := hL.nf.cm
 have hul_ := hL.upd.len
 rw [List.length_map] at hul_
 have hk8_ := f.pKind.toNat_lt
 refine calls_of_wp Tryd.func45 rfl ?_
 refine wp_seq (reg ?_)
 refine rX 0 1 rfl rfl (new_ex (pt w.heap.size 0) ((frmP f z).flatten.toArray) 39 (by kernel_rfl)) ?_
 rintro _ W1 ⟨rfl, hb1, ch1, sz1⟩
 have zz1 := ch1.size
 refine rP 1 2 (.bool false) ?_
 refine rEnd 2 rfl (nxt (wp_seq (reg ?_)))
 refine rP 0 5 (pt w.heap.size 3) ?_
 refine rQ 1 6 (.agg #[.int .i64 f.pTo, .int .u8 ((f.pKind.toNat : Nat) : Int), .int .u64 ((f.pSeq : Nat) : Int), .int .i64 f.pAbout, .slice z.u.A z.u.n z.u.c]) rfl rfl (loadR 27 (.tmp 5) rfl _ Tryd.underlying27 rfl w.heap.size 3 (by kernel_rfl) [.int .i64 f.pTo, .int .u8 ((f.pKind.toNat : Nat) : Int), .int .u64 ((f.pSeq : Nat) : Int), .int .i64 f.pAbout, .slice z.u.A z.u.n z.u.c] (by kernel_rfl) (show World.rangeAt _ _ (0 + 3) _ from segs_rng (frmL_sz hI.ok.sum hI.ok.key f.att.hk f.att.hr f.att.ht hI.ok.root) (range_row hb1) 3 5 rfl rfl)) ?_
 refine rX 2 3 rfl rfl (new_ex (pt W1.heap.size 0) #[.int .i64 0, .int .u8 0, .int .u64 0, .int .i64 0, .slice none 0 0] 27 (by kernel_rfl)) ?_
 rintro _ W2 ⟨rfl, hb2, ch2, sz2⟩
 have zz2 := ch2.size
 refine rY 3 rfl rfl (Wk.storeR 27 (.tmp 3) (.tmp 6) rfl W1.heap.size 0 (by kernel_rfl) ([.int .i64 f.pTo, .int .u8 ((f.pKind.toNat : Nat) : Int), .int .u64 ((f.pSeq : Nat) : Int), .int .i64 f.pAbout, .slice z.u.A z.u.n z.u.c]) (by kernel_rfl) (by kernel_rfl) (by intro v hv; simp at hv; rcases hv with h | h | h | h | h <;> (subst h; rfl)) 27 ([.int .i64 0, .int .u8 0, .int .u64 0, .int .i64 0, .slice none 0 0]) hb2 (by simp)) ?_
 rintro W3 ⟨hb3, ch3⟩
 replace hb3 : W3.heap[W1.heap.size]? = some (.cells #[.int .i64 f.pTo, .int .u8 ((f.pKind.toNat : Nat) : Int), .int .u64 ((f.pSeq : Nat) : Int), .int .i64 f.pAbout, .slice z.u.A z.u.n z.u.c] 27 (0, 0)) := hb3
 have zz3 := ch3.size
 refine rEnd 4 rfl (nxt (wp_seq (reg ?_)))
 refine rP 0 4 (.func (.func 69) #[] #[]) ?_
 refine rEnd 1 rfl (nxt (wp_seq (reg ?_)))
 refine rP 0 7 (pt W1.heap.size 0) ?_
 refine rQ 1 8 _ rfl rfl (ld 3 7 W1.heap.size 0 (.int .i64 f.pTo) ((cell_of_row _ _ 0 _ _ _ hb3).trans rfl)) ?_
 refine rP 2 9 (pt w.heap.size 2) ?_
 refine rQ 3 10 _ rfl rfl (ld 3 9 w.heap.size 2 (.int .i64 f.dst) (show World.cell? _ ⟨_, 0 + 2, _⟩ = _ from segs_cell (frmL_sz hI.ok.sum hI.ok.key f.att.hk f.att.hr f.att.ht hI.ok.root) (range_row (Chg.hp ch3 (Chg.hp ch2 hb1 trivial) ⟨by omega, trivial⟩)) 2 rfl rfl)) ?_
 by_cases hx1 : f.pTo = f.dst
 ·refine rQ 4 11 _ rfl rfl (qboolT (b := (f.pTo == f.dst)) (beq_iff_eq.2 (by first | exact hx1 | omega))) ?_
  refine rP 5 12 (.bool true) ?_
  refine rP 6 13 (pt W1.heap.size 1) ?_
  refine rQ 7 14 _ rfl rfl (ld 5 13 W1.heap.size 1 (.int .u8 ((f.pKind.toNat : Nat) : Int)) ((cell_of_row _ _ 1 _ _ _ hb3).trans rfl)) ?_
  by_cases hx2 : ((f.pKind.toNat : Nat) : Int) ≥ (1 : Int)
  ·refine rQ 8 15 _ rfl rfl (qboolT (b := decide (((f.pKind.toNat : Nat) : Int) ≥ (1 : Int))) (decide_eq_true (by first | exact hx2 | omega))) ?_
   refine rP 9 16 (.bool true) ?_
   refine rP 10 17 (.bool true) ?_
   refine rP 11 18 (pt W1.heap.size 1) ?_
   refine rQ 12 19 _ rfl rfl (ld 5 18 W1.heap.size 1 (.int .u8 ((f.pKind.toNat : Nat) : Int)) ((cell_of_row _ _ 1 _ _ _ hb3).trans rfl)) ?_
   by_cases hx3 : ((f.pKind.toNat : Nat) : Int) ≤ (3 : Int)
   ·refine rQ 13 20 _ rfl rfl (qboolT (b := decide (((f.pKind.toNat : Nat) : Int) ≤ (3 : Int))) (decide_eq_true (by first | exact hx3 | omega))) ?_
    refine rP 14 21 (.bool true) ?_
    refine rP 15 22 (.bool true) ?_
    refine rP 16 23 (pt W1.heap.size 3) ?_
    refine rQ 17 24 _ rfl rfl (ld 3 23 W1.heap.size 3 (.int .i64 f.pAbout) ((cell_of_row _ _ 3 _ _ _ hb3).trans rfl)) ?_
    refine rC 18 25 43 [.tmp 24] #[3] [.int .i64 f.pAbout] ?_
    refine (Node_any f.pAbout W3).mono ?_
    by_cases hpr1 : (0 : Int) ≤ f.pAbout ∧ f.pAbout < (16 : Int)
    ·rw [decide_eq_true hpr1]
     rintro _ W4 ⟨rfl, ch4⟩
     have zz4 := ch4.size
     refine ⟨_, rfl, ?_⟩
     refine rP 19 26 (.bool true) ?_
     refine rP 20 27 (.bool true) ?_
     refine rP 21 28 (pt W1.heap.size 4) ?_
     refine rQ 22 29 _ rfl rfl (ld 25 28 W1.heap.size 4 (.slice z.u.A z.u.n z.u.c) ((cell_of_row _ _ 4 _ _ _ (Chg.hp ch4 hb3 trivial)).trans rfl)) ?_
     refine rP 23 30 (.int .i64 ((z.u.n : Nat) : Int)) ?_
     by_cases hx4 : ((z.u.n : Nat) : Int) ≤ (8 : Int)
     ·refine rQ 24 31 _ rfl rfl (qboolT (b := decide (((z.u.n : Nat) : Int) ≤ (8 : Int))) (decide_eq_true (by first | exact hx4 | omega))) ?_
      refine rP 25 32 (.bool true) ?_
      refine rP 26 33 (.bool true) ?_
      refine rP 27 34 (pt W1.heap.size 4) ?_
      refine rQ 28 35 _ rfl rfl (ld 25 34 W1.heap.size 4 (.slice z.u.A z.u.n z.u.c) ((cell_of_row _ _ 4 _ _ _ (Chg.hp ch4 hb3 trivial)).trans rfl)) ?_
      refine rP 29 36 (.func (.func 69) #[] #[]) ?_
      refine rC 30 37 70 [.tmp 35, .tmp 36] #[25, 121] [.slice z.u.A z.u.n z.u.c, .func (.func 69) #[] #[]] ?_
      have kk1 : Chg [] w W1 := Chg.step ((Chg.refl _).more (by simp)) ch1 trivial
      have kk2 := Chg.step kk1 ch2 trivial
      have kk3 := Chg.step kk2 ch3 ⟨.inr (by omega), trivial⟩
      have kk4 := Chg.step kk3 ch4 trivial
      refine (ContU_any z.u.A z.u.n z.u.c f.pUpd W4 (LiesF.chg hL kk4 hLin_).upd (by omega)).mono ?_
      rintro _ W5 ⟨bv1, rfl, hif1, ch5⟩
      have zz5 := ch5.size
      cases bv1
      ·refine ⟨_, rfl, ?_⟩
       refine rP 31 38 (.bool true) ?_
       refine rP 32 39 (.bool true) ?_
       refine rP 33 2 (.bool true) ?_
       refine rEnd 34 rfl (nxt (wp_ret ?_))
       have kk5 := Chg.step kk4 ch5 trivial
       refine rt (.bool true) ?_
       exact ⟨_, rfl, ⟨fun _ => ⟨by omega, by omega, by omega, by omega, fun u_ h_ => Classical.byContradiction fun q_ => (fun q_ => Bool.noConfusion (hif1.2 q_)) ⟨u_, h_, q_⟩⟩, fun _ => rfl⟩, kk5⟩
      refine ⟨_, rfl, ?_⟩
      refine rP 31 38 (.bool false) ?_
      refine rP 32 39 (.bool false) ?_
      refine rP 33 2 (.bool false) ?_
      refine rEnd 34 rfl (nxt (wp_ret ?_))
      have kk6 := Chg.step kk4 ch5 trivial
      refine rt (.bool false) ?_
      exact ⟨_, rfl, ⟨fun h_ => (by cases h_), fun h_ => absurd h_ (fun ⟨h1_, h2_, h3_, h4_, h5_⟩ => by obtain ⟨y_, q1_, q2_⟩ := (hif1.1 rfl); exact q2_ (h5_ y_ q1_))⟩, kk6⟩
     refine rQ 24 31 _ rfl rfl (qboolF (b := decide (((z.u.n : Nat) : Int) ≤ (8 : Int))) (decide_eq_false (by first | exact hx4 | omega))) ?_
     refine Wk.many 40 8 25 [(27, .bool true), (31, .bool false)] 39 (.bool false) (by kernel_rfl) (by kernel_rfl) (by kernel_rfl) (by kernel_rfl) ?_
     intro bb1
     refine rP 33 2 (.bool false) ?_
     refine rEnd 34 rfl (nxt (wp_ret ?_))
     have kk7 : Chg [] w W1 := Chg.step ((Chg.refl _).more (by simp)) ch1 trivial
     have kk8 := Chg.step kk7 ch2 trivial
     have kk9 := Chg.step kk8 ch3 ⟨.inr (by omega), trivial⟩
     have kk10 := Chg.step kk9 ch4 trivial
     refine rt (.bool false) ?_
     exact ⟨_, rfl, ⟨fun h_ => (by cases h_), fun h_ => absurd h_ (fun ⟨h1_, h2_, h3_, h4_, h5_⟩ => by omega)⟩, kk10⟩
    rw [decide_eq_false hpr1]
    rintro _ W6 ⟨rfl, ch6⟩
    have zz6 := ch6.size
    refine ⟨_, rfl, ?_⟩
    refine Wk.many 40 14 19 [(22, .bool true), (25, .bool false)] 39 (.bool false) (by kernel_rfl) (by kernel_rfl) (by kernel_rfl) (by kernel_rfl) ?_
    intro bb2
    refine rP 33 2 (.bool false) ?_
    refine rEnd 34 rfl (nxt (wp_ret ?_))
    have kk11 : Chg [] w W1 := Chg.step ((Chg.refl _).more (by simp)) ch1 trivial
    have kk12 := Chg.step kk11 ch2 trivial
    have kk13 := Chg.step kk12 ch3 ⟨.inr (by omega), trivial⟩
    have kk14 := Chg.step kk13 ch6 trivial
    refine rt (.bool false) ?_
    exact ⟨_, rfl, ⟨fun h_ => (by cases h_), fun h_ => absurd h_ (fun ⟨h1_, h2_, h3_, h4_, h5_⟩ => by omega)⟩, kk14⟩
   refine rQ 13 20 _ rfl rfl (qboolF (b := decide (((f.pKind.toNat : Nat) : Int) ≤ (3 : Int))) (decide_eq_false (by first | exact hx3 | omega))) ?_
   refine Wk.many 40 19 14 [(17, .bool true), (20, .bool false)] 39 (.bool false) (by kernel_rfl) (by kernel_rfl) (by kernel_rfl) (by kernel_rfl) ?_
   intro bb3
   refine rP 33 2 (.bool false) ?_
   refine rEnd 34 rfl (nxt (wp_ret ?_))
   have kk15 : Chg [] w W1 := Chg.step ((Chg.refl _).more (by simp)) ch1 trivial
   have kk16 := Chg.step kk15 ch2 trivial
   have kk17 := Chg.step kk16 ch3 ⟨.inr (by omega), trivial⟩
   refine rt (.bool false) ?_
   exact ⟨_, rfl, ⟨fun h_ => (by cases h_), fun h_ => absurd h_ (fun ⟨h1_, h2_, h3_, h4_, h5_⟩ => by omega)⟩, kk17⟩
  refine rQ 8 15 _ rfl rfl (qboolF (b := decide (((f.pKind.toNat : Nat) : Int) ≥ (1 : Int))) (decide_eq_false (by first | exact hx2 | omega))) ?_
  refine Wk.many 40 24 9 [(12, .bool true), (15, .bool false)] 39 (.bool false) (by kernel_rfl) (by kernel_rfl) (by kernel_rfl) (by kernel_rfl) ?_
  intro bb4
  refine rP 33 2 (.bool false) ?_
  refine rEnd 34 rfl (nxt (wp_ret ?_))
  have kk18 : Chg [] w W1 := Chg.step ((Chg.refl _).more (by simp)) ch1 trivial
  have kk19 := Chg.step kk18 ch2 trivial
  have kk20 := Chg.step kk19 ch3 ⟨.inr (by omega), trivial⟩
  refine rt (.bool false) ?_
  exact ⟨_, rfl, ⟨fun h_ => (by cases h_), fun h_ => absurd h_ (fun ⟨h1_, h2_, h3_, h4_, h5_⟩ => by omega)⟩, kk20⟩
 refine rQ 4 11 _ rfl rfl (qboolF (b := (f.pTo == f.dst)) (beq_eq_false_iff_ne.2 (by first | exact hx1 | omega))) ?_
 refine Wk.many 40 28 5 [(11, .bool false)] 39 (.bool false) (by kernel_rfl) (by kernel_rfl) (by kernel_rfl) (by kernel_rfl) ?_
 intro bb5
 refine rP 33 2 (.bool false) ?_
 refine rEnd 34 rfl (nxt (wp_ret ?_))
 have kk21 : Chg [] w W1 := Chg.step ((Chg.refl _).more (by simp)) ch1 trivial
 have kk22 := Chg.step kk21 ch2 trivial
 have kk23 := Chg.step kk22 ch3 ⟨.inr (by omega), trivial⟩
 refine rt (.bool false) ?_
 exact ⟨_, rfl, ⟨fun h_ => (by cases h_), fun h_ => absurd h_ (fun ⟨h1_, h2_, h3_, h4_, h5_⟩ => by omega)⟩, kk23⟩
theorem MayF_any (f : Frm) (z : Zs) (w : World) (hL : LiesF w z f) (hI : FrmIn f) : Calls Tryd.prog 21 #[.agg (frmP f z).flatten.toArray] w fun e w' => ∃ v, e = .returned (.bool v) ∧ (v = true ↔ mayFM f) ∧ Chg [] w w' := by
 have hLin_ : z.In fun g => g < w.heap.size → Wk.Off g [] := ⟨fun _ _ _ _ => trivial, fun _ _ _ _ => trivial, fun _ _ _ _ => trivial, fun _ _ _ _ => trivial, fun _ _ _ _ => trivial⟩
 have hLunc_ := hL.nu.nc
 have hLucm_ := hL.nu.cm
 have hLpnc_ := hL.np.nc
 have hLpcm_ := hL.np.cm
 have hLinc_ := hL.ni.nc
 have hLicm_ := hL.ni.cm
 have hLync_ := hL.ny.nc
 have hLycm_ := hL.ny.cm
 have hLfnc_ := hL.nf.nc
 have hLfcm_ := hL.nf.cm
 have hbl_ := hL.byt.1
 have hfl_ := hL.prf.len
 rw [List.length_map] at hfl_
 refine calls_of_wp Tryd.func21 rfl ?_
 refine wp_seq (reg ?_)
 refine rX 0 1 rfl rfl (new_ex (pt w.heap.size 0) ((frmP f z).flatten.toArray) 39 (by kernel_rfl)) ?_
 rintro _ W1 ⟨rfl, hb1, ch1, sz1⟩
 have zz1 := ch1.size
 refine rP 1 2 (.bool false) ?_
 refine rEnd 2 rfl (nxt (wp_seq (wp_seq ?_)))
 refine dReg ([]) (by kernel_rfl) ?_
 intro W2 ch2 sz2
 have zz2 := ch2.size
 have sS1 : Chg ([]) W2 W2 := (Chg.refl _).more (by simp)
 refine dW 0 6 (pt w.heap.size 1) sS1 ?_
 refine dV 1 7 (.int .i64 f.frm) rfl rfl (fun w' hw' => (ld 3 6 w.heap.size 1 (.int .i64 f.frm) (show World.cell? _ ⟨_, 0 + 1, _⟩ = _ from segs_cell (frmL_sz hI.ok.sum hI.ok.key f.att.hk f.att.hr f.att.ht hI.ok.root) (range_row (Chg.hp hw' (Chg.hp ch2 hb1 trivial) trivial)) 1 rfl rfl))) sS1 ?_
 refine dOp 2 (by kernel_rfl) ?_
 refine oCall (some 8) 43 [.tmp 7] #[3] [.int .i64 f.frm] rfl rfl (by kernel_rfl) rfl (by kernel_rfl) (by kernel_rfl) ?_
 refine (Node_any f.frm W2).mono ?_
 by_cases hpr1 : (0 : Int) ≤ f.frm ∧ f.frm < (16 : Int)
 ·rw [decide_eq_true hpr1]
  rintro _ W3 ⟨rfl, ch3⟩
  have zz3 := ch3.size
  have sS2 := Chg.step sS1 ch3 trivial
  refine ⟨_, rfl, sS2, ?_⟩
  refine dW 3 9 (.bool false) sS2 ?_
  refine dW 4 10 (.bool false) sS2 ?_
  refine dW 5 11 (pt w.heap.size 2) sS2 ?_
  refine dV 6 12 (.int .i64 f.dst) rfl rfl (fun w' hw' => (ld 3 11 w.heap.size 2 (.int .i64 f.dst) (show World.cell? _ ⟨_, 0 + 2, _⟩ = _ from segs_cell (frmL_sz hI.ok.sum hI.ok.key f.att.hk f.att.hr f.att.ht hI.ok.root) (range_row (Chg.hp hw' (Chg.hp ch2 hb1 trivial) trivial)) 2 rfl rfl))) sS2 ?_
  refine dOp 7 (by kernel_rfl) ?_
  refine oCall (some 13) 43 [.tmp 12] #[3] [.int .i64 f.dst] rfl rfl (by kernel_rfl) rfl (by kernel_rfl) (by kernel_rfl) ?_
  refine (Node_any f.dst W3).mono ?_
  by_cases hpr2 : (0 : Int) ≤ f.dst ∧ f.dst < (16 : Int)
  ·rw [decide_eq_true hpr2]
   rintro _ W4 ⟨rfl, ch4⟩
   have zz4 := ch4.size
   have sS3 := Chg.step sS2 ch4 trivial
   refine ⟨_, rfl, sS3, ?_⟩
   refine dW 8 14 (.bool false) sS3 ?_
   refine dW 9 15 (.bool false) sS3 ?_
   refine dW 10 16 (.bool false) sS3 ?_
   refine dW 11 17 (pt w.heap.size 1) sS3 ?_
   refine dV 12 18 (.int .i64 f.frm) rfl rfl (fun w' hw' => (ld 3 17 w.heap.size 1 (.int .i64 f.frm) (show World.cell? _ ⟨_, 0 + 1, _⟩ = _ from segs_cell (frmL_sz hI.ok.sum hI.ok.key f.att.hk f.att.hr f.att.ht hI.ok.root) (range_row (Chg.hp hw' (Chg.hp ch2 hb1 trivial) trivial)) 1 rfl rfl))) sS3 ?_
   refine dW 13 19 (pt w.heap.size 2) sS3 ?_
   refine dV 14 20 (.int .i64 f.dst) rfl rfl (fun w' hw' => (ld 3 19 w.heap.size 2 (.int .i64 f.dst) (show World.cell? _ ⟨_, 0 + 2, _⟩ = _ from segs_cell (frmL_sz hI.ok.sum hI.ok.key f.att.hk f.att.hr f.att.ht hI.ok.root) (range_row (Chg.hp hw' (Chg.hp ch2 hb1 trivial) trivial)) 2 rfl rfl))) sS3 ?_
   by_cases hx1 : f.frm = f.dst
   ·refine dV 15 21 (.bool true) rfl rfl (fun w' hw' => (boolT (b := (f.frm == f.dst)) (beq_iff_eq.2 (by first | exact hx1 | omega)) (by kernel_rfl))) sS3 ?_
    refine dW 16 22 (.bool true) sS3 ?_
    refine dW 17 23 (.bool true) sS3 ?_
    refine dZ 18 24 sS3 ?_
    refine dZ 19 25 sS3 ?_
    refine dZ 20 26 sS3 ?_
    refine dZ 21 27 sS3 ?_
    refine dZ 22 28 sS3 ?_
    refine dW 23 29 (.bool true) sS3 ?_
    refine dEnd (by kernel_rfl) (nxt (wp_cond_true (by kernel_rfl) (wp_seq (reg ?_))))
    refine rP 0 2 (.bool false) ?_
    refine rEnd 1 rfl (nxt (wp_ret (thR ?_)))
    have kk1 : Chg [] w W1 := Chg.step ((Chg.refl _).more (by simp)) ch1 trivial
    have kk2 := Chg.step kk1 ch2 trivial
    have kk3 := Chg.step kk2 ch3 trivial
    have kk4 := Chg.step kk3 ch4 trivial
    refine rt (.bool false) ?_
    exact ⟨_, rfl, ⟨fun h_ => (by cases h_), fun h_ => absurd h_ (fun ⟨h1_, h2_, h3_, h4_, h5_⟩ => h3_ (by omega))⟩, kk4⟩
   refine dV 15 21 (.bool false) rfl rfl (fun w' hw' => (boolF (b := (f.frm == f.dst)) (beq_eq_false_iff_ne.2 (by first | exact hx1 | omega)) (by kernel_rfl))) sS3 ?_
   refine dW 16 22 (.bool false) sS3 ?_
   refine dW 17 23 (.bool false) sS3 ?_
   refine dV 18 24 (.agg ((frmP f z).flatten.toArray)) rfl rfl (fun w' hw' => (Mur.loadArr 39 (.tmp 1) rfl _ Tryd.underlying39 rfl w.heap.size (by kernel_rfl) (frmP f z).flatten.toArray 213 (frmL_size (frmL_sz hI.ok.sum hI.ok.key f.att.hk f.att.hr f.att.ht hI.ok.root)) (by kernel_rfl) 39 (0, 0) (Chg.hp hw' (Chg.hp ch2 hb1 trivial) trivial))) sS3 ?_
   refine dV 19 25 (.agg ((frmP f z).flatten.toArray)) rfl rfl (fun w' hw' => (Mur.loadArr 39 (.tmp 1) rfl _ Tryd.underlying39 rfl w.heap.size (by kernel_rfl) (frmP f z).flatten.toArray 213 (frmL_size (frmL_sz hI.ok.sum hI.ok.key f.att.hk f.att.hr f.att.ht hI.ok.root)) (by kernel_rfl) 39 (0, 0) (Chg.hp hw' (Chg.hp ch2 hb1 trivial) trivial))) sS3 ?_
   refine dOp 20 (by kernel_rfl) ?_
   refine oCall (some 26) 44 [.tmp 25] #[39] [.agg ((frmP f z).flatten.toArray)] rfl rfl (by kernel_rfl) rfl (by kernel_rfl) (by kernel_rfl) ?_
   refine (Bare_any f z W4 hI).mono ?_
   rintro _ W5 ⟨rfl, ch5⟩
   have zz5 := ch5.size
   have sS4 := Chg.step sS3 ch5 trivial
   refine ⟨_, rfl, sS4, ?_⟩
   refine dOp 21 (by kernel_rfl) ?_
   refine oCall (some 27) 10 [.tmp 24, .tmp 26] #[39, 39] [.agg ((frmP f z).flatten.toArray), .agg ((frmP (bareM f) (bareZ f z)).flatten.toArray)] rfl rfl (by kernel_rfl) rfl (by kernel_rfl) (by kernel_rfl) ?_
   have kk5 : Chg [] w W1 := Chg.step ((Chg.refl _).more (by simp)) ch1 trivial
   have kk6 := Chg.step kk5 ch2 trivial
   have kk7 := Chg.step kk6 ch3 trivial
   have kk8 := Chg.step kk7 ch4 trivial
   have kk9 := Chg.step kk8 ch5 trivial
   refine (Same_any f z (bareM f) (bareZ f z) W5 (LiesF.chg hL kk9 hLin_) hI (Mur.lies_bare (LiesF.chg hL kk9 hLin_)) (Mur.frmIn_bare hI)).mono ?_
   rintro _ W6 ⟨bv1, rfl, hif1, ch6⟩
   have zz6 := ch6.size
   cases bv1
   ·have sS5 := Chg.step sS4 ch6 trivial
    refine ⟨_, rfl, sS5, ?_⟩
    refine dW 22 28 (.bool true) sS5 ?_
    refine dW 23 29 (.bool true) sS5 ?_
    refine dEnd (by kernel_rfl) (nxt (wp_cond_true (by kernel_rfl) (wp_seq (reg ?_))))
    refine rP 0 2 (.bool false) ?_
    refine rEnd 1 rfl (nxt (wp_ret (thR ?_)))
    have kk10 := Chg.step kk9 ch6 trivial
    refine rt (.bool false) ?_
    exact ⟨_, rfl, ⟨fun h_ => (by cases h_), fun h_ => absurd h_ (fun ⟨h1_, h2_, h3_, h4_, h5_⟩ => (fun q_ => Bool.noConfusion (hif1.2 q_)) h4_)⟩, kk10⟩
   have sS6 := Chg.step sS4 ch6 trivial
   refine ⟨_, rfl, sS6, ?_⟩
   refine dW 22 28 (.bool false) sS6 ?_
   refine dW 23 29 (.bool false) sS6 ?_
   refine dEnd (by kernel_rfl) (nxt (wp_cond_false (by kernel_rfl) (wp_skip (nxt (wp_seq ?_)))))
   refine Wk.cut (fun a wj => ∃ (cb : Bool), a = MayF_J3_1 a.tmps (pt w.heap.size 0) (.bool cb) ∧ W6 = wj ∧ (cb = true ↔ 0 ≤ f.chunk ∧ f.chunk < 100)) ?_ ?_
   ·refine reg ?_
    refine rP 0 30 (pt w.heap.size 210) ?_
    refine rQ 1 31 _ rfl rfl (ld 3 30 w.heap.size 210 (.int .i64 f.chunk) (show World.cell? _ ⟨_, 0 + 210, _⟩ = _ from segs_cell (frmL_sz hI.ok.sum hI.ok.key f.att.hk f.att.hr f.att.ht hI.ok.root) (range_row (Chg.hp ch6 (Chg.hp ch5 (Chg.hp ch4 (Chg.hp ch3 (Chg.hp ch2 hb1 trivial) trivial) trivial) trivial) trivial)) 24 rfl rfl)) ?_
    by_cases hx2 : f.chunk ≥ (0 : Int)
    ·refine rQ 2 32 _ rfl rfl (qboolT (b := decide (f.chunk ≥ (0 : Int))) (decide_eq_true (by first | exact hx2 | omega))) ?_
     refine rP 3 33 (.bool true) ?_
     refine rP 4 34 (pt w.heap.size 210) ?_
     refine rQ 5 35 _ rfl rfl (ld 3 34 w.heap.size 210 (.int .i64 f.chunk) (show World.cell? _ ⟨_, 0 + 210, _⟩ = _ from segs_cell (frmL_sz hI.ok.sum hI.ok.key f.att.hk f.att.hr f.att.ht hI.ok.root) (range_row (Chg.hp ch6 (Chg.hp ch5 (Chg.hp ch4 (Chg.hp ch3 (Chg.hp ch2 hb1 trivial) trivial) trivial) trivial) trivial)) 24 rfl rfl)) ?_
     by_cases hx3 : f.chunk < (100 : Int)
     ·refine rQ 6 36 _ rfl rfl (qboolT (b := decide (f.chunk < (100 : Int))) (decide_eq_true (by first | exact hx3 | omega))) ?_
      refine rP 7 37 (.bool true) ?_
      refine rP 8 3 (.bool true) ?_
      refine rEnd 9 rfl (nxt ?_)
      exact ⟨true, by kernel_rfl, rfl, ⟨fun _ => by omega, fun _ => rfl⟩⟩
     refine rQ 6 36 _ rfl rfl (qboolF (b := decide (f.chunk < (100 : Int))) (decide_eq_false (by first | exact hx3 | omega))) ?_
     refine rP 7 37 (.bool false) ?_
     refine rP 8 3 (.bool false) ?_
     refine rEnd 9 rfl (nxt ?_)
     exact ⟨false, by kernel_rfl, rfl, ⟨fun h_ => (by cases h_), fun h_ => (by omega)⟩⟩
    refine rQ 2 32 _ rfl rfl (qboolF (b := decide (f.chunk ≥ (0 : Int))) (decide_eq_false (by first | exact hx2 | omega))) ?_
    refine rP 3 33 (.bool false) ?_
    refine rZ 4 34 ?_
    refine rZ 5 35 ?_
    refine rZ 6 36 ?_
    refine rP 7 37 (.bool false) ?_
    refine rP 8 3 (.bool false) ?_
    refine rEnd 9 rfl (nxt ?_)
    exact ⟨false, by kernel_rfl, rfl, ⟨fun h_ => (by cases h_), fun h_ => (by omega)⟩⟩
   rintro aa1 _ ⟨cb, hF1, rfl, hcb⟩
   generalize aa1.tmps = bb1 at hF1
   subst hF1
   refine nxt (wp_seq (wp_seq (reg ?_)))
   refine rP 0 38 (pt w.heap.size 0) ?_
   refine rQ 1 39 _ rfl rfl (ld 5 38 w.heap.size 0 (.int .u8 ((f.kind.toNat : Nat) : Int)) (show World.cell? _ ⟨_, 0 + 0, _⟩ = _ from segs_cell (frmL_sz hI.ok.sum hI.ok.key f.att.hk f.att.hr f.att.ht hI.ok.root) (range_row (Chg.hp ch6 (Chg.hp ch5 (Chg.hp ch4 (Chg.hp ch3 (Chg.hp ch2 hb1 trivial) trivial) trivial) trivial) trivial)) 0 rfl rfl)) ?_
   refine rEnd 2 rfl (nxt (wp_block (wp_seq (reg ?_))))
   by_cases hx4 : ((f.kind.toNat : Nat) : Int) = (1 : Int)
   ·refine rQ 0 41 _ rfl rfl (qboolT (b := (((f.kind.toNat : Nat) : Int) == (1 : Int))) (beq_iff_eq.2 (by first | exact hx4 | omega))) ?_
    refine rP 1 40 (.bool true) ?_
    refine rEnd 2 rfl (nxt (wp_cond_true (by kernel_rfl) (wp_seq (reg ?_))))
    refine rQ 0 42 (.agg ((frmP f z).flatten.toArray)) rfl rfl (Mur.loadArr 39 (.tmp 1) rfl _ Tryd.underlying39 rfl w.heap.size (by kernel_rfl) (frmP f z).flatten.toArray 213 (frmL_size (frmL_sz hI.ok.sum hI.ok.key f.att.hk f.att.hr f.att.ht hI.ok.root)) (by kernel_rfl) 39 (0, 0) (Chg.hp ch6 (Chg.hp ch5 (Chg.hp ch4 (Chg.hp ch3 (Chg.hp ch2 hb1 trivial) trivial) trivial) trivial) trivial)) ?_
    refine rC 1 43 45 [.tmp 42] #[39] [.agg ((frmP f z).flatten.toArray)] ?_
    have kk11 := Chg.step kk9 ch6 trivial
    refine (Probe_any f z W6 (LiesF.chg hL kk11 hLin_) hI).mono ?_
    rintro _ W7 ⟨bv2, rfl, hif2, ch7⟩
    have zz7 := ch7.size
    cases bv2
    ·refine ⟨_, rfl, ?_⟩
     refine rP 2 2 (.bool false) ?_
     refine rEnd 3 rfl (nxt (wp_ret (inR (thR ?_))))
     have kk12 := Chg.step kk11 ch7 trivial
     have hHd_ : Mur.nodeM f.frm ∧ Mur.nodeM f.dst ∧ f.frm ≠ f.dst ∧ f = bareM f := ⟨hpr1, hpr2, by omega, (hif1.1 rfl)⟩
     have hk_ : f.kind = 1 := UInt8.toNat_inj.1 (by have h_ : (1 : UInt8).toNat = 1 := rfl; omega)
     have hM_ : mayFM f ↔ Mur.mayK1 f := mayFM_1 hHd_ hk_
     refine rt (.bool false) ?_
     exact ⟨_, rfl, ⟨fun h_ => (by cases h_), fun h_ => absurd (hM_.1 h_) (fun q_ => Bool.noConfusion (hif2.2 q_))⟩, kk12⟩
    refine ⟨_, rfl, ?_⟩
    refine rP 2 2 (.bool true) ?_
    refine rEnd 3 rfl (nxt (wp_ret (inR (thR ?_))))
    have kk13 := Chg.step kk11 ch7 trivial
    have hHd_ : Mur.nodeM f.frm ∧ Mur.nodeM f.dst ∧ f.frm ≠ f.dst ∧ f = bareM f := ⟨hpr1, hpr2, by omega, (hif1.1 rfl)⟩
    have hk_ : f.kind = 1 := UInt8.toNat_inj.1 (by have h_ : (1 : UInt8).toNat = 1 := rfl; omega)
    have hM_ : mayFM f ↔ Mur.mayK1 f := mayFM_1 hHd_ hk_
    refine rt (.bool true) ?_
    exact ⟨_, rfl, ⟨fun _ => hM_.2 (hif2.1 rfl), fun _ => rfl⟩, kk13⟩
   refine rQ 0 41 _ rfl rfl (qboolF (b := (((f.kind.toNat : Nat) : Int) == (1 : Int))) (beq_eq_false_iff_ne.2 (by first | exact hx4 | omega))) ?_
   refine rP 1 40 (.bool false) ?_
   refine rEnd 2 rfl (nxt (wp_cond_false (by kernel_rfl) (wp_seq (reg ?_))))
   by_cases hx5 : ((f.kind.toNat : Nat) : Int) = (2 : Int)
   ·refine rQ 0 45 _ rfl rfl (qboolT (b := (((f.kind.toNat : Nat) : Int) == (2 : Int))) (beq_iff_eq.2 (by first | exact hx5 | omega))) ?_
    refine rP 1 44 (.bool true) ?_
    refine rEnd 2 rfl (nxt (wp_cond_true (by kernel_rfl) (wp_seq (reg ?_))))
    refine rP 0 46 (pt w.heap.size 8) ?_
    refine rQ 1 47 (.agg ((Mur.msgC f.gos.kind z.p.A z.p.n z.p.c f.gos.sum f.gos.cnt z.i.A z.i.n z.i.c f.gos.ans).toArray)) rfl rfl (loadR 32 (.tmp 46) rfl _ Tryd.underlying32 rfl w.heap.size 8 (by kernel_rfl) (Mur.msgC f.gos.kind z.p.A z.p.n z.p.c f.gos.sum f.gos.cnt z.i.A z.i.n z.i.c f.gos.ans) (by rw [Mur.msgC_length hI.ok.sum]; kernel_rfl) (show World.rangeAt _ _ (0 + 8) _ from segs_rng (frmL_sz hI.ok.sum hI.ok.key f.att.hk f.att.hr f.att.ht hI.ok.root) (range_row (Chg.hp ch6 (Chg.hp ch5 (Chg.hp ch4 (Chg.hp ch3 (Chg.hp ch2 hb1 trivial) trivial) trivial) trivial) trivial)) 8 6 rfl rfl)) ?_
    refine rC 2 48 46 [.tmp 47] #[32] [.agg ((Mur.msgC f.gos.kind z.p.A z.p.n z.p.c f.gos.sum f.gos.cnt z.i.A z.i.n z.i.c f.gos.ans).toArray)] ?_
    have kk14 := Chg.step kk9 ch6 trivial
    refine (May_any f.gos.kind f.gos.pre z.p.A z.p.n z.p.c f.gos.sum f.gos.cnt f.gos.items z.i.A z.i.n z.i.c f.gos.ans W6 hI.ok.sum (LiesF.chg hL kk14 hLin_).pre (LiesF.chg hL kk14 hLin_).its (by omega) (by omega)).mono ?_
    rintro _ W8 ⟨bv3, rfl, hif3, ch8⟩
    have zz8 := ch8.size
    cases bv3
    ·refine ⟨_, rfl, ?_⟩
     refine rP 3 2 (.bool false) ?_
     refine rEnd 4 rfl (nxt (wp_ret (inR (thR ?_))))
     have kk15 := Chg.step kk14 ch8 trivial
     have hHd_ : Mur.nodeM f.frm ∧ Mur.nodeM f.dst ∧ f.frm ≠ f.dst ∧ f = bareM f := ⟨hpr1, hpr2, by omega, (hif1.1 rfl)⟩
     have hk_ : f.kind = 2 := UInt8.toNat_inj.1 (by have h_ : (2 : UInt8).toNat = 2 := rfl; omega)
     have hM_ : mayFM f ↔ Mur.mayK2 f := mayFM_2 hHd_ hk_
     refine rt (.bool false) ?_
     exact ⟨_, rfl, ⟨fun h_ => (by cases h_), fun h_ => absurd (hM_.1 h_) (fun q_ => Bool.noConfusion (hif3.2 q_))⟩, kk15⟩
    refine ⟨_, rfl, ?_⟩
    refine rP 3 2 (.bool true) ?_
    refine rEnd 4 rfl (nxt (wp_ret (inR (thR ?_))))
    have kk16 := Chg.step kk14 ch8 trivial
    have hHd_ : Mur.nodeM f.frm ∧ Mur.nodeM f.dst ∧ f.frm ≠ f.dst ∧ f = bareM f := ⟨hpr1, hpr2, by omega, (hif1.1 rfl)⟩
    have hk_ : f.kind = 2 := UInt8.toNat_inj.1 (by have h_ : (2 : UInt8).toNat = 2 := rfl; omega)
    have hM_ : mayFM f ↔ Mur.mayK2 f := mayFM_2 hHd_ hk_
    refine rt (.bool true) ?_
    exact ⟨_, rfl, ⟨fun _ => hM_.2 (hif3.1 rfl), fun _ => rfl⟩, kk16⟩
   refine rQ 0 45 _ rfl rfl (qboolF (b := (((f.kind.toNat : Nat) : Int) == (2 : Int))) (beq_eq_false_iff_ne.2 (by first | exact hx5 | omega))) ?_
   refine rP 1 44 (.bool false) ?_
   refine rEnd 2 rfl (nxt (wp_cond_false (by kernel_rfl) (wp_seq (reg ?_))))
   by_cases hx6 : ((f.kind.toNat : Nat) : Int) = (3 : Int)
   ·refine rQ 0 50 _ rfl rfl (qboolT (b := (((f.kind.toNat : Nat) : Int) == (3 : Int))) (beq_iff_eq.2 (by first | exact hx6 | omega))) ?_
    refine rP 1 49 (.bool true) ?_
    refine rEnd 2 rfl (nxt (wp_cond_true (by kernel_rfl) (wp_seq (reg ?_))))
    refine rP 0 51 (pt w.heap.size 45) ?_
    refine rP 1 52 (pt w.heap.size 77) ?_
    refine rQ 2 53 _ rfl rfl (ld 3 52 w.heap.size 77 (.int .i64 f.cNode) (show World.cell? _ ⟨_, 0 + 77, _⟩ = _ from segs_cell (frmL_sz hI.ok.sum hI.ok.key f.att.hk f.att.hr f.att.ht hI.ok.root) (range_row (Chg.hp ch6 (Chg.hp ch5 (Chg.hp ch4 (Chg.hp ch3 (Chg.hp ch2 hb1 trivial) trivial) trivial) trivial) trivial)) 15 rfl rfl)) ?_
    refine rP 3 54 (pt w.heap.size 1) ?_
    refine rQ 4 55 _ rfl rfl (ld 3 54 w.heap.size 1 (.int .i64 f.frm) (show World.cell? _ ⟨_, 0 + 1, _⟩ = _ from segs_cell (frmL_sz hI.ok.sum hI.ok.key f.att.hk f.att.hr f.att.ht hI.ok.root) (range_row (Chg.hp ch6 (Chg.hp ch5 (Chg.hp ch4 (Chg.hp ch3 (Chg.hp ch2 hb1 trivial) trivial) trivial) trivial) trivial)) 1 rfl rfl)) ?_
    by_cases hx7 : f.cNode = f.frm
    ·refine rQ 5 56 _ rfl rfl (qboolT (b := (f.cNode == f.frm)) (beq_iff_eq.2 (by first | exact hx7 | omega))) ?_
     refine rP 6 57 (.bool true) ?_
     refine rP 7 58 (pt w.heap.size 45) ?_
     refine rP 8 59 (pt w.heap.size 78) ?_
     refine rQ 9 60 _ rfl rfl (ld 24 59 w.heap.size 78 (.int .u64 ((f.cInc : Nat) : Int)) (show World.cell? _ ⟨_, 0 + 78, _⟩ = _ from segs_cell (frmL_sz hI.ok.sum hI.ok.key f.att.hk f.att.hr f.att.ht hI.ok.root) (range_row (Chg.hp ch6 (Chg.hp ch5 (Chg.hp ch4 (Chg.hp ch3 (Chg.hp ch2 hb1 trivial) trivial) trivial) trivial) trivial)) 16 rfl rfl)) ?_
     by_cases hx8 : ((f.cInc : Nat) : Int) ≤ (1099511627776 : Int)
     ·refine rQ 10 61 _ rfl rfl (qboolT (b := decide (((f.cInc : Nat) : Int) ≤ (1099511627776 : Int))) (decide_eq_true (by first | exact hx8 | omega))) ?_
      refine rP 11 62 (.bool true) ?_
      refine rP 12 63 (.bool true) ?_
      refine rP 13 64 (pt w.heap.size 45) ?_
      refine rP 14 65 (pt w.heap.size 79) ?_
      refine rQ 15 66 _ rfl rfl (ld 24 65 w.heap.size 79 (.int .u64 ((f.cCnt : Nat) : Int)) (show World.cell? _ ⟨_, 0 + 79, _⟩ = _ from segs_cell (frmL_sz hI.ok.sum hI.ok.key f.att.hk f.att.hr f.att.ht hI.ok.root) (range_row (Chg.hp ch6 (Chg.hp ch5 (Chg.hp ch4 (Chg.hp ch3 (Chg.hp ch2 hb1 trivial) trivial) trivial) trivial) trivial)) 17 rfl rfl)) ?_
      by_cases hx9 : ((f.cCnt : Nat) : Int) ≤ (1099511627776 : Int)
      ·refine rQ 16 67 _ rfl rfl (qboolT (b := decide (((f.cCnt : Nat) : Int) ≤ (1099511627776 : Int))) (decide_eq_true (by first | exact hx9 | omega))) ?_
       refine rP 17 68 (.bool true) ?_
       refine rP 18 2 (.bool true) ?_
       refine rEnd 19 rfl (nxt (wp_ret (inR (thR ?_))))
       have kk17 := Chg.step kk9 ch6 trivial
       have hHd_ : Mur.nodeM f.frm ∧ Mur.nodeM f.dst ∧ f.frm ≠ f.dst ∧ f = bareM f := ⟨hpr1, hpr2, by omega, (hif1.1 rfl)⟩
       have hk_ : f.kind = 3 := UInt8.toNat_inj.1 (by have h_ : (3 : UInt8).toNat = 3 := rfl; omega)
       have hM_ : mayFM f ↔ Mur.mayK3 f := mayFM_3 hHd_ hk_
       refine rt (.bool true) ?_
       exact ⟨_, rfl, ⟨fun _ => hM_.2 (show _ ∧ _ ∧ _ from ⟨by omega, by omega, by omega⟩), fun _ => rfl⟩, kk17⟩
      refine rQ 16 67 _ rfl rfl (qboolF (b := decide (((f.cCnt : Nat) : Int) ≤ (1099511627776 : Int))) (decide_eq_false (by first | exact hx9 | omega))) ?_
      refine rP 17 68 (.bool false) ?_
      refine rP 18 2 (.bool false) ?_
      refine rEnd 19 rfl (nxt (wp_ret (inR (thR ?_))))
      have kk18 := Chg.step kk9 ch6 trivial
      have hHd_ : Mur.nodeM f.frm ∧ Mur.nodeM f.dst ∧ f.frm ≠ f.dst ∧ f = bareM f := ⟨hpr1, hpr2, by omega, (hif1.1 rfl)⟩
      have hk_ : f.kind = 3 := UInt8.toNat_inj.1 (by have h_ : (3 : UInt8).toNat = 3 := rfl; omega)
      have hM_ : mayFM f ↔ Mur.mayK3 f := mayFM_3 hHd_ hk_
      refine rt (.bool false) ?_
      exact ⟨_, rfl, ⟨fun h_ => (by cases h_), fun h_ => absurd (hM_.1 h_) (fun ⟨q1_, q2_, q3_⟩ => by omega)⟩, kk18⟩
     refine rQ 10 61 _ rfl rfl (qboolF (b := decide (((f.cInc : Nat) : Int) ≤ (1099511627776 : Int))) (decide_eq_false (by first | exact hx8 | omega))) ?_
     refine rP 11 62 (.bool false) ?_
     refine rP 12 63 (.bool false) ?_
     refine rZ 13 64 ?_
     refine rZ 14 65 ?_
     refine rZ 15 66 ?_
     refine rZ 16 67 ?_
     refine rP 17 68 (.bool false) ?_
     refine rP 18 2 (.bool false) ?_
     refine rEnd 19 rfl (nxt (wp_ret (inR (thR ?_))))
     have kk19 := Chg.step kk9 ch6 trivial
     have hHd_ : Mur.nodeM f.frm ∧ Mur.nodeM f.dst ∧ f.frm ≠ f.dst ∧ f = bareM f := ⟨hpr1, hpr2, by omega, (hif1.1 rfl)⟩
     have hk_ : f.kind = 3 := UInt8.toNat_inj.1 (by have h_ : (3 : UInt8).toNat = 3 := rfl; omega)
     have hM_ : mayFM f ↔ Mur.mayK3 f := mayFM_3 hHd_ hk_
     refine rt (.bool false) ?_
     exact ⟨_, rfl, ⟨fun h_ => (by cases h_), fun h_ => absurd (hM_.1 h_) (fun ⟨q1_, q2_, q3_⟩ => by omega)⟩, kk19⟩
    refine rQ 5 56 _ rfl rfl (qboolF (b := (f.cNode == f.frm)) (beq_eq_false_iff_ne.2 (by first | exact hx7 | omega))) ?_
    refine rP 6 57 (.bool false) ?_
    refine rZ 7 58 ?_
    refine rZ 8 59 ?_
    refine rZ 9 60 ?_
    refine rZ 10 61 ?_
    refine rP 11 62 (.bool false) ?_
    refine rP 12 63 (.bool false) ?_
    refine rZ 13 64 ?_
    refine rZ 14 65 ?_
    refine rZ 15 66 ?_
    refine rZ 16 67 ?_
    refine rP 17 68 (.bool false) ?_
    refine rP 18 2 (.bool false) ?_
    refine rEnd 19 rfl (nxt (wp_ret (inR (thR ?_))))
    have kk20 := Chg.step kk9 ch6 trivial
    have hHd_ : Mur.nodeM f.frm ∧ Mur.nodeM f.dst ∧ f.frm ≠ f.dst ∧ f = bareM f := ⟨hpr1, hpr2, by omega, (hif1.1 rfl)⟩
    have hk_ : f.kind = 3 := UInt8.toNat_inj.1 (by have h_ : (3 : UInt8).toNat = 3 := rfl; omega)
    have hM_ : mayFM f ↔ Mur.mayK3 f := mayFM_3 hHd_ hk_
    refine rt (.bool false) ?_
    exact ⟨_, rfl, ⟨fun h_ => (by cases h_), fun h_ => absurd (hM_.1 h_) (fun ⟨q1_, q2_, q3_⟩ => by omega)⟩, kk20⟩
   refine rQ 0 50 _ rfl rfl (qboolF (b := (((f.kind.toNat : Nat) : Int) == (3 : Int))) (beq_eq_false_iff_ne.2 (by first | exact hx6 | omega))) ?_
   refine rP 1 49 (.bool false) ?_
   refine rEnd 2 rfl (nxt (wp_cond_false (by kernel_rfl) (wp_seq (reg ?_))))
   by_cases hx10 : ((f.kind.toNat : Nat) : Int) = (4 : Int)
   ·refine rQ 0 70 _ rfl rfl (qboolT (b := (((f.kind.toNat : Nat) : Int) == (4 : Int))) (beq_iff_eq.2 (by first | exact hx10 | omega))) ?_
    refine rP 1 69 (.bool true) ?_
    refine rEnd 2 rfl (nxt (wp_cond_true (by kernel_rfl) (wp_seq (reg ?_))))
    refine rP 0 72 (pt w.heap.size 81) ?_
    refine rQ 1 73 (.agg ((Mur.attC f.att.k f.att.r f.att.n f.att.t).toArray)) rfl rfl (loadR 36 (.tmp 72) rfl _ Tryd.underlying36 rfl w.heap.size 81 (by kernel_rfl) (Mur.attC f.att.k f.att.r f.att.n f.att.t) (by rw [Mur.attC_length f.att.hk f.att.hr f.att.ht]; kernel_rfl) (show World.rangeAt _ _ (0 + 81) _ from segs_rng (frmL_sz hI.ok.sum hI.ok.key f.att.hk f.att.hr f.att.ht hI.ok.root) (range_row (Chg.hp ch6 (Chg.hp ch5 (Chg.hp ch4 (Chg.hp ch3 (Chg.hp ch2 hb1 trivial) trivial) trivial) trivial) trivial)) 19 4 Mur.frmL_att rfl)) ?_
    refine rC 2 74 47 [.tmp 73] #[36] [.agg ((Mur.attC f.att.k f.att.r f.att.n f.att.t).toArray)] ?_
    by_cases hmay1 : Mur.may f.att.n
    ·have hmay1u : (1 ≤ f.att.n ∧ f.att.n ≤ 5000) := hmay1
     refine (Bytes_ok f.att.k f.att.r f.att.t f.att.n f.att.hk f.att.hr f.att.ht W6 hmay1).mono ?_
     rintro _ W10 ⟨qr1, cr1, RB1, hRB1, rfl, hbr1, hq1, hq2, ch9⟩
     have zz9 := ch9.size
     have hBt1 : ∀ g off, (some ⟨qr1, 0, none⟩ : Option Addr) = some ⟨g, off, none⟩ → W6.heap.size ≤ g ∧ g < W10.heap.size := fun g off e => by cases e; exact hq1
     refine ⟨_, rfl, ?_⟩
     refine rP 3 71 (.tuple #[.slice (some ⟨qr1, 0, none⟩) 104 cr1, .int .i64 0]) ?_
     refine rP 4 75 (.slice (some ⟨qr1, 0, none⟩) 104 cr1) ?_
     refine rP 5 76 (.int .i64 0) ?_
     refine rP 6 4 (.slice (some ⟨qr1, 0, none⟩) 104 cr1) ?_
     refine rP 7 5 (.int .i64 0) ?_
     refine rEnd 8 rfl (nxt (wp_seq (reg ?_)))
     refine rP 0 77 (.int .i64 0) ?_
     refine rQ 1 78 _ rfl rfl (qboolT (b := ((0 : Int) == (0 : Int))) (beq_iff_eq.2 (by decide))) ?_
     refine rP 2 2 (.bool true) ?_
     refine rEnd 3 rfl (nxt (wp_ret (inR (thR ?_))))
     have kk21 := Chg.step kk9 ch6 trivial
     have kk22 := Chg.step kk21 ch9 trivial
     have hHd_ : Mur.nodeM f.frm ∧ Mur.nodeM f.dst ∧ f.frm ≠ f.dst ∧ f = bareM f := ⟨hpr1, hpr2, by omega, (hif1.1 rfl)⟩
     have hk_ : f.kind = 4 := UInt8.toNat_inj.1 (by have h_ : (4 : UInt8).toNat = 4 := rfl; omega)
     have hM_ : mayFM f ↔ Mur.mayK4 f := mayFM_4 hHd_ hk_
     refine rt (.bool true) ?_
     exact ⟨_, rfl, ⟨fun _ => hM_.2 hmay1, fun _ => rfl⟩, kk22⟩
    have hmay1u : ¬ (1 ≤ f.att.n ∧ f.att.n ≤ 5000) := hmay1
    refine (Bytes_no f.att.k f.att.r f.att.t f.att.n f.att.hk f.att.hr f.att.ht W6 hmay1).mono ?_
    rintro _ W11 ⟨rfl, ch10⟩
    have zz10 := ch10.size
    refine ⟨_, rfl, ?_⟩
    refine rP 3 71 (.tuple #[.slice none 0 0, .int .i64 2]) ?_
    refine rP 4 75 (.slice none 0 0) ?_
    refine rP 5 76 (.int .i64 2) ?_
    refine rP 6 4 (.slice none 0 0) ?_
    refine rP 7 5 (.int .i64 2) ?_
    refine rEnd 8 rfl (nxt (wp_seq (reg ?_)))
    refine rP 0 77 (.int .i64 2) ?_
    refine rQ 1 78 _ rfl rfl (qboolF (b := ((2 : Int) == (0 : Int))) (beq_eq_false_iff_ne.2 (by decide))) ?_
    refine rP 2 2 (.bool false) ?_
    refine rEnd 3 rfl (nxt (wp_ret (inR (thR ?_))))
    have kk23 := Chg.step kk9 ch6 trivial
    have kk24 := Chg.step kk23 ch10 trivial
    have hHd_ : Mur.nodeM f.frm ∧ Mur.nodeM f.dst ∧ f.frm ≠ f.dst ∧ f = bareM f := ⟨hpr1, hpr2, by omega, (hif1.1 rfl)⟩
    have hk_ : f.kind = 4 := UInt8.toNat_inj.1 (by have h_ : (4 : UInt8).toNat = 4 := rfl; omega)
    have hM_ : mayFM f ↔ Mur.mayK4 f := mayFM_4 hHd_ hk_
    refine rt (.bool false) ?_
    exact ⟨_, rfl, ⟨fun h_ => (by cases h_), fun h_ => absurd (hM_.1 h_) hmay1⟩, kk24⟩
   refine rQ 0 70 _ rfl rfl (qboolF (b := (((f.kind.toNat : Nat) : Int) == (4 : Int))) (beq_eq_false_iff_ne.2 (by first | exact hx10 | omega))) ?_
   refine rP 1 69 (.bool false) ?_
   refine rEnd 2 rfl (nxt (wp_cond_false (by kernel_rfl) (wp_seq (reg ?_))))
   by_cases hx11 : ((f.kind.toNat : Nat) : Int) = (5 : Int)
   ·refine rQ 0 80 _ rfl rfl (qboolT (b := (((f.kind.toNat : Nat) : Int) == (5 : Int))) (beq_iff_eq.2 (by first | exact hx11 | omega))) ?_
    refine rP 1 79 (.bool true) ?_
    refine rEnd 2 rfl (nxt (wp_cond_true (by kernel_rfl) (wp_seq (reg ?_))))
    refine rP 0 81 (.bool cb) ?_
    refine rP 1 2 (.bool cb) ?_
    refine rEnd 2 rfl (nxt (wp_ret (inR (thR ?_))))
    have kk25 := Chg.step kk9 ch6 trivial
    have hHd_ : Mur.nodeM f.frm ∧ Mur.nodeM f.dst ∧ f.frm ≠ f.dst ∧ f = bareM f := ⟨hpr1, hpr2, by omega, (hif1.1 rfl)⟩
    have hk_ : f.kind = 5 := UInt8.toNat_inj.1 (by have h_ : (5 : UInt8).toNat = 5 := rfl; omega)
    have hM_ : mayFM f ↔ Mur.mayK5 f := Mur.mayFM_5 hHd_ hk_
    refine rt (.bool cb) ?_
    exact ⟨_, rfl, hcb.trans hM_.symm, kk25⟩
   refine rQ 0 80 _ rfl rfl (qboolF (b := (((f.kind.toNat : Nat) : Int) == (5 : Int))) (beq_eq_false_iff_ne.2 (by first | exact hx11 | omega))) ?_
   refine rP 1 79 (.bool false) ?_
   refine rEnd 2 rfl (nxt (wp_cond_false (by kernel_rfl) (wp_seq (reg ?_))))
   by_cases hx12 : ((f.kind.toNat : Nat) : Int) = (6 : Int)
   ·refine rQ 0 83 _ rfl rfl (qboolT (b := (((f.kind.toNat : Nat) : Int) == (6 : Int))) (beq_iff_eq.2 (by first | exact hx12 | omega))) ?_
    refine rP 1 82 (.bool true) ?_
    refine rEnd 2 rfl (nxt (wp_cond_true (by kernel_rfl) (wp_seq (reg ?_))))
    refine rP 0 84 (.bool cb) ?_
    refine rP 1 85 (.bool cb) ?_
    cases cb
    ·refine rZ 2 86 ?_
     refine rZ 3 87 ?_
     refine rZ 4 88 ?_
     refine rZ 5 89 ?_
     refine rP 6 90 (.bool false) ?_
     refine rP 7 91 (.bool false) ?_
     refine rZ 8 92 ?_
     refine rZ 9 93 ?_
     refine rZ 10 94 ?_
     refine rZ 11 95 ?_
     refine rP 12 96 (.bool false) ?_
     refine rP 13 2 (.bool false) ?_
     refine rEnd 14 rfl (nxt (wp_ret (inR (thR ?_))))
     have kk26 := Chg.step kk9 ch6 trivial
     have hHd_ : Mur.nodeM f.frm ∧ Mur.nodeM f.dst ∧ f.frm ≠ f.dst ∧ f = bareM f := ⟨hpr1, hpr2, by omega, (hif1.1 rfl)⟩
     have hk_ : f.kind = 6 := UInt8.toNat_inj.1 (by have h_ : (6 : UInt8).toNat = 6 := rfl; omega)
     have hM_ : mayFM f ↔ Mur.mayK6 f := mayFM_6 hHd_ hk_
     refine rt (.bool false) ?_
     exact ⟨_, rfl, ⟨fun h_ => (by cases h_), fun h_ => absurd (hM_.1 h_) (fun ⟨q1_, q2_, q3_⟩ => by first | omega | exact Bool.noConfusion (hcb.2 q1_))⟩, kk26⟩
    refine rP 2 86 (pt w.heap.size 211) ?_
    refine rQ 3 87 _ rfl rfl (ld 22 86 w.heap.size 211 (.slice z.y.A z.y.n z.y.c) (show World.cell? _ ⟨_, 0 + 211, _⟩ = _ from segs_cell (frmL_sz hI.ok.sum hI.ok.key f.att.hk f.att.hr f.att.ht hI.ok.root) (range_row (Chg.hp ch6 (Chg.hp ch5 (Chg.hp ch4 (Chg.hp ch3 (Chg.hp ch2 hb1 trivial) trivial) trivial) trivial) trivial)) 25 rfl rfl)) ?_
    refine rP 4 88 (.int .i64 ((z.y.n : Nat) : Int)) ?_
    by_cases hx13 : ((z.y.n : Nat) : Int) ≤ (64 : Int)
    ·refine rQ 5 89 _ rfl rfl (qboolT (b := decide (((z.y.n : Nat) : Int) ≤ (64 : Int))) (decide_eq_true (by first | exact hx13 | omega))) ?_
     refine rP 6 90 (.bool true) ?_
     refine rP 7 91 (.bool true) ?_
     refine rP 8 92 (pt w.heap.size 212) ?_
     refine rQ 9 93 _ rfl rfl (ld 37 92 w.heap.size 212 (.slice z.f.A z.f.n z.f.c) (show World.cell? _ ⟨_, 0 + 212, _⟩ = _ from segs_cell (frmL_sz hI.ok.sum hI.ok.key f.att.hk f.att.hr f.att.ht hI.ok.root) (range_row (Chg.hp ch6 (Chg.hp ch5 (Chg.hp ch4 (Chg.hp ch3 (Chg.hp ch2 hb1 trivial) trivial) trivial) trivial) trivial)) 26 rfl rfl)) ?_
     refine rP 10 94 (.int .i64 ((z.f.n : Nat) : Int)) ?_
     by_cases hx14 : ((z.f.n : Nat) : Int) ≤ (10 : Int)
     ·refine rQ 11 95 _ rfl rfl (qboolT (b := decide (((z.f.n : Nat) : Int) ≤ (10 : Int))) (decide_eq_true (by first | exact hx14 | omega))) ?_
      refine rP 12 96 (.bool true) ?_
      refine rP 13 2 (.bool true) ?_
      refine rEnd 14 rfl (nxt (wp_ret (inR (thR ?_))))
      have kk27 := Chg.step kk9 ch6 trivial
      have hHd_ : Mur.nodeM f.frm ∧ Mur.nodeM f.dst ∧ f.frm ≠ f.dst ∧ f = bareM f := ⟨hpr1, hpr2, by omega, (hif1.1 rfl)⟩
      have hk_ : f.kind = 6 := UInt8.toNat_inj.1 (by have h_ : (6 : UInt8).toNat = 6 := rfl; omega)
      have hM_ : mayFM f ↔ Mur.mayK6 f := mayFM_6 hHd_ hk_
      refine rt (.bool true) ?_
      exact ⟨_, rfl, ⟨fun _ => hM_.2 ⟨hcb.1 rfl, by omega, by omega⟩, fun _ => rfl⟩, kk27⟩
     refine rQ 11 95 _ rfl rfl (qboolF (b := decide (((z.f.n : Nat) : Int) ≤ (10 : Int))) (decide_eq_false (by first | exact hx14 | omega))) ?_
     refine rP 12 96 (.bool false) ?_
     refine rP 13 2 (.bool false) ?_
     refine rEnd 14 rfl (nxt (wp_ret (inR (thR ?_))))
     have kk28 := Chg.step kk9 ch6 trivial
     have hHd_ : Mur.nodeM f.frm ∧ Mur.nodeM f.dst ∧ f.frm ≠ f.dst ∧ f = bareM f := ⟨hpr1, hpr2, by omega, (hif1.1 rfl)⟩
     have hk_ : f.kind = 6 := UInt8.toNat_inj.1 (by have h_ : (6 : UInt8).toNat = 6 := rfl; omega)
     have hM_ : mayFM f ↔ Mur.mayK6 f := mayFM_6 hHd_ hk_
     refine rt (.bool false) ?_
     exact ⟨_, rfl, ⟨fun h_ => (by cases h_), fun h_ => absurd (hM_.1 h_) (fun ⟨q1_, q2_, q3_⟩ => by first | omega | exact Bool.noConfusion (hcb.2 q1_))⟩, kk28⟩
    refine rQ 5 89 _ rfl rfl (qboolF (b := decide (((z.y.n : Nat) : Int) ≤ (64 : Int))) (decide_eq_false (by first | exact hx13 | omega))) ?_
    refine rP 6 90 (.bool false) ?_
    refine rP 7 91 (.bool false) ?_
    refine rZ 8 92 ?_
    refine rZ 9 93 ?_
    refine rZ 10 94 ?_
    refine rZ 11 95 ?_
    refine rP 12 96 (.bool false) ?_
    refine rP 13 2 (.bool false) ?_
    refine rEnd 14 rfl (nxt (wp_ret (inR (thR ?_))))
    have kk29 := Chg.step kk9 ch6 trivial
    have hHd_ : Mur.nodeM f.frm ∧ Mur.nodeM f.dst ∧ f.frm ≠ f.dst ∧ f = bareM f := ⟨hpr1, hpr2, by omega, (hif1.1 rfl)⟩
    have hk_ : f.kind = 6 := UInt8.toNat_inj.1 (by have h_ : (6 : UInt8).toNat = 6 := rfl; omega)
    have hM_ : mayFM f ↔ Mur.mayK6 f := mayFM_6 hHd_ hk_
    refine rt (.bool false) ?_
    exact ⟨_, rfl, ⟨fun h_ => (by cases h_), fun h_ => absurd (hM_.1 h_) (fun ⟨q1_, q2_, q3_⟩ => by first | omega | exact Bool.noConfusion (hcb.2 q1_))⟩, kk29⟩
   refine rQ 0 83 _ rfl rfl (qboolF (b := (((f.kind.toNat : Nat) : Int) == (6 : Int))) (beq_eq_false_iff_ne.2 (by first | exact hx12 | omega))) ?_
   refine rP 1 82 (.bool false) ?_
   refine rEnd 2 rfl (nxt (wp_cond_false (by kernel_rfl) (wp_skip (inN (nxt (wp_seq (reg ?_)))))))
   refine rP 0 2 (.bool false) ?_
   refine rEnd 1 rfl (nxt (wp_ret ?_))
   have kk30 := Chg.step kk9 ch6 trivial
   have hHd_ : Mur.nodeM f.frm ∧ Mur.nodeM f.dst ∧ f.frm ≠ f.dst ∧ f = bareM f := ⟨hpr1, hpr2, by omega, (hif1.1 rfl)⟩
   refine rt (.bool false) ?_
   exact ⟨_, rfl, ⟨fun h_ => (by cases h_), fun h_ => absurd h_.2.2.2.2 (by rintro (h_ | h_ | h_ | h_ | h_ | h_) <;> (have q_ := congrArg UInt8.toNat h_.1; have q1_ : (1 : UInt8).toNat = 1 := rfl; have q2_ : (2 : UInt8).toNat = 2 := rfl; have q3_ : (3 : UInt8).toNat = 3 := rfl; have q4_ : (4 : UInt8).toNat = 4 := rfl; have q5_ : (5 : UInt8).toNat = 5 := rfl; have q6_ : (6 : UInt8).toNat = 6 := rfl; omega))⟩, kk30⟩
  rw [decide_eq_false hpr2]
  rintro _ W12 ⟨rfl, ch11⟩
  have zz11 := ch11.size
  have sS7 := Chg.step sS2 ch11 trivial
  refine ⟨_, rfl, sS7, ?_⟩
  refine dW 8 14 (.bool true) sS7 ?_
  refine dW 9 15 (.bool true) sS7 ?_
  refine dW 10 16 (.bool true) sS7 ?_
  refine dZ 11 17 sS7 ?_
  refine dZ 12 18 sS7 ?_
  refine dZ 13 19 sS7 ?_
  refine dZ 14 20 sS7 ?_
  refine dZ 15 21 sS7 ?_
  refine dW 16 22 (.bool true) sS7 ?_
  refine dW 17 23 (.bool true) sS7 ?_
  refine dZ 18 24 sS7 ?_
  refine dZ 19 25 sS7 ?_
  refine dZ 20 26 sS7 ?_
  refine dZ 21 27 sS7 ?_
  refine dZ 22 28 sS7 ?_
  refine dW 23 29 (.bool true) sS7 ?_
  refine dEnd (by kernel_rfl) (nxt (wp_cond_true (by kernel_rfl) (wp_seq (reg ?_))))
  refine rP 0 2 (.bool false) ?_
  refine rEnd 1 rfl (nxt (wp_ret (thR ?_)))
  have kk31 : Chg [] w W1 := Chg.step ((Chg.refl _).more (by simp)) ch1 trivial
  have kk32 := Chg.step kk31 ch2 trivial
  have kk33 := Chg.step kk32 ch3 trivial
  have kk34 := Chg.step kk33 ch11 trivial
  refine rt (.bool false) ?_
  exact ⟨_, rfl, ⟨fun h_ => (by cases h_), fun h_ => absurd h_ (fun ⟨h1_, h2_, h3_, h4_, h5_⟩ => by have q1_ : 0 ≤ f.frm ∧ f.frm < 16 := h1_; have q2_ : 0 ≤ f.dst ∧ f.dst < 16 := h2_; first | exact hpr2 q1_ | exact hpr2 q2_)⟩, kk34⟩
 rw [decide_eq_false hpr1]
 rintro _ W13 ⟨rfl, ch12⟩
 have zz12 := ch12.size
 have sS8 := Chg.step sS1 ch12 trivial
 refine ⟨_, rfl, sS8, ?_⟩
 refine dW 3 9 (.bool true) sS8 ?_
 refine dW 4 10 (.bool true) sS8 ?_
 refine dZ 5 11 sS8 ?_
 refine dZ 6 12 sS8 ?_
 refine dZ 7 13 sS8 ?_
 refine dZ 8 14 sS8 ?_
 refine dW 9 15 (.bool true) sS8 ?_
 refine dW 10 16 (.bool true) sS8 ?_
 refine dZ 11 17 sS8 ?_
 refine dZ 12 18 sS8 ?_
 refine dZ 13 19 sS8 ?_
 refine dZ 14 20 sS8 ?_
 refine dZ 15 21 sS8 ?_
 refine dW 16 22 (.bool true) sS8 ?_
 refine dW 17 23 (.bool true) sS8 ?_
 refine dZ 18 24 sS8 ?_
 refine dZ 19 25 sS8 ?_
 refine dZ 20 26 sS8 ?_
 refine dZ 21 27 sS8 ?_
 refine dZ 22 28 sS8 ?_
 refine dW 23 29 (.bool true) sS8 ?_
 refine dEnd (by kernel_rfl) (nxt (wp_cond_true (by kernel_rfl) (wp_seq (reg ?_))))
 refine rP 0 2 (.bool false) ?_
 refine rEnd 1 rfl (nxt (wp_ret (thR ?_)))
 have kk35 : Chg [] w W1 := Chg.step ((Chg.refl _).more (by simp)) ch1 trivial
 have kk36 := Chg.step kk35 ch2 trivial
 have kk37 := Chg.step kk36 ch12 trivial
 refine rt (.bool false) ?_
 exact ⟨_, rfl, ⟨fun h_ => (by cases h_), fun h_ => absurd h_ (fun ⟨h1_, h2_, h3_, h4_, h5_⟩ => by have q1_ : 0 ≤ f.frm ∧ f.frm < 16 := h1_; have q2_ : 0 ≤ f.dst ∧ f.dst < 16 := h2_; first | exact hpr1 q1_ | exact hpr1 q2_)⟩, kk37⟩
end Go.Proofs.YtgbadghjnpbiaaaDoor
