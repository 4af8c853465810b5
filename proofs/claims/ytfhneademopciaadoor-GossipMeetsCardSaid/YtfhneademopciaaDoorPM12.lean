/- gossip: what a message may be. slices.Index, Contains of results; Hear's closure. slices.IndexFunc of results, by Hear's closure. What DeleteFunc does in place: results stored in a slice of one's own, the rest cleared. No program in sight. slices.DeleteFunc of results, by Hear's closure. gossip: Hear. -/
import Derived.Test.YtfhneademopciaaDoorPM10
import Derived.Test.YtfhneademopciaaDoorPM5
import Derived.Test.YtfhneademopciaaDoorPM11
namespace Go.Proofs.YtfhneademopciaaDoor
open Go.RowKit
open Mur (b8s Byt Own8 Seg Segs flat cutA attC Att SlA OwnA rowA msgC)
set_option maxRecDepth 100000
set_option maxHeartbeats 4000000
def MayG_F1 (b : Array Value) (u1 : Value) (u43 : Value) (u44 : Value) (u45 : Value) : Act := ⟨#[b.getD 0 undef, u1, b.getD 2 undef, b.getD 3 undef, b.getD 4 undef, b.getD 5 undef, b.getD 6 undef, b.getD 7 undef, b.getD 8 undef, b.getD 9 undef, b.getD 10 undef, b.getD 11 undef, b.getD 12 undef, b.getD 13 undef, b.getD 14 undef, b.getD 15 undef, b.getD 16 undef, b.getD 17 undef, b.getD 18 undef, b.getD 19 undef, b.getD 20 undef, b.getD 21 undef, b.getD 22 undef, b.getD 23 undef, b.getD 24 undef, b.getD 25 undef, b.getD 26 undef, b.getD 27 undef, b.getD 28 undef, b.getD 29 undef, b.getD 30 undef, b.getD 31 undef, b.getD 32 undef, b.getD 33 undef, b.getD 34 undef, b.getD 35 undef, b.getD 36 undef, b.getD 37 undef, b.getD 38 undef, b.getD 39 undef, b.getD 40 undef, b.getD 41 undef, b.getD 42 undef, u43, u44, u45, b.getD 46 undef, b.getD 47 undef, b.getD 48 undef, b.getD 49 undef, b.getD 50 undef, b.getD 51 undef, b.getD 52 undef, b.getD 53 undef, b.getD 54 undef, b.getD 55 undef, b.getD 56 undef, b.getD 57 undef, b.getD 58 undef, b.getD 59 undef, b.getD 60 undef, b.getD 61 undef, b.getD 62 undef, b.getD 63 undef, b.getD 64 undef, b.getD 65 undef, b.getD 66 undef, b.getD 67 undef, b.getD 68 undef, b.getD 69 undef, b.getD 70 undef, b.getD 71 undef, b.getD 72 undef, b.getD 73 undef, b.getD 74 undef, b.getD 75 undef, b.getD 76 undef, b.getD 77 undef, b.getD 78 undef, b.getD 79 undef, b.getD 80 undef, b.getD 81 undef, b.getD 82 undef, b.getD 83 undef, b.getD 84 undef, b.getD 85 undef, b.getD 86 undef, b.getD 87 undef, b.getD 88 undef], []⟩
theorem May_any (kd : UInt8) (p : List UInt8) (PA : Option Addr) (pn pc : Nat) (s : List UInt8) (m : Int) (I : List Att) (A : Option Addr) (n c : Nat) (b : Bool) (w : World) (hs : s.length = 32) (hb : Byt w PA pn p) (hl : SlA w A n I) (hpn : pn ≤ 9223372036854775807) (hn : n ≤ 9223372036854775807) : Calls Tryd.prog 37 #[.agg (msgC kd PA pn pc s m A n c b).toArray] w fun e w' => ∃ v, e = .returned (.bool v) ∧ (v = true ↔ Mur.mayM ⟨kd, p, s, m, I, b⟩) ∧ Wk.Chg [] w w' := by
 have hlI0 := hl.len
 have hkd_ := kd.toNat_lt
 refine calls_of_wp Tryd.func37 rfl ?_
 refine wp_seq (Wk.reg ?_)
 refine Wk.rEx 0 (some 1) _ rfl rfl (by kernel_rfl) (Wk.new_ex (.pointer (some ⟨w.heap.size, 0, none⟩)) ((Mur.msgC kd PA pn pc s m A n c b).toArray) 66 (by kernel_rfl)) ?_
 rintro _ W1 ⟨rfl, hb1, ch1, sz1⟩
 have zz1 := ch1.size
 refine Wk.rP 1 2 (.bool false) rfl rfl ?_
 refine Wk.rEnd 2 rfl (Wk.nxt (wp_seq (wp_seq (Wk.reg ?_))))
 refine Wk.rP 0 7 (.pointer (some ⟨w.heap.size, 1, none⟩)) rfl rfl ?_
 refine Wk.rQ 1 8 (.slice PA pn pc) rfl rfl (Wk.load1 38 (.tmp 7) rfl (by kernel_rfl) ⟨w.heap.size, 1, none⟩ (by kernel_rfl) (.slice PA pn pc) (show World.cell? _ ⟨_, 0 + 1, _⟩ = _ from Mur.msg_pre (Wk.range_row hb1))) ?_
 refine Wk.rC 2 9 19 [.tmp 8] #[38] [.slice PA pn pc] rfl rfl rfl ?_
 have kk1 : Wk.Chg [] w W1 := Wk.Chg.step ((Wk.Chg.refl _).more (by simp)) ch1 trivial
 refine (IsPrefix_any p PA pn pc W1 (Mur.byt_chg hb kk1 (fun g off e hl => trivial)) (by omega)).mono ?_
 cases hpre1 : Mur.isPre p
 ·rintro _ _ ⟨rfl, rfl⟩
  refine ⟨_, rfl, ?_⟩
  refine Wk.rP 3 10 (.bool true) rfl rfl ?_
  refine Wk.rP 4 11 (.bool true) rfl rfl ?_
  refine Wk.rPass 5 (some 12) rfl rfl (by kernel_rfl) ?_
  refine Wk.rPass 6 (some 13) rfl rfl (by kernel_rfl) ?_
  refine Wk.rPass 7 (some 14) rfl rfl (by kernel_rfl) ?_
  refine Wk.rP 8 15 (.bool true) rfl rfl ?_
  refine Wk.rP 9 16 (.bool true) rfl rfl ?_
  refine Wk.rPass 10 (some 17) rfl rfl (by kernel_rfl) ?_
  refine Wk.rPass 11 (some 18) rfl rfl (by kernel_rfl) ?_
  refine Wk.rPass 12 (some 19) rfl rfl (by kernel_rfl) ?_
  refine Wk.rP 13 20 (.bool true) rfl rfl ?_
  refine Wk.rP 14 21 (.bool true) rfl rfl ?_
  refine Wk.rPass 15 (some 22) rfl rfl (by kernel_rfl) ?_
  refine Wk.rPass 16 (some 23) rfl rfl (by kernel_rfl) ?_
  refine Wk.rPass 17 (some 24) rfl rfl (by kernel_rfl) ?_
  refine Wk.rPass 18 (some 25) rfl rfl (by kernel_rfl) ?_
  refine Wk.rP 19 26 (.bool true) rfl rfl ?_
  refine Wk.rEnd 20 rfl (Wk.nxt (wp_cond_true (by kernel_rfl) (wp_seq (Wk.reg ?_))))
  refine Wk.rP 0 2 (.bool false) rfl rfl ?_
  refine Wk.rEnd 1 rfl (Wk.nxt (wp_ret (Wk.thR ?_)))
  have hlI_ := hl.len
  refine Wk.ret (.bool false) rfl (by kernel_rfl) ?_
  refine ⟨_, rfl, ⟨fun h_ => (by cases h_), fun h_ => ?_⟩, kk1⟩
  exfalso
  obtain ⟨h1_, h2_, h3_, h4_, h5_⟩ := Mur.mayM_iff.1 h_
  exact absurd (h1_.symm.trans hpre1) (by decide)
 rintro _ _ ⟨rfl, rfl⟩
 refine ⟨_, rfl, ?_⟩
 refine Wk.rP 3 10 (.bool false) rfl rfl ?_
 refine Wk.rP 4 11 (.bool false) rfl rfl ?_
 refine Wk.rP 5 12 (.pointer (some ⟨w.heap.size, 34, none⟩)) rfl rfl ?_
 refine Wk.rQ 6 13 (.int .i64 m) rfl rfl (Wk.load1 3 (.tmp 12) rfl (by kernel_rfl) ⟨w.heap.size, 34, none⟩ (by kernel_rfl) (.int .i64 m) (show World.cell? _ ⟨_, 0 + 34, _⟩ = _ from Mur.msg_cnt hs (Wk.range_row hb1))) ?_
 by_cases hx1 : m < (0 : Int)
 ·refine Wk.rQ 7 14 (.bool true) rfl rfl (Wk.boolT (b := decide (m < (0 : Int))) (decide_eq_true (by first | exact hx1 | omega)) (by kernel_rfl)) ?_
  refine Wk.rP 8 15 (.bool true) rfl rfl ?_
  refine Wk.rP 9 16 (.bool true) rfl rfl ?_
  refine Wk.rPass 10 (some 17) rfl rfl (by kernel_rfl) ?_
  refine Wk.rPass 11 (some 18) rfl rfl (by kernel_rfl) ?_
  refine Wk.rPass 12 (some 19) rfl rfl (by kernel_rfl) ?_
  refine Wk.rP 13 20 (.bool true) rfl rfl ?_
  refine Wk.rP 14 21 (.bool true) rfl rfl ?_
  refine Wk.rPass 15 (some 22) rfl rfl (by kernel_rfl) ?_
  refine Wk.rPass 16 (some 23) rfl rfl (by kernel_rfl) ?_
  refine Wk.rPass 17 (some 24) rfl rfl (by kernel_rfl) ?_
  refine Wk.rPass 18 (some 25) rfl rfl (by kernel_rfl) ?_
  refine Wk.rP 19 26 (.bool true) rfl rfl ?_
  refine Wk.rEnd 20 rfl (Wk.nxt (wp_cond_true (by kernel_rfl) (wp_seq (Wk.reg ?_))))
  refine Wk.rP 0 2 (.bool false) rfl rfl ?_
  refine Wk.rEnd 1 rfl (Wk.nxt (wp_ret (Wk.thR ?_)))
  have hlI_ := hl.len
  refine Wk.ret (.bool false) rfl (by kernel_rfl) ?_
  refine ⟨_, rfl, ⟨fun h_ => (by cases h_), fun h_ => ?_⟩, kk1⟩
  exfalso
  obtain ⟨h1_, h2_, h3_, h4_, h5_⟩ := Mur.mayM_iff.1 h_
  have h1k_ : ((1 : UInt8).toNat : Int) = 1 := rfl
  have h2k_ : ((2 : UInt8).toNat : Int) = 2 := rfl
  rcases h5_ with ⟨hk_, hi_, hb_⟩ | ⟨hk_, hi_, hso_, hz_, hc_⟩
  ·have hk2_ : (kd.toNat : Int) = _ := congrArg (fun z : UInt8 => (z.toNat : Int)) hk_
   have hi2_ := congrArg List.length hi_
   rw [List.length_nil] at hi2_
   first | omega | cases hb_ | (subst hb_; omega)
  have hk2_ : (kd.toNat : Int) = _ := congrArg (fun z : UInt8 => (z.toNat : Int)) hk_
  omega
 refine Wk.rQ 7 14 (.bool false) rfl rfl (Wk.boolF (b := decide (m < (0 : Int))) (decide_eq_false (by first | exact hx1 | omega)) (by kernel_rfl)) ?_
 refine Wk.rP 8 15 (.bool false) rfl rfl ?_
 refine Wk.rP 9 16 (.bool false) rfl rfl ?_
 refine Wk.rP 10 17 (.pointer (some ⟨w.heap.size, 34, none⟩)) rfl rfl ?_
 refine Wk.rQ 11 18 (.int .i64 m) rfl rfl (Wk.load1 3 (.tmp 17) rfl (by kernel_rfl) ⟨w.heap.size, 34, none⟩ (by kernel_rfl) (.int .i64 m) (show World.cell? _ ⟨_, 0 + 34, _⟩ = _ from Mur.msg_cnt hs (Wk.range_row hb1))) ?_
 by_cases hx2 : m > (200 : Int)
 ·refine Wk.rQ 12 19 (.bool true) rfl rfl (Wk.boolT (b := decide (m > (200 : Int))) (decide_eq_true (by first | exact hx2 | omega)) (by kernel_rfl)) ?_
  refine Wk.rP 13 20 (.bool true) rfl rfl ?_
  refine Wk.rP 14 21 (.bool true) rfl rfl ?_
  refine Wk.rPass 15 (some 22) rfl rfl (by kernel_rfl) ?_
  refine Wk.rPass 16 (some 23) rfl rfl (by kernel_rfl) ?_
  refine Wk.rPass 17 (some 24) rfl rfl (by kernel_rfl) ?_
  refine Wk.rPass 18 (some 25) rfl rfl (by kernel_rfl) ?_
  refine Wk.rP 19 26 (.bool true) rfl rfl ?_
  refine Wk.rEnd 20 rfl (Wk.nxt (wp_cond_true (by kernel_rfl) (wp_seq (Wk.reg ?_))))
  refine Wk.rP 0 2 (.bool false) rfl rfl ?_
  refine Wk.rEnd 1 rfl (Wk.nxt (wp_ret (Wk.thR ?_)))
  have hlI_ := hl.len
  refine Wk.ret (.bool false) rfl (by kernel_rfl) ?_
  refine ⟨_, rfl, ⟨fun h_ => (by cases h_), fun h_ => ?_⟩, kk1⟩
  exfalso
  obtain ⟨h1_, h2_, h3_, h4_, h5_⟩ := Mur.mayM_iff.1 h_
  have h1k_ : ((1 : UInt8).toNat : Int) = 1 := rfl
  have h2k_ : ((2 : UInt8).toNat : Int) = 2 := rfl
  rcases h5_ with ⟨hk_, hi_, hb_⟩ | ⟨hk_, hi_, hso_, hz_, hc_⟩
  ·have hk2_ : (kd.toNat : Int) = _ := congrArg (fun z : UInt8 => (z.toNat : Int)) hk_
   have hi2_ := congrArg List.length hi_
   rw [List.length_nil] at hi2_
   first | omega | cases hb_ | (subst hb_; omega)
  have hk2_ : (kd.toNat : Int) = _ := congrArg (fun z : UInt8 => (z.toNat : Int)) hk_
  omega
 refine Wk.rQ 12 19 (.bool false) rfl rfl (Wk.boolF (b := decide (m > (200 : Int))) (decide_eq_false (by first | exact hx2 | omega)) (by kernel_rfl)) ?_
 refine Wk.rP 13 20 (.bool false) rfl rfl ?_
 refine Wk.rP 14 21 (.bool false) rfl rfl ?_
 refine Wk.rP 15 22 (.pointer (some ⟨w.heap.size, 35, none⟩)) rfl rfl ?_
 refine Wk.rQ 16 23 (.slice A n c) rfl rfl (Wk.load1 22 (.tmp 22) rfl (by kernel_rfl) ⟨w.heap.size, 35, none⟩ (by kernel_rfl) (.slice A n c) (show World.cell? _ ⟨_, 0 + 35, _⟩ = _ from Mur.msg_items hs (Wk.range_row hb1))) ?_
 refine Wk.rP 17 24 (.int .i64 ((n : Nat) : Int)) rfl rfl ?_
 by_cases hx3 : ((n : Nat) : Int) > (8 : Int)
 ·refine Wk.rQ 18 25 (.bool true) rfl rfl (Wk.boolT (b := decide (((n : Nat) : Int) > (8 : Int))) (decide_eq_true (by first | exact hx3 | omega)) (by kernel_rfl)) ?_
  refine Wk.rP 19 26 (.bool true) rfl rfl ?_
  refine Wk.rEnd 20 rfl (Wk.nxt (wp_cond_true (by kernel_rfl) (wp_seq (Wk.reg ?_))))
  refine Wk.rP 0 2 (.bool false) rfl rfl ?_
  refine Wk.rEnd 1 rfl (Wk.nxt (wp_ret (Wk.thR ?_)))
  have hlI_ := hl.len
  refine Wk.ret (.bool false) rfl (by kernel_rfl) ?_
  refine ⟨_, rfl, ⟨fun h_ => (by cases h_), fun h_ => ?_⟩, kk1⟩
  exfalso
  obtain ⟨h1_, h2_, h3_, h4_, h5_⟩ := Mur.mayM_iff.1 h_
  have h1k_ : ((1 : UInt8).toNat : Int) = 1 := rfl
  have h2k_ : ((2 : UInt8).toNat : Int) = 2 := rfl
  rcases h5_ with ⟨hk_, hi_, hb_⟩ | ⟨hk_, hi_, hso_, hz_, hc_⟩
  ·have hk2_ : (kd.toNat : Int) = _ := congrArg (fun z : UInt8 => (z.toNat : Int)) hk_
   have hi2_ := congrArg List.length hi_
   rw [List.length_nil] at hi2_
   first | omega | cases hb_ | (subst hb_; omega)
  have hk2_ : (kd.toNat : Int) = _ := congrArg (fun z : UInt8 => (z.toNat : Int)) hk_
  omega
 refine Wk.rQ 18 25 (.bool false) rfl rfl (Wk.boolF (b := decide (((n : Nat) : Int) > (8 : Int))) (decide_eq_false (by first | exact hx3 | omega)) (by kernel_rfl)) ?_
 refine Wk.rP 19 26 (.bool false) rfl rfl ?_
 refine Wk.rEnd 20 rfl (Wk.nxt (wp_cond_false (by kernel_rfl) (wp_skip (Wk.nxt (wp_seq (wp_seq (Wk.reg ?_)))))))
 have hpreT_ := hpre1
 have hp8_ := Mur.pre_len hpreT_
 have hpl_ := hb.1
 refine Wk.rP 0 27 (.pointer (some ⟨w.heap.size, 0, none⟩)) rfl rfl ?_
 refine Wk.rQ 1 28 (.int .u8 ((kd.toNat : Nat) : Int)) rfl rfl (Wk.load1 5 (.tmp 27) rfl (by kernel_rfl) ⟨w.heap.size, 0, none⟩ (by kernel_rfl) (.int .u8 ((kd.toNat : Nat) : Int)) (show World.cell? _ ⟨_, 0 + 0, _⟩ = _ from Mur.msg_kind (Wk.range_row hb1))) ?_
 refine Wk.rEnd 2 rfl (Wk.nxt (wp_block (wp_seq (Wk.reg ?_))))
 by_cases hx4 : ((kd.toNat : Nat) : Int) = (1 : Int)
 ·refine Wk.rQ 0 30 (.bool true) rfl rfl (Wk.boolT (b := (((kd.toNat : Nat) : Int) == (1 : Int))) (beq_iff_eq.2 (by first | exact hx4 | omega)) (by kernel_rfl)) ?_
  refine Wk.rP 1 29 (.bool true) rfl rfl ?_
  refine Wk.rEnd 2 rfl (Wk.nxt (wp_cond_true (by kernel_rfl) (wp_seq (Wk.reg ?_))))
  cases b
  ·refine Wk.rP 0 31 (.pointer (some ⟨w.heap.size, 35, none⟩)) rfl rfl ?_
   refine Wk.rQ 1 32 (.slice A n c) rfl rfl (Wk.load1 22 (.tmp 31) rfl (by kernel_rfl) ⟨w.heap.size, 35, none⟩ (by kernel_rfl) (.slice A n c) (show World.cell? _ ⟨_, 0 + 35, _⟩ = _ from Mur.msg_items hs (Wk.range_row hb1))) ?_
   refine Wk.rP 2 33 (.int .i64 ((n : Nat) : Int)) rfl rfl ?_
   by_cases hx5 : ((n : Nat) : Int) = (0 : Int)
   ·refine Wk.rQ 3 34 (.bool true) rfl rfl (Wk.boolT (b := (((n : Nat) : Int) == (0 : Int))) (beq_iff_eq.2 (by first | exact hx5 | omega)) (by kernel_rfl)) ?_
    refine Wk.rP 4 35 (.bool true) rfl rfl ?_
    refine Wk.rP 5 36 (.pointer (some ⟨w.heap.size, 36, none⟩)) rfl rfl ?_
    refine Wk.rQ 6 37 (.bool false) rfl rfl (Wk.load1 4 (.tmp 36) rfl (by kernel_rfl) ⟨w.heap.size, 36, none⟩ (by kernel_rfl) (.bool false) (show World.cell? _ ⟨_, 0 + 36, _⟩ = _ from Mur.msg_ans hs (Wk.range_row hb1))) ?_
    refine Wk.rP 7 38 (.bool true) rfl rfl ?_
    refine Wk.rP 8 39 (.bool true) rfl rfl ?_
    refine Wk.rP 9 2 (.bool true) rfl rfl ?_
    refine Wk.rEnd 10 rfl (Wk.nxt (wp_ret (Wk.inR (Wk.thR ?_))))
    have hlI_ := hl.len
    refine Wk.ret (.bool true) rfl (by kernel_rfl) ?_
    exact ⟨_, rfl, ⟨fun _ => Mur.mayM_iff.2 ⟨hpreT_, by omega, by omega, by omega, .inl ⟨Mur.u8_cast_inj (by have h_ : ((1 : UInt8).toNat : Int) = 1 := rfl; omega), List.eq_nil_of_length_eq_zero (by omega), rfl⟩⟩, fun _ => rfl⟩, kk1⟩
   refine Wk.rQ 3 34 (.bool false) rfl rfl (Wk.boolF (b := (((n : Nat) : Int) == (0 : Int))) (beq_eq_false_iff_ne.2 (by first | exact hx5 | omega)) (by kernel_rfl)) ?_
   refine Wk.rP 4 35 (.bool false) rfl rfl ?_
   refine Wk.rPass 5 (some 36) rfl rfl (by kernel_rfl) ?_
   refine Wk.rPass 6 (some 37) rfl rfl (by kernel_rfl) ?_
   refine Wk.rPass 7 (some 38) rfl rfl (by kernel_rfl) ?_
   refine Wk.rP 8 39 (.bool false) rfl rfl ?_
   refine Wk.rP 9 2 (.bool false) rfl rfl ?_
   refine Wk.rEnd 10 rfl (Wk.nxt (wp_ret (Wk.inR (Wk.thR ?_))))
   have hlI_ := hl.len
   refine Wk.ret (.bool false) rfl (by kernel_rfl) ?_
   refine ⟨_, rfl, ⟨fun h_ => (by cases h_), fun h_ => ?_⟩, kk1⟩
   exfalso
   obtain ⟨h1_, h2_, h3_, h4_, h5_⟩ := Mur.mayM_iff.1 h_
   have h1k_ : ((1 : UInt8).toNat : Int) = 1 := rfl
   have h2k_ : ((2 : UInt8).toNat : Int) = 2 := rfl
   rcases h5_ with ⟨hk_, hi_, hb_⟩ | ⟨hk_, hi_, hso_, hz_, hc_⟩
   ·have hk2_ : (kd.toNat : Int) = _ := congrArg (fun z : UInt8 => (z.toNat : Int)) hk_
    have hi2_ := congrArg List.length hi_
    rw [List.length_nil] at hi2_
    first | omega | cases hb_ | (subst hb_; omega)
   have hk2_ : (kd.toNat : Int) = _ := congrArg (fun z : UInt8 => (z.toNat : Int)) hk_
   omega
  refine Wk.rP 0 31 (.pointer (some ⟨w.heap.size, 35, none⟩)) rfl rfl ?_
  refine Wk.rQ 1 32 (.slice A n c) rfl rfl (Wk.load1 22 (.tmp 31) rfl (by kernel_rfl) ⟨w.heap.size, 35, none⟩ (by kernel_rfl) (.slice A n c) (show World.cell? _ ⟨_, 0 + 35, _⟩ = _ from Mur.msg_items hs (Wk.range_row hb1))) ?_
  refine Wk.rP 2 33 (.int .i64 ((n : Nat) : Int)) rfl rfl ?_
  by_cases hx6 : ((n : Nat) : Int) = (0 : Int)
  ·refine Wk.rQ 3 34 (.bool true) rfl rfl (Wk.boolT (b := (((n : Nat) : Int) == (0 : Int))) (beq_iff_eq.2 (by first | exact hx6 | omega)) (by kernel_rfl)) ?_
   refine Wk.rP 4 35 (.bool true) rfl rfl ?_
   refine Wk.rP 5 36 (.pointer (some ⟨w.heap.size, 36, none⟩)) rfl rfl ?_
   refine Wk.rQ 6 37 (.bool true) rfl rfl (Wk.load1 4 (.tmp 36) rfl (by kernel_rfl) ⟨w.heap.size, 36, none⟩ (by kernel_rfl) (.bool true) (show World.cell? _ ⟨_, 0 + 36, _⟩ = _ from Mur.msg_ans hs (Wk.range_row hb1))) ?_
   refine Wk.rP 7 38 (.bool false) rfl rfl ?_
   refine Wk.rP 8 39 (.bool false) rfl rfl ?_
   refine Wk.rP 9 2 (.bool false) rfl rfl ?_
   refine Wk.rEnd 10 rfl (Wk.nxt (wp_ret (Wk.inR (Wk.thR ?_))))
   have hlI_ := hl.len
   refine Wk.ret (.bool false) rfl (by kernel_rfl) ?_
   refine ⟨_, rfl, ⟨fun h_ => (by cases h_), fun h_ => ?_⟩, kk1⟩
   exfalso
   obtain ⟨h1_, h2_, h3_, h4_, h5_⟩ := Mur.mayM_iff.1 h_
   have h1k_ : ((1 : UInt8).toNat : Int) = 1 := rfl
   have h2k_ : ((2 : UInt8).toNat : Int) = 2 := rfl
   rcases h5_ with ⟨hk_, hi_, hb_⟩ | ⟨hk_, hi_, hso_, hz_, hc_⟩
   ·have hk2_ : (kd.toNat : Int) = _ := congrArg (fun z : UInt8 => (z.toNat : Int)) hk_
    have hi2_ := congrArg List.length hi_
    rw [List.length_nil] at hi2_
    first | omega | cases hb_ | (subst hb_; omega)
   have hk2_ : (kd.toNat : Int) = _ := congrArg (fun z : UInt8 => (z.toNat : Int)) hk_
   omega
  refine Wk.rQ 3 34 (.bool false) rfl rfl (Wk.boolF (b := (((n : Nat) : Int) == (0 : Int))) (beq_eq_false_iff_ne.2 (by first | exact hx6 | omega)) (by kernel_rfl)) ?_
  refine Wk.rP 4 35 (.bool false) rfl rfl ?_
  refine Wk.rPass 5 (some 36) rfl rfl (by kernel_rfl) ?_
  refine Wk.rPass 6 (some 37) rfl rfl (by kernel_rfl) ?_
  refine Wk.rPass 7 (some 38) rfl rfl (by kernel_rfl) ?_
  refine Wk.rP 8 39 (.bool false) rfl rfl ?_
  refine Wk.rP 9 2 (.bool false) rfl rfl ?_
  refine Wk.rEnd 10 rfl (Wk.nxt (wp_ret (Wk.inR (Wk.thR ?_))))
  have hlI_ := hl.len
  refine Wk.ret (.bool false) rfl (by kernel_rfl) ?_
  refine ⟨_, rfl, ⟨fun h_ => (by cases h_), fun h_ => ?_⟩, kk1⟩
  exfalso
  obtain ⟨h1_, h2_, h3_, h4_, h5_⟩ := Mur.mayM_iff.1 h_
  have h1k_ : ((1 : UInt8).toNat : Int) = 1 := rfl
  have h2k_ : ((2 : UInt8).toNat : Int) = 2 := rfl
  rcases h5_ with ⟨hk_, hi_, hb_⟩ | ⟨hk_, hi_, hso_, hz_, hc_⟩
  ·have hk2_ : (kd.toNat : Int) = _ := congrArg (fun z : UInt8 => (z.toNat : Int)) hk_
   have hi2_ := congrArg List.length hi_
   rw [List.length_nil] at hi2_
   first | omega | cases hb_ | (subst hb_; omega)
  have hk2_ : (kd.toNat : Int) = _ := congrArg (fun z : UInt8 => (z.toNat : Int)) hk_
  omega
 refine Wk.rQ 0 30 (.bool false) rfl rfl (Wk.boolF (b := (((kd.toNat : Nat) : Int) == (1 : Int))) (beq_eq_false_iff_ne.2 (by first | exact hx4 | omega)) (by kernel_rfl)) ?_
 refine Wk.rP 1 29 (.bool false) rfl rfl ?_
 refine Wk.rEnd 2 rfl (Wk.nxt (wp_cond_false (by kernel_rfl) (wp_seq (Wk.reg ?_))))
 by_cases hx7 : ((kd.toNat : Nat) : Int) = (2 : Int)
 ·refine Wk.rQ 0 41 (.bool true) rfl rfl (Wk.boolT (b := (((kd.toNat : Nat) : Int) == (2 : Int))) (beq_iff_eq.2 (by first | exact hx7 | omega)) (by kernel_rfl)) ?_
  refine Wk.rP 1 40 (.bool true) rfl rfl ?_
  refine Wk.rEnd 2 rfl (Wk.nxt (wp_cond_true (by kernel_rfl) (wp_seq (wp_seq (Wk.reg ?_)))))
  refine Wk.rP 0 42 (.pointer (some ⟨w.heap.size, 35, none⟩)) rfl rfl ?_
  refine Wk.rQ 1 43 (.slice A n c) rfl rfl (Wk.load1 22 (.tmp 42) rfl (by kernel_rfl) ⟨w.heap.size, 35, none⟩ (by kernel_rfl) (.slice A n c) (show World.cell? _ ⟨_, 0 + 35, _⟩ = _ from Mur.msg_items hs (Wk.range_row hb1))) ?_
  refine Wk.rP 2 44 (.int .i64 ((n : Nat) : Int)) rfl rfl ?_
  refine Wk.rP 3 45 (.int .i64 0) rfl rfl ?_
  refine Wk.rEnd 4 rfl (Wk.nxt (wp_block ?_))
  refine Wk.loop (fun m_ a wr => ∃ (i : Nat), m_ = n - i ∧ a = MayG_F1 a.tmps (.pointer (some ⟨w.heap.size, 0, none⟩)) (.slice A n c) (.int .i64 ((n : Nat) : Int)) (.int .i64 ((i : Nat) : Int)) ∧ i ≤ n ∧ (∀ x, x ∈ I.take i → Mur.may x.n ∧ Mur.under p x.k = true) ∧ Mur.Sorted (I.take i) ∧ wr.heap[w.heap.size]? = some (.cells (Mur.msgC kd PA pn pc s m A n c b).toArray 66 (0, 0)) ∧ Wk.Chg [] w wr) (n - 0) ?_ ?_
  ·refine ⟨0, rfl, by kernel_rfl, (by omega), (by simp), List.Pairwise.nil, hb1, kk1⟩
  rintro mm1 aa1 W2 ⟨i, hmm1, hF1, hi, hall, hsr, hX, HB⟩
  generalize aa1.tmps = bb1 at hF1
  subst hF1
  have hzB := HB.size
  have hxl_ := (Array.getElem?_eq_some_iff.1 hX).1
  have hlI := hl.len
  by_cases hlt : i < n
  ·obtain ⟨g_x, o_x, rfl, _⟩ := hl.ex (by omega)
   obtain ⟨x, hx⟩ : ∃ x, I[i]? = some x := ⟨_, List.getElem?_eq_getElem (by have := hl.len; omega)⟩
   refine wp_seq (Wk.reg ?_)
   refine Wk.rQ 0 46 (.bool true) rfl rfl (Wk.boolT (b := decide (((i : Nat) : Int) < ((n : Nat) : Int))) (decide_eq_true (by omega)) (by kernel_rfl)) ?_
   refine Wk.rEnd 1 rfl (Wk.nxt (wp_seq (wp_cond_true (by kernel_rfl) (wp_skip (Wk.nxt (wp_seq (wp_block (wp_seq (Wk.reg ?_)))))))))
   refine Wk.rP 0 47 (.int .i64 ((i : Nat) : Int)) rfl rfl ?_
   refine Wk.rQ 1 48 (.pointer (some ⟨g_x, o_x + i * 97, none⟩)) rfl rfl (Wk.index_sl 22 32 (.tmp 43) (.tmp 45) rfl Tryd.underlying22 97 (by kernel_rfl) g_x o_x n c i .i64 (by kernel_rfl) (by kernel_rfl) (by omega)) ?_
   refine Wk.rQ 2 49 (.agg ((Mur.attC x.k x.r x.n x.t).toArray)) rfl rfl (Wk.loadR 32 (.tmp 48) rfl _ Tryd.underlying32 rfl g_x (o_x + i * 97) (by kernel_rfl) (Mur.attC x.k x.r x.n x.t) (by rw [Mur.attC_length x.hk x.hr x.ht]; kernel_rfl) ((Mur.SlA.chg hl HB (fun g off e hl => trivial)).elem hx)) ?_
   refine Wk.rEx 3 (some 4) _ rfl rfl (by kernel_rfl) (Wk.new_ex (.pointer (some ⟨W2.heap.size, 0, none⟩)) #[.int .u8 0, .int .u8 0, .int .u8 0, .int .u8 0, .int .u8 0, .int .u8 0, .int .u8 0, .int .u8 0, .int .u8 0, .int .u8 0, .int .u8 0, .int .u8 0, .int .u8 0, .int .u8 0, .int .u8 0, .int .u8 0, .int .u8 0, .int .u8 0, .int .u8 0, .int .u8 0, .int .u8 0, .int .u8 0, .int .u8 0, .int .u8 0, .int .u8 0, .int .u8 0, .int .u8 0, .int .u8 0, .int .u8 0, .int .u8 0, .int .u8 0, .int .u8 0, .int .u8 0, .int .u8 0, .int .u8 0, .int .u8 0, .int .u8 0, .int .u8 0, .int .u8 0, .int .u8 0, .int .u8 0, .int .u8 0, .int .u8 0, .int .u8 0, .int .u8 0, .int .u8 0, .int .u8 0, .int .u8 0, .int .u8 0, .int .u8 0, .int .u8 0, .int .u8 0, .int .u8 0, .int .u8 0, .int .u8 0, .int .u8 0, .int .u8 0, .int .u8 0, .int .u8 0, .int .u8 0, .int .u8 0, .int .u8 0, .int .u8 0, .int .u8 0, .int .i64 0, .int .u8 0, .int .u8 0, .int .u8 0, .int .u8 0, .int .u8 0, .int .u8 0, .int .u8 0, .int .u8 0, .int .u8 0, .int .u8 0, .int .u8 0, .int .u8 0, .int .u8 0, .int .u8 0, .int .u8 0, .int .u8 0, .int .u8 0, .int .u8 0, .int .u8 0, .int .u8 0, .int .u8 0, .int .u8 0, .int .u8 0, .int .u8 0, .int .u8 0, .int .u8 0, .int .u8 0, .int .u8 0, .int .u8 0, .int .u8 0, .int .u8 0, .int .u8 0] 32 (by kernel_rfl)) ?_
   rintro _ W3 ⟨rfl, hb2, ch2, sz2⟩
   have zz2 := ch2.size
   rw [← Mur.attC_zero] at hb2
   refine Wk.rP 4 3 (.int .i64 ((i : Nat) : Int)) rfl rfl ?_
   refine Wk.rExS 5 none _ rfl rfl (by kernel_rfl) (Mur.storeArr 32 (.tmp 4) (.tmp 49) rfl W2.heap.size (by kernel_rfl) (Mur.attC x.k x.r x.n x.t).toArray 97 (Mur.attC_size x.hk x.hr x.ht) Mur.attC_all (by kernel_rfl) (by kernel_rfl) 32 ((Mur.attC Mur.z32 Mur.z32 0 Mur.z32).toArray) hb2 (Mur.attC_size rfl rfl rfl)) ?_
   rintro W4 ⟨hb3, ch3⟩
   have zz3 := ch3.size
   refine Wk.rEnd 6 rfl (Wk.nxt (wp_seq (Wk.reg ?_)))
   refine Wk.rQ 0 51 (.agg ((Mur.attC x.k x.r x.n x.t).toArray)) rfl rfl (Mur.loadArr 32 (.tmp 4) rfl _ Tryd.underlying32 rfl W2.heap.size (by kernel_rfl) (Mur.attC x.k x.r x.n x.t).toArray 97 (Mur.attC_size x.hk x.hr x.ht) (by kernel_rfl) 32 (0, 0) hb3) ?_
   refine Wk.rC 1 52 38 [.tmp 51] #[32] [.agg ((Mur.attC x.k x.r x.n x.t).toArray)] rfl rfl rfl ?_
   by_cases hmay1 : Mur.may x.n
   ·have hmay1u : (1 ≤ x.n ∧ x.n ≤ 5000) := hmay1
    refine (Bytes_ok x.k x.r x.t x.n x.hk x.hr x.ht W4 hmay1).mono ?_
    rintro _ W5 ⟨qr1, cr1, RB1, hRB1, rfl, hbr1, hq1, hq2, ch4⟩
    have zz4 := ch4.size
    have hBt1 : ∀ g off, (some ⟨qr1, 0, none⟩ : Option Addr) = some ⟨g, off, none⟩ → W4.heap.size ≤ g ∧ g < W5.heap.size := fun g off e => by cases e; exact hq1
    refine ⟨_, rfl, ?_⟩
    refine Wk.rP 2 50 (.tuple #[.slice (some ⟨qr1, 0, none⟩) 104 cr1, .int .i64 0]) rfl rfl ?_
    refine Wk.rP 3 53 (.slice (some ⟨qr1, 0, none⟩) 104 cr1) rfl rfl ?_
    refine Wk.rP 4 54 (.int .i64 0) rfl rfl ?_
    refine Wk.rP 5 5 (.slice (some ⟨qr1, 0, none⟩) 104 cr1) rfl rfl ?_
    refine Wk.rP 6 6 (.int .i64 0) rfl rfl ?_
    refine Wk.rEnd 7 rfl (Wk.nxt (wp_seq ?_))
    refine Wk.dReg ([]) (by kernel_rfl) ?_
    intro W6 ch5 sz3
    have zz5 := ch5.size
    have sS1 : Wk.Chg ([]) W6 W6 := (Wk.Chg.refl _).more (by simp)
    refine Wk.dV 0 55 (.int .i64 0) rfl rfl (fun _ _ => by kernel_rfl) sS1 ?_
    refine Wk.dV 1 56 (.bool false) rfl rfl (fun w' hw' => (Wk.boolF (b := ((0 : Int) != (0 : Int))) (bne_eq_false_iff_eq.2 (by decide)) (by kernel_rfl))) sS1 ?_
    refine Wk.dV 2 57 (.bool false) rfl rfl (fun _ _ => by kernel_rfl) sS1 ?_
    refine Wk.dV 3 58 (.agg ((Mur.attC x.k x.r x.n x.t).toArray)) rfl rfl (fun w' hw' => (Mur.loadArr 32 (.tmp 4) rfl _ Tryd.underlying32 rfl W2.heap.size (by kernel_rfl) (Mur.attC x.k x.r x.n x.t).toArray 97 (Mur.attC_size x.hk x.hr x.ht) (by kernel_rfl) 32 (0, 0) (Wk.Chg.hp hw' (Wk.Chg.hp ch5 (Wk.Chg.hp ch4 hb3 trivial) trivial) trivial))) sS1 ?_
    refine Wk.dV 4 59 (.pointer (some ⟨w.heap.size, 1, none⟩)) rfl rfl (fun _ _ => by kernel_rfl) sS1 ?_
    refine Wk.dV 5 60 (.slice PA pn pc) rfl rfl (fun w' hw' => (Wk.load1 38 (.tmp 59) rfl (by kernel_rfl) ⟨w.heap.size, 1, none⟩ (by kernel_rfl) (.slice PA pn pc) (show World.cell? _ ⟨_, 0 + 1, _⟩ = _ from Mur.msg_pre (Wk.range_row (Wk.Chg.hp hw' (Wk.Chg.hp ch5 (Wk.Chg.hp ch4 (Wk.Chg.hp ch3 (Wk.Chg.hp ch2 hX trivial) ⟨by omega, trivial⟩) trivial) trivial) trivial))))) sS1 ?_
    refine Wk.dOp 6 (by kernel_rfl) ?_
    refine Wk.oCall (some 61) 58 [.tmp 58, .tmp 60] #[32, 38] [.agg ((Mur.attC x.k x.r x.n x.t).toArray), .slice PA pn pc] rfl rfl (by kernel_rfl) rfl (by kernel_rfl) (by kernel_rfl) ?_
    have kk2 := Wk.Chg.step HB ch2 trivial
    have kk3 := Wk.Chg.step kk2 ch3 ⟨.inr (by omega), trivial⟩
    have kk4 := Wk.Chg.step kk3 ch4 trivial
    have kk5 := Wk.Chg.step kk4 ch5 trivial
    refine (within_any x p PA pn pc W6 (Mur.byt_chg hb kk5 (fun g off e hl => trivial)) (by omega)).mono ?_
    cases hun1 : Mur.under p x.k
    ·rintro _ W7 ⟨rfl, ch6⟩
     have zz6 := ch6.size
     have sS2 := Wk.Chg.step sS1 ch6 trivial
     refine ⟨_, rfl, sS2, ?_⟩
     refine Wk.dV 7 62 (.bool true) rfl rfl (fun _ _ => by kernel_rfl) sS2 ?_
     refine Wk.dV 8 63 (.bool true) rfl rfl (fun _ _ => by kernel_rfl) sS2 ?_
     refine Wk.dV 9 64 (.bool true) rfl rfl (fun _ _ => by kernel_rfl) sS2 ?_
     refine Wk.dPass 10 (some 65) rfl rfl (by kernel_rfl) (by kernel_rfl) (by kernel_rfl) (fun _ _ _ h => h) (by kernel_rfl) sS2 ?_
     refine Wk.dPass 11 (some 66) rfl rfl (by kernel_rfl) (by kernel_rfl) (by kernel_rfl) (fun _ _ _ h => h) (by kernel_rfl) sS2 ?_
     refine Wk.dPass 12 (some 67) rfl rfl (by kernel_rfl) (by kernel_rfl) (by kernel_rfl) (fun _ _ _ h => h) (by kernel_rfl) sS2 ?_
     refine Wk.dPass 13 (some 68) rfl rfl (by kernel_rfl) (by kernel_rfl) (by kernel_rfl) (fun _ _ _ h => h) (by kernel_rfl) sS2 ?_
     refine Wk.dPass 14 (some 69) rfl rfl (by kernel_rfl) (by kernel_rfl) (by kernel_rfl) (fun _ _ _ h => h) (by kernel_rfl) sS2 ?_
     refine Wk.dPass 15 (some 70) rfl rfl (by kernel_rfl) (by kernel_rfl) (by kernel_rfl) (fun _ _ _ h => h) (by kernel_rfl) sS2 ?_
     refine Wk.dPass 16 (some 71) rfl rfl (by kernel_rfl) (by kernel_rfl) (by kernel_rfl) (fun _ _ _ h => h) (by kernel_rfl) sS2 ?_
     refine Wk.dPass 17 (some 72) rfl rfl (by kernel_rfl) (by kernel_rfl) (by kernel_rfl) (fun _ _ _ h => h) (by kernel_rfl) sS2 ?_
     refine Wk.dPass 18 (some 73) rfl rfl (by kernel_rfl) (by kernel_rfl) (by kernel_rfl) (fun _ _ _ h => h) (by kernel_rfl) sS2 ?_
     refine Wk.dPass 19 (some 74) rfl rfl (by kernel_rfl) (by kernel_rfl) (by kernel_rfl) (fun _ _ _ h => h) (by kernel_rfl) sS2 ?_
     refine Wk.dPass 20 (some 75) rfl rfl (by kernel_rfl) (by kernel_rfl) (by kernel_rfl) (fun _ _ _ h => h) (by kernel_rfl) sS2 ?_
     refine Wk.dPass 21 (some 76) rfl rfl (by kernel_rfl) (by kernel_rfl) (by kernel_rfl) (fun _ _ _ h => h) (by kernel_rfl) sS2 ?_
     refine Wk.dPass 22 (some 77) rfl rfl (by kernel_rfl) (by kernel_rfl) (by kernel_rfl) (fun _ _ _ h => h) (by kernel_rfl) sS2 ?_
     refine Wk.dV 23 78 (.bool true) rfl rfl (fun _ _ => by kernel_rfl) sS2 ?_
     refine Wk.dEnd (by kernel_rfl) (Wk.nxt (wp_cond_true (by kernel_rfl) (wp_seq (Wk.reg ?_))))
     refine Wk.rP 0 2 (.bool false) rfl rfl ?_
     refine Wk.rEnd 1 rfl (Wk.nxt (wp_ret (Wk.inR (Wk.thR (Wk.thR (Wk.inR (Wk.thR (Wk.inR (Wk.thR ?_)))))))))
     have kk6 := Wk.Chg.step kk5 ch6 trivial
     have hlI_ := hl.len
     refine Wk.ret (.bool false) rfl (by kernel_rfl) ?_
     refine ⟨_, rfl, ⟨fun h_ => (by cases h_), fun h_ => ?_⟩, kk6⟩
     exfalso
     obtain ⟨h1_, h2_, h3_, h4_, h5_⟩ := Mur.mayM_iff.1 h_
     have h1k_ : ((1 : UInt8).toNat : Int) = 1 := rfl
     have h2k_ : ((2 : UInt8).toNat : Int) = 2 := rfl
     rcases h5_ with ⟨hk_, hi_, hb_⟩ | ⟨hk_, hi_, hso_, hz_, hc_⟩
     ·have hk2_ : (kd.toNat : Int) = _ := congrArg (fun z : UInt8 => (z.toNat : Int)) hk_
      have hi2_ := congrArg List.length hi_
      rw [List.length_nil] at hi2_
      first | omega | cases hb_ | (subst hb_; omega)
     have hk2_ : (kd.toNat : Int) = _ := congrArg (fun z : UInt8 => (z.toNat : Int)) hk_
     have hu_ := (hi_ x (List.mem_of_getElem? hx)).2
     rw [hun1] at hu_
     cases hu_
    rintro _ W7 ⟨rfl, ch6⟩
    have zz7 := ch6.size
    have sS3 := Wk.Chg.step sS1 ch6 trivial
    refine ⟨_, rfl, sS3, ?_⟩
    refine Wk.dV 7 62 (.bool false) rfl rfl (fun _ _ => by kernel_rfl) sS3 ?_
    refine Wk.dV 8 63 (.bool false) rfl rfl (fun _ _ => by kernel_rfl) sS3 ?_
    refine Wk.dV 9 64 (.bool false) rfl rfl (fun _ _ => by kernel_rfl) sS3 ?_
    refine Wk.dV 10 65 (.int .i64 ((i : Nat) : Int)) rfl rfl (fun _ _ => by kernel_rfl) sS3 ?_
    by_cases hx8 : ((i : Nat) : Int) > (0 : Int)
    ·refine Wk.dV 11 66 (.bool true) rfl rfl (fun w' hw' => (Wk.boolT (b := decide (((i : Nat) : Int) > (0 : Int))) (decide_eq_true (by first | exact hx8 | omega)) (by kernel_rfl))) sS3 ?_
     refine Wk.dV 12 67 (.bool true) rfl rfl (fun _ _ => by kernel_rfl) sS3 ?_
     refine Wk.dV 13 68 (.pointer (some ⟨w.heap.size, 35, none⟩)) rfl rfl (fun _ _ => by kernel_rfl) sS3 ?_
     refine Wk.dV 14 69 (.slice (some ⟨g_x, o_x, none⟩) n c) rfl rfl (fun w' hw' => (Wk.load1 22 (.tmp 68) rfl (by kernel_rfl) ⟨w.heap.size, 35, none⟩ (by kernel_rfl) (.slice (some ⟨g_x, o_x, none⟩) n c) (show World.cell? _ ⟨_, 0 + 35, _⟩ = _ from Mur.msg_items hs (Wk.range_row (Wk.Chg.hp hw' (Wk.Chg.hp ch5 (Wk.Chg.hp ch4 (Wk.Chg.hp ch3 (Wk.Chg.hp ch2 hX trivial) ⟨by omega, trivial⟩) trivial) trivial) trivial))))) sS3 ?_
     refine Wk.dV 15 70 (.int .i64 ((i : Nat) : Int)) rfl rfl (fun _ _ => by kernel_rfl) sS3 ?_
     obtain ⟨z, hz⟩ : ∃ z, I[i - 1]? = some z := ⟨_, List.getElem?_eq_getElem (by omega)⟩
     refine Wk.dV 16 71 (.int .i64 ((i - 1 : Nat) : Int)) rfl rfl (fun w' hw' => (Wk.int64 (n := ((i : Nat) : Int) - 1) (z := ((i - 1 : Nat) : Int)) (by omega) (by omega) (by omega) (by kernel_rfl))) sS3 ?_
     refine Wk.dV 17 72 (.pointer (some ⟨g_x, o_x + (i - 1) * 97, none⟩)) rfl rfl (fun w' hw' => (Wk.index_sl 22 32 (.tmp 69) (.tmp 71) rfl Tryd.underlying22 97 (by kernel_rfl) g_x o_x n c (i - 1) .i64 (by kernel_rfl) (by kernel_rfl) (by omega))) sS3 ?_
     refine Wk.dV 18 73 (.agg ((Mur.attC z.k z.r z.n z.t).toArray)) rfl rfl (fun w' hw' => (Wk.loadR 32 (.tmp 72) rfl _ Tryd.underlying32 rfl g_x (o_x + (i - 1) * 97) (by kernel_rfl) (Mur.attC z.k z.r z.n z.t) (by rw [Mur.attC_length z.hk z.hr z.ht]; kernel_rfl) ((Mur.SlA.chg (Mur.SlA.chg hl kk5 (fun g off e hl => trivial)) hw' (fun g off e hl => trivial)).elem hz))) sS3 ?_
     refine Wk.dV 19 74 (.agg ((Mur.attC x.k x.r x.n x.t).toArray)) rfl rfl (fun w' hw' => (Mur.loadArr 32 (.tmp 4) rfl _ Tryd.underlying32 rfl W2.heap.size (by kernel_rfl) (Mur.attC x.k x.r x.n x.t).toArray 97 (Mur.attC_size x.hk x.hr x.ht) (by kernel_rfl) 32 (0, 0) (Wk.Chg.hp hw' (Wk.Chg.hp ch5 (Wk.Chg.hp ch4 hb3 trivial) trivial) trivial))) sS3 ?_
     refine Wk.dOp 20 (by kernel_rfl) ?_
     refine Wk.oCall (some 75) 59 [.tmp 73, .tmp 74] #[32, 32] [.agg ((Mur.attC z.k z.r z.n z.t).toArray), .agg ((Mur.attC x.k x.r x.n x.t).toArray)] rfl rfl (by kernel_rfl) rfl (by kernel_rfl) (by kernel_rfl) ?_
     refine (Less_any z.k z.r z.t z.n z.hk z.hr z.ht x.k x.r x.t x.n x.hk x.hr x.ht W7).mono ?_
     by_cases hls1 : Go.Lib.compareBytes (Mur.rawL z.k z.r z.n z.t) (Mur.rawL x.k x.r x.n x.t) < 0
     ·rw [decide_eq_true (hls1 : Go.Lib.compareBytes (Mur.rawL z.k z.r z.n z.t) (Mur.rawL x.k x.r x.n x.t) < 0)]
      rintro _ W8 ⟨rfl, ch7⟩
      have zz8 := ch7.size
      have sS4 := Wk.Chg.step sS3 ch7 trivial
      refine ⟨_, rfl, sS4, ?_⟩
      refine Wk.dV 21 76 (.bool false) rfl rfl (fun _ _ => by kernel_rfl) sS4 ?_
      refine Wk.dV 22 77 (.bool false) rfl rfl (fun _ _ => by kernel_rfl) sS4 ?_
      refine Wk.dV 23 78 (.bool false) rfl rfl (fun _ _ => by kernel_rfl) sS4 ?_
      refine Wk.dEnd (by kernel_rfl) (Wk.nxt (wp_cond_false (by kernel_rfl) (wp_skip (Wk.inN (Wk.nxt (Wk.reg ?_))))))
      refine Wk.rQ 0 79 (.int .i64 ((i + 1 : Nat) : Int)) rfl rfl (Wk.int64 (n := ((i : Nat) : Int) + 1) (z := ((i + 1 : Nat) : Int)) (by omega) (by omega) (by omega) (by kernel_rfl)) ?_
      refine Wk.rP 1 45 (.int .i64 ((i + 1 : Nat) : Int)) rfl rfl ?_
      refine Wk.rEnd 2 rfl (Wk.nxt ?_)
      have kk7 := Wk.Chg.step kk5 ch6 trivial
      have kk8 := Wk.Chg.step kk7 ch7 trivial
      refine ⟨_, ?_, i + 1, rfl, by kernel_rfl, (by omega), (fun y_ hy_ => by rw [Mur.take_snoc hx] at hy_; rcases List.mem_append.1 hy_ with h1_ | h1_ <;> first | exact hall y_ h1_ | (rw [List.mem_singleton.1 h1_]; exact ⟨hmay1, hun1⟩)), (Mur.sorted_more hsr hx hz (by omega) hls1), (Wk.Chg.hp ch7 (Wk.Chg.hp ch6 (Wk.Chg.hp ch5 (Wk.Chg.hp ch4 (Wk.Chg.hp ch3 (Wk.Chg.hp ch2 hX trivial) ⟨by omega, trivial⟩) trivial) trivial) trivial) trivial), kk8⟩
      omega
     rw [decide_eq_false (hls1 : ¬ Go.Lib.compareBytes (Mur.rawL z.k z.r z.n z.t) (Mur.rawL x.k x.r x.n x.t) < 0)]
     rintro _ W8 ⟨rfl, ch7⟩
     have zz9 := ch7.size
     have sS5 := Wk.Chg.step sS3 ch7 trivial
     refine ⟨_, rfl, sS5, ?_⟩
     refine Wk.dV 21 76 (.bool true) rfl rfl (fun _ _ => by kernel_rfl) sS5 ?_
     refine Wk.dV 22 77 (.bool true) rfl rfl (fun _ _ => by kernel_rfl) sS5 ?_
     refine Wk.dV 23 78 (.bool true) rfl rfl (fun _ _ => by kernel_rfl) sS5 ?_
     refine Wk.dEnd (by kernel_rfl) (Wk.nxt (wp_cond_true (by kernel_rfl) (wp_seq (Wk.reg ?_))))
     refine Wk.rP 0 2 (.bool false) rfl rfl ?_
     refine Wk.rEnd 1 rfl (Wk.nxt (wp_ret (Wk.inR (Wk.thR (Wk.thR (Wk.inR (Wk.thR (Wk.inR (Wk.thR ?_)))))))))
     have kk9 := Wk.Chg.step kk5 ch6 trivial
     have kk10 := Wk.Chg.step kk9 ch7 trivial
     have hlI_ := hl.len
     refine Wk.ret (.bool false) rfl (by kernel_rfl) ?_
     refine ⟨_, rfl, ⟨fun h_ => (by cases h_), fun h_ => ?_⟩, kk10⟩
     exfalso
     obtain ⟨h1_, h2_, h3_, h4_, h5_⟩ := Mur.mayM_iff.1 h_
     have h1k_ : ((1 : UInt8).toNat : Int) = 1 := rfl
     have h2k_ : ((2 : UInt8).toNat : Int) = 2 := rfl
     rcases h5_ with ⟨hk_, hi_, hb_⟩ | ⟨hk_, hi_, hso_, hz_, hc_⟩
     ·have hk2_ : (kd.toNat : Int) = _ := congrArg (fun z : UInt8 => (z.toNat : Int)) hk_
      have hi2_ := congrArg List.length hi_
      rw [List.length_nil] at hi2_
      first | omega | cases hb_ | (subst hb_; omega)
     have hk2_ : (kd.toNat : Int) = _ := congrArg (fun z : UInt8 => (z.toNat : Int)) hk_
     exact Mur.not_sorted hx hz (by omega) hls1 hso_
    refine Wk.dV 11 66 (.bool false) rfl rfl (fun w' hw' => (Wk.boolF (b := decide (((i : Nat) : Int) > (0 : Int))) (decide_eq_false (by first | exact hx8 | omega)) (by kernel_rfl))) sS3 ?_
    refine Wk.dV 12 67 (.bool false) rfl rfl (fun _ _ => by kernel_rfl) sS3 ?_
    refine Wk.dPass 13 (some 68) rfl rfl (by kernel_rfl) (by kernel_rfl) (by kernel_rfl) (fun _ _ _ h => h) (by kernel_rfl) sS3 ?_
    refine Wk.dPass 14 (some 69) rfl rfl (by kernel_rfl) (by kernel_rfl) (by kernel_rfl) (fun _ _ _ h => h) (by kernel_rfl) sS3 ?_
    refine Wk.dPass 15 (some 70) rfl rfl (by kernel_rfl) (by kernel_rfl) (by kernel_rfl) (fun _ _ _ h => h) (by kernel_rfl) sS3 ?_
    refine Wk.dPass 16 (some 71) rfl rfl (by kernel_rfl) (by kernel_rfl) (by kernel_rfl) (fun _ _ _ h => h) (by kernel_rfl) sS3 ?_
    refine Wk.dPass 17 (some 72) rfl rfl (by kernel_rfl) (by kernel_rfl) (by kernel_rfl) (fun _ _ _ h => h) (by kernel_rfl) sS3 ?_
    refine Wk.dPass 18 (some 73) rfl rfl (by kernel_rfl) (by kernel_rfl) (by kernel_rfl) (fun _ _ _ h => h) (by kernel_rfl) sS3 ?_
    refine Wk.dPass 19 (some 74) rfl rfl (by kernel_rfl) (by kernel_rfl) (by kernel_rfl) (fun _ _ _ h => h) (by kernel_rfl) sS3 ?_
    refine Wk.dPass 20 (some 75) rfl rfl (by kernel_rfl) (by kernel_rfl) (by kernel_rfl) (fun _ _ _ h => h) (by kernel_rfl) sS3 ?_
    refine Wk.dPass 21 (some 76) rfl rfl (by kernel_rfl) (by kernel_rfl) (by kernel_rfl) (fun _ _ _ h => h) (by kernel_rfl) sS3 ?_
    refine Wk.dV 22 77 (.bool false) rfl rfl (fun _ _ => by kernel_rfl) sS3 ?_
    refine Wk.dV 23 78 (.bool false) rfl rfl (fun _ _ => by kernel_rfl) sS3 ?_
    refine Wk.dEnd (by kernel_rfl) (Wk.nxt (wp_cond_false (by kernel_rfl) (wp_skip (Wk.inN (Wk.nxt (Wk.reg ?_))))))
    refine Wk.rQ 0 79 (.int .i64 ((i + 1 : Nat) : Int)) rfl rfl (Wk.int64 (n := ((i : Nat) : Int) + 1) (z := ((i + 1 : Nat) : Int)) (by omega) (by omega) (by omega) (by kernel_rfl)) ?_
    refine Wk.rP 1 45 (.int .i64 ((i + 1 : Nat) : Int)) rfl rfl ?_
    refine Wk.rEnd 2 rfl (Wk.nxt ?_)
    have kk11 := Wk.Chg.step kk5 ch6 trivial
    refine ⟨_, ?_, i + 1, rfl, by kernel_rfl, (by omega), (fun y_ hy_ => by rw [Mur.take_snoc hx] at hy_; rcases List.mem_append.1 hy_ with h1_ | h1_ <;> first | exact hall y_ h1_ | (rw [List.mem_singleton.1 h1_]; exact ⟨hmay1, hun1⟩)), (by have h0_ : i = 0 := (by omega); subst h0_; exact Mur.sorted_one hx), (Wk.Chg.hp ch6 (Wk.Chg.hp ch5 (Wk.Chg.hp ch4 (Wk.Chg.hp ch3 (Wk.Chg.hp ch2 hX trivial) ⟨by omega, trivial⟩) trivial) trivial) trivial), kk11⟩
    omega
   have hmay1u : ¬ (1 ≤ x.n ∧ x.n ≤ 5000) := hmay1
   refine (Bytes_no x.k x.r x.t x.n x.hk x.hr x.ht W4 hmay1).mono ?_
   rintro _ W10 ⟨rfl, ch8⟩
   have zz10 := ch8.size
   refine ⟨_, rfl, ?_⟩
   refine Wk.rP 2 50 (.tuple #[.slice none 0 0, .int .i64 2]) rfl rfl ?_
   refine Wk.rP 3 53 (.slice none 0 0) rfl rfl ?_
   refine Wk.rP 4 54 (.int .i64 2) rfl rfl ?_
   refine Wk.rP 5 5 (.slice none 0 0) rfl rfl ?_
   refine Wk.rP 6 6 (.int .i64 2) rfl rfl ?_
   refine Wk.rEnd 7 rfl (Wk.nxt (wp_seq ?_))
   refine Wk.dReg ([]) (by kernel_rfl) ?_
   intro W11 ch9 sz4
   have zz11 := ch9.size
   have sS6 : Wk.Chg ([]) W11 W11 := (Wk.Chg.refl _).more (by simp)
   refine Wk.dV 0 55 (.int .i64 2) rfl rfl (fun _ _ => by kernel_rfl) sS6 ?_
   refine Wk.dV 1 56 (.bool true) rfl rfl (fun w' hw' => (Wk.boolT (b := ((2 : Int) != (0 : Int))) (bne_iff_ne.2 (by decide)) (by kernel_rfl))) sS6 ?_
   refine Wk.dV 2 57 (.bool true) rfl rfl (fun _ _ => by kernel_rfl) sS6 ?_
   refine Wk.dPass 3 (some 58) rfl rfl (by kernel_rfl) (by kernel_rfl) (by kernel_rfl) (fun _ _ _ h => h) (by kernel_rfl) sS6 ?_
   refine Wk.dPass 4 (some 59) rfl rfl (by kernel_rfl) (by kernel_rfl) (by kernel_rfl) (fun _ _ _ h => h) (by kernel_rfl) sS6 ?_
   refine Wk.dPass 5 (some 60) rfl rfl (by kernel_rfl) (by kernel_rfl) (by kernel_rfl) (fun _ _ _ h => h) (by kernel_rfl) sS6 ?_
   refine Wk.dPass 6 (some 61) rfl rfl (by kernel_rfl) (by kernel_rfl) (by kernel_rfl) (fun _ _ _ h => h) (by kernel_rfl) sS6 ?_
   refine Wk.dPass 7 (some 62) rfl rfl (by kernel_rfl) (by kernel_rfl) (by kernel_rfl) (fun _ _ _ h => h) (by kernel_rfl) sS6 ?_
   refine Wk.dV 8 63 (.bool true) rfl rfl (fun _ _ => by kernel_rfl) sS6 ?_
   refine Wk.dV 9 64 (.bool true) rfl rfl (fun _ _ => by kernel_rfl) sS6 ?_
   refine Wk.dPass 10 (some 65) rfl rfl (by kernel_rfl) (by kernel_rfl) (by kernel_rfl) (fun _ _ _ h => h) (by kernel_rfl) sS6 ?_
   refine Wk.dPass 11 (some 66) rfl rfl (by kernel_rfl) (by kernel_rfl) (by kernel_rfl) (fun _ _ _ h => h) (by kernel_rfl) sS6 ?_
   refine Wk.dPass 12 (some 67) rfl rfl (by kernel_rfl) (by kernel_rfl) (by kernel_rfl) (fun _ _ _ h => h) (by kernel_rfl) sS6 ?_
   refine Wk.dPass 13 (some 68) rfl rfl (by kernel_rfl) (by kernel_rfl) (by kernel_rfl) (fun _ _ _ h => h) (by kernel_rfl) sS6 ?_
   refine Wk.dPass 14 (some 69) rfl rfl (by kernel_rfl) (by kernel_rfl) (by kernel_rfl) (fun _ _ _ h => h) (by kernel_rfl) sS6 ?_
   refine Wk.dPass 15 (some 70) rfl rfl (by kernel_rfl) (by kernel_rfl) (by kernel_rfl) (fun _ _ _ h => h) (by kernel_rfl) sS6 ?_
   refine Wk.dPass 16 (some 71) rfl rfl (by kernel_rfl) (by kernel_rfl) (by kernel_rfl) (fun _ _ _ h => h) (by kernel_rfl) sS6 ?_
   refine Wk.dPass 17 (some 72) rfl rfl (by kernel_rfl) (by kernel_rfl) (by kernel_rfl) (fun _ _ _ h => h) (by kernel_rfl) sS6 ?_
   refine Wk.dPass 18 (some 73) rfl rfl (by kernel_rfl) (by kernel_rfl) (by kernel_rfl) (fun _ _ _ h => h) (by kernel_rfl) sS6 ?_
   refine Wk.dPass 19 (some 74) rfl rfl (by kernel_rfl) (by kernel_rfl) (by kernel_rfl) (fun _ _ _ h => h) (by kernel_rfl) sS6 ?_
   refine Wk.dPass 20 (some 75) rfl rfl (by kernel_rfl) (by kernel_rfl) (by kernel_rfl) (fun _ _ _ h => h) (by kernel_rfl) sS6 ?_
   refine Wk.dPass 21 (some 76) rfl rfl (by kernel_rfl) (by kernel_rfl) (by kernel_rfl) (fun _ _ _ h => h) (by kernel_rfl) sS6 ?_
   refine Wk.dPass 22 (some 77) rfl rfl (by kernel_rfl) (by kernel_rfl) (by kernel_rfl) (fun _ _ _ h => h) (by kernel_rfl) sS6 ?_
   refine Wk.dV 23 78 (.bool true) rfl rfl (fun _ _ => by kernel_rfl) sS6 ?_
   refine Wk.dEnd (by kernel_rfl) (Wk.nxt (wp_cond_true (by kernel_rfl) (wp_seq (Wk.reg ?_))))
   refine Wk.rP 0 2 (.bool false) rfl rfl ?_
   refine Wk.rEnd 1 rfl (Wk.nxt (wp_ret (Wk.inR (Wk.thR (Wk.thR (Wk.inR (Wk.thR (Wk.inR (Wk.thR ?_)))))))))
   have kk12 := Wk.Chg.step HB ch2 trivial
   have kk13 := Wk.Chg.step kk12 ch3 ⟨.inr (by omega), trivial⟩
   have kk14 := Wk.Chg.step kk13 ch8 trivial
   have kk15 := Wk.Chg.step kk14 ch9 trivial
   have hlI_ := hl.len
   refine Wk.ret (.bool false) rfl (by kernel_rfl) ?_
   refine ⟨_, rfl, ⟨fun h_ => (by cases h_), fun h_ => ?_⟩, kk15⟩
   exfalso
   obtain ⟨h1_, h2_, h3_, h4_, h5_⟩ := Mur.mayM_iff.1 h_
   have h1k_ : ((1 : UInt8).toNat : Int) = 1 := rfl
   have h2k_ : ((2 : UInt8).toNat : Int) = 2 := rfl
   rcases h5_ with ⟨hk_, hi_, hb_⟩ | ⟨hk_, hi_, hso_, hz_, hc_⟩
   ·have hk2_ : (kd.toNat : Int) = _ := congrArg (fun z : UInt8 => (z.toNat : Int)) hk_
    have hi2_ := congrArg List.length hi_
    rw [List.length_nil] at hi2_
    first | omega | cases hb_ | (subst hb_; omega)
   have hk2_ : (kd.toNat : Int) = _ := congrArg (fun z : UInt8 => (z.toNat : Int)) hk_
   exact hmay1 (hi_ x (List.mem_of_getElem? hx)).1
  rw [List.take_of_length_le (show I.length ≤ i by omega)] at hall hsr
  refine wp_seq (Wk.reg ?_)
  refine Wk.rQ 0 46 (.bool false) rfl rfl (Wk.boolF (b := decide (((i : Nat) : Int) < ((n : Nat) : Int))) (decide_eq_false (by omega)) (by kernel_rfl)) ?_
  refine Wk.rEnd 1 rfl (Wk.nxt (wp_seq (wp_cond_false (by kernel_rfl) (wp_exit (Wk.thX (Wk.thX (Wk.inX (Wk.nxt (wp_seq (Wk.reg ?_))))))))))
  refine Wk.rP 0 80 (.pointer (some ⟨w.heap.size, 2, none⟩)) rfl rfl ?_
  refine Wk.rQ 1 81 (.agg ((b8s s).toArray)) rfl rfl (Wk.loadR 30 (.tmp 80) rfl _ Tryd.underlying30 rfl w.heap.size 2 (by kernel_rfl) (b8s s) (by rw [Mur.b8s_length, hs]; kernel_rfl) (show World.rangeAt _ _ (0 + 2) _ from Mur.msg_sum (Wk.range_row hX))) ?_
  refine Wk.rP 2 82 (.agg ((b8s [0, 0, 0, 0, 0, 0, 0, 0, 0, 0, 0, 0, 0, 0, 0, 0, 0, 0, 0, 0, 0, 0, 0, 0, 0, 0, 0, 0, 0, 0, 0, 0]).toArray)) rfl rfl ?_
  by_cases hzs : s = Mur.z32
  ·refine Wk.rQ 3 83 (.bool true) rfl rfl (Mur.run_eql_yes digT s Mur.z32 hs rfl hzs _ (.tmp 81) (.tmp 82) 30 rfl (by kernel_rfl) (by kernel_rfl)) ?_
   refine Wk.rP 4 84 (.bool true) rfl rfl ?_
   refine Wk.rP 5 85 (.pointer (some ⟨w.heap.size, 34, none⟩)) rfl rfl ?_
   refine Wk.rQ 6 86 (.int .i64 m) rfl rfl (Wk.load1 3 (.tmp 85) rfl (by kernel_rfl) ⟨w.heap.size, 34, none⟩ (by kernel_rfl) (.int .i64 m) (show World.cell? _ ⟨_, 0 + 34, _⟩ = _ from Mur.msg_cnt hs (Wk.range_row hX))) ?_
   by_cases hx9 : m = (0 : Int)
   ·refine Wk.rQ 7 87 (.bool true) rfl rfl (Wk.boolT (b := (m == (0 : Int))) (beq_iff_eq.2 (by first | exact hx9 | omega)) (by kernel_rfl)) ?_
    refine Wk.rP 8 88 (.bool true) rfl rfl ?_
    refine Wk.rP 9 2 (.bool true) rfl rfl ?_
    refine Wk.rEnd 10 rfl (Wk.nxt (wp_ret (Wk.inR (Wk.thR ?_))))
    have hlI_ := hl.len
    refine Wk.ret (.bool true) rfl (by kernel_rfl) ?_
    exact ⟨_, rfl, ⟨fun _ => Mur.mayM_iff.2 ⟨hpreT_, by omega, by omega, by omega, .inr ⟨Mur.u8_cast_inj (by have h_ : ((2 : UInt8).toNat : Int) = 2 := rfl; omega), hall, hsr, hzs, by omega⟩⟩, fun _ => rfl⟩, HB⟩
   refine Wk.rQ 7 87 (.bool false) rfl rfl (Wk.boolF (b := (m == (0 : Int))) (beq_eq_false_iff_ne.2 (by first | exact hx9 | omega)) (by kernel_rfl)) ?_
   refine Wk.rP 8 88 (.bool false) rfl rfl ?_
   refine Wk.rP 9 2 (.bool false) rfl rfl ?_
   refine Wk.rEnd 10 rfl (Wk.nxt (wp_ret (Wk.inR (Wk.thR ?_))))
   have hlI_ := hl.len
   refine Wk.ret (.bool false) rfl (by kernel_rfl) ?_
   refine ⟨_, rfl, ⟨fun h_ => (by cases h_), fun h_ => ?_⟩, HB⟩
   exfalso
   obtain ⟨h1_, h2_, h3_, h4_, h5_⟩ := Mur.mayM_iff.1 h_
   have h1k_ : ((1 : UInt8).toNat : Int) = 1 := rfl
   have h2k_ : ((2 : UInt8).toNat : Int) = 2 := rfl
   rcases h5_ with ⟨hk_, hi_, hb_⟩ | ⟨hk_, hi_, hso_, hz_, hc_⟩
   ·have hk2_ : (kd.toNat : Int) = _ := congrArg (fun z : UInt8 => (z.toNat : Int)) hk_
    have hi2_ := congrArg List.length hi_
    rw [List.length_nil] at hi2_
    first | omega | cases hb_ | (subst hb_; omega)
   have hk2_ : (kd.toNat : Int) = _ := congrArg (fun z : UInt8 => (z.toNat : Int)) hk_
   omega
  refine Wk.rQ 3 83 (.bool false) rfl rfl (Mur.run_eql_no digT s Mur.z32 hs rfl hzs _ (.tmp 81) (.tmp 82) 30 rfl (by kernel_rfl) (by kernel_rfl)) ?_
  refine Wk.rP 4 84 (.bool false) rfl rfl ?_
  refine Wk.rPass 5 (some 85) rfl rfl (by kernel_rfl) ?_
  refine Wk.rPass 6 (some 86) rfl rfl (by kernel_rfl) ?_
  refine Wk.rPass 7 (some 87) rfl rfl (by kernel_rfl) ?_
  refine Wk.rP 8 88 (.bool false) rfl rfl ?_
  refine Wk.rP 9 2 (.bool false) rfl rfl ?_
  refine Wk.rEnd 10 rfl (Wk.nxt (wp_ret (Wk.inR (Wk.thR ?_))))
  have hlI_ := hl.len
  refine Wk.ret (.bool false) rfl (by kernel_rfl) ?_
  refine ⟨_, rfl, ⟨fun h_ => (by cases h_), fun h_ => ?_⟩, HB⟩
  exfalso
  obtain ⟨h1_, h2_, h3_, h4_, h5_⟩ := Mur.mayM_iff.1 h_
  have h1k_ : ((1 : UInt8).toNat : Int) = 1 := rfl
  have h2k_ : ((2 : UInt8).toNat : Int) = 2 := rfl
  rcases h5_ with ⟨hk_, hi_, hb_⟩ | ⟨hk_, hi_, hso_, hz_, hc_⟩
  ·have hk2_ : (kd.toNat : Int) = _ := congrArg (fun z : UInt8 => (z.toNat : Int)) hk_
   have hi2_ := congrArg List.length hi_
   rw [List.length_nil] at hi2_
   first | omega | cases hb_ | (subst hb_; omega)
  have hk2_ : (kd.toNat : Int) = _ := congrArg (fun z : UInt8 => (z.toNat : Int)) hk_
  exact hzs hz_
 refine Wk.rQ 0 41 (.bool false) rfl rfl (Wk.boolF (b := (((kd.toNat : Nat) : Int) == (2 : Int))) (beq_eq_false_iff_ne.2 (by first | exact hx7 | omega)) (by kernel_rfl)) ?_
 refine Wk.rP 1 40 (.bool false) rfl rfl ?_
 refine Wk.rEnd 2 rfl (Wk.nxt (wp_cond_false (by kernel_rfl) (wp_skip (Wk.inN (Wk.nxt (wp_seq (Wk.reg ?_)))))))
 refine Wk.rP 0 2 (.bool false) rfl rfl ?_
 refine Wk.rEnd 1 rfl (Wk.nxt (wp_ret ?_))
 have hlI_ := hl.len
 refine Wk.ret (.bool false) rfl (by kernel_rfl) ?_
 refine ⟨_, rfl, ⟨fun h_ => (by cases h_), fun h_ => ?_⟩, kk1⟩
 exfalso
 obtain ⟨h1_, h2_, h3_, h4_, h5_⟩ := Mur.mayM_iff.1 h_
 have h1k_ : ((1 : UInt8).toNat : Int) = 1 := rfl
 have h2k_ : ((2 : UInt8).toNat : Int) = 2 := rfl
 rcases h5_ with ⟨hk_, hi_, hb_⟩ | ⟨hk_, hi_, hso_, hz_, hc_⟩
 ·have hk2_ : (kd.toNat : Int) = _ := congrArg (fun z : UInt8 => (z.toNat : Int)) hk_
  have hi2_ := congrArg List.length hi_
  rw [List.length_nil] at hi2_
  first | omega | cases hb_ | (subst hb_; omega)
 have hk2_ : (kd.toNat : Int) = _ := congrArg (fun z : UInt8 => (z.toNat : Int)) hk_
 omega
end Go.Proofs.YtfhneademopciaaDoor
namespace Go.Proofs.YtfhneademopciaaDoor
open Go.RowKit
open Mur (b8s Byt Own8 Seg Segs flat cutA attC Att SlA OwnA rowA msgC)
set_option maxRecDepth 100000
set_option maxHeartbeats 4000000
def IdxG_F1 (b : Array Value) (u0 : Value) (u3 : Value) (u7 : Value) (u8 : Value) : Act := ⟨#[u0, b.getD 1 undef, b.getD 2 undef, u3, b.getD 4 undef, b.getD 5 undef, b.getD 6 undef, u7, u8, b.getD 9 undef, b.getD 10 undef, b.getD 11 undef, b.getD 12 undef, b.getD 13 undef, b.getD 14 undef, b.getD 15 undef, b.getD 16 undef, b.getD 17 undef, b.getD 18 undef], []⟩
theorem Index_any (A : Option Addr) (n c : Nat) (I : List Att) (x : Att) (w : World) (hl : SlA w A n I) (hn : n ≤ 9223372036854775807) : Calls Tryd.prog 77 #[.slice A n c, .agg (attC x.k x.r x.n x.t).toArray] w fun e w' => ∃ r : Int, e = .returned (.int .i64 r) ∧ (0 ≤ r ↔ x ∈ I) ∧ Wk.Chg [] w w' := by
 refine calls_of_wp Tryd.func77 rfl ?_
 refine wp_seq (Wk.reg ?_)
 refine Wk.rEx 0 (some 3) _ rfl rfl (by kernel_rfl) (Wk.new_ex (.pointer (some ⟨w.heap.size, 0, none⟩)) ((Mur.attC x.k x.r x.n x.t).toArray) 32 (by kernel_rfl)) ?_
 rintro _ W1 ⟨rfl, hb1, ch1, sz1⟩
 have zz1 := ch1.size
 refine Wk.rP 1 4 (.int .i64 0) rfl rfl ?_
 refine Wk.rEnd 2 rfl (Wk.nxt (wp_seq (wp_seq (Wk.reg ?_))))
 refine Wk.rP 0 6 (.slice A n c) rfl rfl ?_
 refine Wk.rP 1 7 (.int .i64 ((n : Nat) : Int)) rfl rfl ?_
 refine Wk.rP 2 8 (.int .i64 0) rfl rfl ?_
 refine Wk.rEnd 3 rfl (Wk.nxt (wp_block ?_))
 refine Wk.loop (fun m_ a wr => ∃ (i : Nat), m_ = n - i ∧ a = IdxG_F1 a.tmps (.slice A n c) (.pointer (some ⟨w.heap.size, 0, none⟩)) (.int .i64 ((n : Nat) : Int)) (.int .i64 ((i : Nat) : Int)) ∧ i ≤ n ∧ x ∉ I.take i ∧ wr.heap[w.heap.size]? = some (.cells (Mur.attC x.k x.r x.n x.t).toArray 32 (0, 0)) ∧ Wk.Chg [] w wr) (n - 0) ?_ ?_
 ·have kk1 : Wk.Chg [] w W1 := Wk.Chg.step ((Wk.Chg.refl _).more (by simp)) ch1 trivial
  refine ⟨0, rfl, by kernel_rfl, (by omega), (by simp), hb1, kk1⟩
 rintro mm1 aa1 W2 ⟨i, hmm1, hF1, hi, hno, hX, HB⟩
 generalize aa1.tmps = bb1 at hF1
 subst hF1
 have hzB := HB.size
 have hxl_ := (Array.getElem?_eq_some_iff.1 hX).1
 have hlI := hl.len
 by_cases hlt : i < n
 ·obtain ⟨g_y, o_y, rfl, _⟩ := hl.ex (by omega)
  obtain ⟨y, hy⟩ : ∃ x, I[i]? = some x := ⟨_, List.getElem?_eq_getElem (by have := hl.len; omega)⟩
  refine wp_seq (Wk.reg ?_)
  refine Wk.rQ 0 9 (.bool true) rfl rfl (Wk.boolT (b := decide (((i : Nat) : Int) < ((n : Nat) : Int))) (decide_eq_true (by omega)) (by kernel_rfl)) ?_
  refine Wk.rEnd 1 rfl (Wk.nxt (wp_seq (wp_cond_true (by kernel_rfl) (wp_skip (Wk.nxt (wp_seq (wp_block (wp_seq (Wk.reg ?_)))))))))
  refine Wk.rP 0 10 (.int .i64 ((i : Nat) : Int)) rfl rfl ?_
  refine Wk.rP 1 5 (.int .i64 ((i : Nat) : Int)) rfl rfl ?_
  refine Wk.rEnd 2 rfl (Wk.nxt (wp_seq ?_))
  refine Wk.dReg ([]) (by kernel_rfl) ?_
  intro W3 ch2 sz2
  have zz2 := ch2.size
  have sS1 : Wk.Chg ([]) W3 W3 := (Wk.Chg.refl _).more (by simp)
  refine Wk.dV 0 11 (.agg ((Mur.attC x.k x.r x.n x.t).toArray)) rfl rfl (fun w' hw' => (Mur.loadArr 32 (.tmp 3) rfl _ Tryd.underlying32 rfl w.heap.size (by kernel_rfl) (Mur.attC x.k x.r x.n x.t).toArray 97 (Mur.attC_size x.hk x.hr x.ht) (by kernel_rfl) 32 (0, 0) (Wk.Chg.hp hw' (Wk.Chg.hp ch2 hX trivial) trivial))) sS1 ?_
  refine Wk.dV 1 12 (.slice (some ⟨g_y, o_y, none⟩) n c) rfl rfl (fun _ _ => by kernel_rfl) sS1 ?_
  refine Wk.dV 2 13 (.int .i64 ((i : Nat) : Int)) rfl rfl (fun _ _ => by kernel_rfl) sS1 ?_
  refine Wk.dV 3 14 (.pointer (some ⟨g_y, o_y + i * 97, none⟩)) rfl rfl (fun w' hw' => (Wk.index_sl 22 32 (.tmp 12) (.tmp 13) rfl Tryd.underlying22 97 (by kernel_rfl) g_y o_y n c i .i64 (by kernel_rfl) (by kernel_rfl) (by omega))) sS1 ?_
  have kk2 := Wk.Chg.step HB ch2 trivial
  refine Wk.dV 4 15 (.agg ((Mur.attC y.k y.r y.n y.t).toArray)) rfl rfl (fun w' hw' => (Wk.loadR 32 (.tmp 14) rfl _ Tryd.underlying32 rfl g_y (o_y + i * 97) (by kernel_rfl) (Mur.attC y.k y.r y.n y.t) (by rw [Mur.attC_length y.hk y.hr y.ht]; kernel_rfl) ((Mur.SlA.chg (Mur.SlA.chg hl kk2 (fun g off e hl => trivial)) hw' (fun g off e hl => trivial)).elem hy))) sS1 ?_
  by_cases hatt1 : x.k = y.k ∧ x.r = y.r ∧ x.n = y.n ∧ x.t = y.t
  ·refine Wk.dV 5 16 (.bool true) rfl rfl (fun w' hw' => (Wk.boolT (b := decide (x.k = y.k ∧ x.r = y.r ∧ x.n = y.n ∧ x.t = y.t)) (decide_eq_true (hatt1)) (run_eql_att (.tmp 11) (.tmp 15) 32 rfl x.hk x.hr x.ht y.hk y.hr y.ht x.hn y.hn (by kernel_rfl) (by kernel_rfl)))) sS1 ?_
   refine Wk.dEnd (by kernel_rfl) (Wk.nxt (wp_cond_true (by kernel_rfl) (wp_seq (Wk.reg ?_))))
   refine Wk.rP 0 17 (.int .i64 ((i : Nat) : Int)) rfl rfl ?_
   refine Wk.rP 1 4 (.int .i64 ((i : Nat) : Int)) rfl rfl ?_
   refine Wk.rEnd 2 rfl (Wk.nxt (wp_ret (Wk.inR (Wk.thR (Wk.thR (Wk.inR (Wk.thR ?_)))))))
   refine Wk.ret (.int .i64 ((i : Nat) : Int)) rfl (by kernel_rfl) ?_
   exact ⟨_, rfl, ⟨fun _ => by rw [(Mur.Att.eq_iff x y).2 hatt1]; exact List.mem_of_getElem? hy, fun _ => by omega⟩, kk2⟩
  refine Wk.dV 5 16 (.bool false) rfl rfl (fun w' hw' => (Wk.boolF (b := decide (x.k = y.k ∧ x.r = y.r ∧ x.n = y.n ∧ x.t = y.t)) (decide_eq_false (hatt1)) (run_eql_att (.tmp 11) (.tmp 15) 32 rfl x.hk x.hr x.ht y.hk y.hr y.ht x.hn y.hn (by kernel_rfl) (by kernel_rfl)))) sS1 ?_
  refine Wk.dEnd (by kernel_rfl) (Wk.nxt (wp_cond_false (by kernel_rfl) (wp_skip (Wk.inN (Wk.nxt (Wk.reg ?_))))))
  refine Wk.rQ 0 18 (.int .i64 ((i + 1 : Nat) : Int)) rfl rfl (Wk.int64 (n := ((i : Nat) : Int) + 1) (z := ((i + 1 : Nat) : Int)) (by omega) (by omega) (by omega) (by kernel_rfl)) ?_
  refine Wk.rP 1 8 (.int .i64 ((i + 1 : Nat) : Int)) rfl rfl ?_
  refine Wk.rEnd 2 rfl (Wk.nxt ?_)
  refine ⟨_, ?_, i + 1, rfl, by kernel_rfl, (by omega), (fun h_ => by rw [Mur.take_snoc hy] at h_; rcases List.mem_append.1 h_ with h1_ | h1_ <;> first | exact hno h1_ | exact hatt1 ((Mur.Att.eq_iff x y).1 (List.mem_singleton.1 h1_))), (Wk.Chg.hp ch2 hX trivial), kk2⟩
  omega
 rw [List.take_of_length_le (show I.length ≤ i by omega)] at hno
 refine wp_seq (Wk.reg ?_)
 refine Wk.rQ 0 9 (.bool false) rfl rfl (Wk.boolF (b := decide (((i : Nat) : Int) < ((n : Nat) : Int))) (decide_eq_false (by omega)) (by kernel_rfl)) ?_
 refine Wk.rEnd 1 rfl (Wk.nxt (wp_seq (wp_cond_false (by kernel_rfl) (wp_exit (Wk.thX (Wk.thX (Wk.inX (Wk.nxt (wp_seq (Wk.reg ?_))))))))))
 refine Wk.rP 0 4 (.int .i64 (-1)) rfl rfl ?_
 refine Wk.rEnd 1 rfl (Wk.nxt (wp_ret ?_))
 refine Wk.ret (.int .i64 (-1)) rfl (by kernel_rfl) ?_
 exact ⟨_, rfl, ⟨fun h_ => by omega, fun h_ => absurd h_ hno⟩, HB⟩
theorem Contains_any (A : Option Addr) (n c : Nat) (I : List Att) (x : Att) (w : World) (hl : SlA w A n I) (hn : n ≤ 9223372036854775807) : Calls Tryd.prog 56 #[.slice A n c, .agg (attC x.k x.r x.n x.t).toArray] w fun e w' => e = .returned (.bool (decide (x ∈ I))) ∧ Wk.Chg [] w w' := by
 refine calls_of_wp Tryd.func56 rfl ?_
 refine wp_seq (Wk.reg ?_)
 refine Wk.rEx 0 (some 3) _ rfl rfl (by kernel_rfl) (Wk.new_ex (.pointer (some ⟨w.heap.size, 0, none⟩)) ((Mur.attC x.k x.r x.n x.t).toArray) 32 (by kernel_rfl)) ?_
 rintro _ W1 ⟨rfl, hb1, ch1, sz1⟩
 have zz1 := ch1.size
 refine Wk.rP 1 4 (.bool false) rfl rfl ?_
 refine Wk.rEnd 2 rfl (Wk.nxt (wp_seq (Wk.reg ?_)))
 refine Wk.rP 0 5 (.slice A n c) rfl rfl ?_
 refine Wk.rQ 1 6 (.agg ((Mur.attC x.k x.r x.n x.t).toArray)) rfl rfl (Mur.loadArr 32 (.tmp 3) rfl _ Tryd.underlying32 rfl w.heap.size (by kernel_rfl) (Mur.attC x.k x.r x.n x.t).toArray 97 (Mur.attC_size x.hk x.hr x.ht) (by kernel_rfl) 32 (0, 0) hb1) ?_
 refine Wk.rC 2 7 77 [.tmp 5, .tmp 6] #[22, 32] [.slice A n c, .agg ((Mur.attC x.k x.r x.n x.t).toArray)] rfl rfl rfl ?_
 have kk1 : Wk.Chg [] w W1 := Wk.Chg.step ((Wk.Chg.refl _).more (by simp)) ch1 trivial
 refine (Index_any A n c I x W1 (Mur.SlA.chg hl kk1 (fun g off e hl => trivial)) (by omega)).mono ?_
 rintro _ W2 ⟨ri1, rfl, hri1, ch2⟩
 have zz2 := ch2.size
 refine ⟨_, rfl, ?_⟩
 by_cases hx1 : ri1 ≥ (0 : Int)
 ·refine Wk.rQ 3 8 (.bool true) rfl rfl (Wk.boolT (b := decide (ri1 ≥ (0 : Int))) (decide_eq_true (by first | exact hx1 | omega)) (by kernel_rfl)) ?_
  refine Wk.rP 4 4 (.bool true) rfl rfl ?_
  refine Wk.rEnd 5 rfl (Wk.nxt (wp_ret ?_))
  have kk2 := Wk.Chg.step kk1 ch2 trivial
  refine Wk.ret (.bool true) rfl (by kernel_rfl) ?_
  exact ⟨by first | rw [decide_eq_true (hri1.1 (by omega))] | skip, kk2⟩
 refine Wk.rQ 3 8 (.bool false) rfl rfl (Wk.boolF (b := decide (ri1 ≥ (0 : Int))) (decide_eq_false (by first | exact hx1 | omega)) (by kernel_rfl)) ?_
 refine Wk.rP 4 4 (.bool false) rfl rfl ?_
 refine Wk.rEnd 5 rfl (Wk.nxt (wp_ret ?_))
 have kk3 := Wk.Chg.step kk1 ch2 trivial
 refine Wk.ret (.bool false) rfl (by kernel_rfl) ?_
 exact ⟨by first | rw [decide_eq_false (fun q_ => absurd (hri1.2 q_) (by omega))] | skip, kk3⟩
theorem HearF_any (x : Att) (g : Nat) (kd : UInt8) (PA : Option Addr) (pn pc : Nat) (s : List UInt8) (m : Int) (A : Option Addr) (n c : Nat) (b : Bool) (I : List Att) (w : World) (hs : s.length = 32) (hp : w.heap[g]? = some (.cells (msgC kd PA pn pc s m A n c b).toArray 66 (0, 0))) (hl : SlA w A n I) (hn : n ≤ 9223372036854775807) : Calls Tryd.prog 55 #[.agg (attC x.k x.r x.n x.t).toArray, .pointer (some ⟨g, 0, none⟩)] w fun e w' => e = .returned (.bool (decide (x ∈ I))) ∧ Wk.Chg [] w w' := by
 have hgl_ := (Array.getElem?_eq_some_iff.1 hp).1
 refine calls_of_wp Tryd.func55 rfl ?_
 refine wp_seq (Wk.reg ?_)
 refine Wk.rEx 0 (some 2) _ rfl rfl (by kernel_rfl) (Wk.new_ex (.pointer (some ⟨w.heap.size, 0, none⟩)) ((Mur.attC x.k x.r x.n x.t).toArray) 32 (by kernel_rfl)) ?_
 rintro _ W1 ⟨rfl, hb1, ch1, sz1⟩
 have zz1 := ch1.size
 refine Wk.rP 1 3 (.bool false) rfl rfl ?_
 refine Wk.rEnd 2 rfl (Wk.nxt (wp_seq (Wk.reg ?_)))
 refine Wk.rP 0 4 (.pointer (some ⟨g, 35, none⟩)) rfl rfl ?_
 have kk1 : Wk.Chg [] w W1 := Wk.Chg.step ((Wk.Chg.refl _).more (by simp)) ch1 trivial
 refine Wk.rQ 1 5 (.slice A n c) rfl rfl (Wk.load1 22 (.tmp 4) rfl (by kernel_rfl) ⟨g, 35, none⟩ (by kernel_rfl) (.slice A n c) (show World.cell? _ ⟨_, 0 + 35, _⟩ = _ from Mur.msg_items hs (Wk.range_row (Wk.Chg.hp kk1 hp trivial)))) ?_
 refine Wk.rQ 2 6 (.agg ((Mur.attC x.k x.r x.n x.t).toArray)) rfl rfl (Mur.loadArr 32 (.tmp 2) rfl _ Tryd.underlying32 rfl w.heap.size (by kernel_rfl) (Mur.attC x.k x.r x.n x.t).toArray 97 (Mur.attC_size x.hk x.hr x.ht) (by kernel_rfl) 32 (0, 0) hb1) ?_
 refine Wk.rC 3 7 56 [.tmp 5, .tmp 6] #[22, 32] [.slice A n c, .agg ((Mur.attC x.k x.r x.n x.t).toArray)] rfl rfl rfl ?_
 refine (Contains_any A n c I x W1 (Mur.SlA.chg hl kk1 (fun g off e hl => trivial)) (by omega)).mono ?_
 by_cases hmem1 : x ∈ I
 ·rw [decide_eq_true hmem1]
  rintro _ W2 ⟨rfl, ch2⟩
  have zz2 := ch2.size
  refine ⟨_, rfl, ?_⟩
  refine Wk.rP 4 3 (.bool true) rfl rfl ?_
  refine Wk.rEnd 5 rfl (Wk.nxt (wp_ret ?_))
  have kk2 := Wk.Chg.step kk1 ch2 trivial
  refine Wk.ret (.bool true) rfl (by kernel_rfl) ?_
  exact ⟨rfl, kk2⟩
 rw [decide_eq_false hmem1]
 rintro _ W2 ⟨rfl, ch2⟩
 have zz3 := ch2.size
 refine ⟨_, rfl, ?_⟩
 refine Wk.rP 4 3 (.bool false) rfl rfl ?_
 refine Wk.rEnd 5 rfl (Wk.nxt (wp_ret ?_))
 have kk3 := Wk.Chg.step kk1 ch2 trivial
 refine Wk.ret (.bool false) rfl (by kernel_rfl) ?_
 exact ⟨rfl, kk3⟩
end Go.Proofs.YtfhneademopciaaDoor
namespace Go.Proofs.YtfhneademopciaaDoor
open Go.RowKit
open Mur (b8s Byt Own8 Seg Segs flat cutA attC Att SlA OwnA rowA msgC)
set_option maxRecDepth 100000
set_option maxHeartbeats 4000000
def IdF_F1 (b : Array Value) (u0 : Value) (u1 : Value) (u7 : Value) (u8 : Value) : Act := ⟨#[u0, u1, b.getD 2 undef, b.getD 3 undef, b.getD 4 undef, b.getD 5 undef, b.getD 6 undef, u7, u8, b.getD 9 undef, b.getD 10 undef, b.getD 11 undef, b.getD 12 undef, b.getD 13 undef, b.getD 14 undef, b.getD 15 undef, b.getD 16 undef, b.getD 17 undef, b.getD 18 undef], []⟩
theorem IndexF_any (A : Option Addr) (n c : Nat) (L : List Att) (g : Nat) (kd : UInt8) (PA : Option Addr) (pn pc : Nat) (s : List UInt8) (m : Int) (B : Option Addr) (bn bc : Nat) (b : Bool) (I : List Att) (w : World) (hl : SlA w A n L) (hn : n ≤ 9223372036854775807) (hs : s.length = 32) (hp : w.heap[g]? = some (.cells (msgC kd PA pn pc s m B bn bc b).toArray 66 (0, 0))) (hI : SlA w B bn I) (hbn : bn ≤ 9223372036854775807) : Calls Tryd.prog 76 #[.slice A n c, .func (.func 55) #[] #[.pointer (some ⟨g, 0, none⟩)]] w fun e w' => ∃ r : Int, e = .returned (.int .i64 r) ∧ ((r = -1 ∧ ∀ y, y ∈ L → y ∉ I) ∨ ∃ k : Nat, r = (k : Int) ∧ k < n ∧ (∀ y, y ∈ L.take k → y ∉ I) ∧ ∃ y, L[k]? = some y ∧ y ∈ I) ∧ Wk.Chg [] w w' := by
 have hgl_ := (Array.getElem?_eq_some_iff.1 hp).1
 refine calls_of_wp Tryd.func76 rfl ?_
 refine wp_seq (Wk.reg ?_)
 refine Wk.rP 0 4 (.int .i64 0) rfl rfl ?_
 refine Wk.rEnd 1 rfl (Wk.nxt (wp_seq (wp_seq (Wk.reg ?_))))
 refine Wk.rP 0 6 (.slice A n c) rfl rfl ?_
 refine Wk.rP 1 7 (.int .i64 ((n : Nat) : Int)) rfl rfl ?_
 refine Wk.rP 2 8 (.int .i64 0) rfl rfl ?_
 refine Wk.rEnd 3 rfl (Wk.nxt (wp_block ?_))
 refine Wk.loop (fun m_ a wr => ∃ (i : Nat), m_ = n - i ∧ a = IdF_F1 a.tmps (.slice A n c) (.func (.func 55) #[] #[.pointer (some ⟨g, 0, none⟩)]) (.int .i64 ((n : Nat) : Int)) (.int .i64 ((i : Nat) : Int)) ∧ i ≤ n ∧ (∀ y, y ∈ L.take i → y ∉ I) ∧ Wk.Chg [] w wr) (n - 0) ?_ ?_
 ·refine ⟨0, rfl, by kernel_rfl, (by omega), (by simp), (Wk.Chg.refl _)⟩
 rintro mm1 aa1 W1 ⟨i, hmm1, hF1, hi, hno, HB⟩
 generalize aa1.tmps = bb1 at hF1
 subst hF1
 have hzB := HB.size
 have hlL := hl.len
 by_cases hlt : i < n
 ·obtain ⟨g_x, o_x, rfl, _⟩ := hl.ex (by omega)
  obtain ⟨x, hx⟩ : ∃ x, L[i]? = some x := ⟨_, List.getElem?_eq_getElem (by have := hl.len; omega)⟩
  refine wp_seq (Wk.reg ?_)
  refine Wk.rQ 0 9 (.bool true) rfl rfl (Wk.boolT (b := decide (((i : Nat) : Int) < ((n : Nat) : Int))) (decide_eq_true (by omega)) (by kernel_rfl)) ?_
  refine Wk.rEnd 1 rfl (Wk.nxt (wp_seq (wp_cond_true (by kernel_rfl) (wp_skip (Wk.nxt (wp_seq (wp_block (wp_seq (Wk.reg ?_)))))))))
  refine Wk.rP 0 10 (.int .i64 ((i : Nat) : Int)) rfl rfl ?_
  refine Wk.rP 1 5 (.int .i64 ((i : Nat) : Int)) rfl rfl ?_
  refine Wk.rEnd 2 rfl (Wk.nxt (wp_seq (Wk.reg ?_)))
  refine Wk.rP 0 11 (.func (.func 55) #[] #[.pointer (some ⟨g, 0, none⟩)]) rfl rfl ?_
  refine Wk.rP 1 12 (.slice (some ⟨g_x, o_x, none⟩) n c) rfl rfl ?_
  refine Wk.rP 2 13 (.int .i64 ((i : Nat) : Int)) rfl rfl ?_
  refine Wk.rQ 3 14 (.pointer (some ⟨g_x, o_x + i * 97, none⟩)) rfl rfl (Wk.index_sl 22 32 (.tmp 12) (.tmp 13) rfl Tryd.underlying22 97 (by kernel_rfl) g_x o_x n c i .i64 (by kernel_rfl) (by kernel_rfl) (by omega)) ?_
  refine Wk.rQ 4 15 (.agg ((Mur.attC x.k x.r x.n x.t).toArray)) rfl rfl (Wk.loadR 32 (.tmp 14) rfl _ Tryd.underlying32 rfl g_x (o_x + i * 97) (by kernel_rfl) (Mur.attC x.k x.r x.n x.t) (by rw [Mur.attC_length x.hk x.hr x.ht]; kernel_rfl) ((Mur.SlA.chg hl HB (fun g off e hl => trivial)).elem hx)) ?_
  refine Wk.rCallV 5 (some 16) (.tmp 11) 55 #[.pointer (some ⟨g, 0, none⟩)] [.tmp 15] #[32] [.agg ((Mur.attC x.k x.r x.n x.t).toArray)] rfl rfl (by kernel_rfl) rfl (by kernel_rfl) (by kernel_rfl) (by kernel_rfl) ?_
  refine (HearF_any x g kd PA pn pc s m B bn bc b I W1 hs (Wk.Chg.hp HB hp trivial) (Mur.SlA.chg hI HB (fun g off e hl => trivial)) (by omega)).mono ?_
  by_cases hmem1 : x ∈ I
  ·rw [decide_eq_true hmem1]
   rintro _ W2 ⟨rfl, ch1⟩
   have zz1 := ch1.size
   refine ⟨_, rfl, ?_⟩
   refine Wk.rEnd 6 rfl (Wk.nxt (wp_cond_true (by kernel_rfl) (wp_seq (Wk.reg ?_))))
   refine Wk.rP 0 17 (.int .i64 ((i : Nat) : Int)) rfl rfl ?_
   refine Wk.rP 1 4 (.int .i64 ((i : Nat) : Int)) rfl rfl ?_
   refine Wk.rEnd 2 rfl (Wk.nxt (wp_ret (Wk.inR (Wk.thR (Wk.thR (Wk.inR (Wk.thR ?_)))))))
   have kk1 := Wk.Chg.step HB ch1 trivial
   refine Wk.ret (.int .i64 ((i : Nat) : Int)) rfl (by kernel_rfl) ?_
   exact ⟨_, rfl, .inr ⟨i, rfl, hlt, hno, x, hx, hmem1⟩, kk1⟩
  rw [decide_eq_false hmem1]
  rintro _ W2 ⟨rfl, ch1⟩
  have zz2 := ch1.size
  refine ⟨_, rfl, ?_⟩
  refine Wk.rEnd 6 rfl (Wk.nxt (wp_cond_false (by kernel_rfl) (wp_skip (Wk.inN (Wk.nxt (Wk.reg ?_))))))
  refine Wk.rQ 0 18 (.int .i64 ((i + 1 : Nat) : Int)) rfl rfl (Wk.int64 (n := ((i : Nat) : Int) + 1) (z := ((i + 1 : Nat) : Int)) (by omega) (by omega) (by omega) (by kernel_rfl)) ?_
  refine Wk.rP 1 8 (.int .i64 ((i + 1 : Nat) : Int)) rfl rfl ?_
  refine Wk.rEnd 2 rfl (Wk.nxt ?_)
  have kk2 := Wk.Chg.step HB ch1 trivial
  refine ⟨_, ?_, i + 1, rfl, by kernel_rfl, (by omega), (fun y_ hy_ => by rw [Mur.take_snoc hx] at hy_; rcases List.mem_append.1 hy_ with h1_ | h1_ <;> first | exact hno y_ h1_ | (rw [List.mem_singleton.1 h1_]; exact hmem1)), kk2⟩
  omega
 rw [List.take_of_length_le (show L.length ≤ i by omega)] at hno
 refine wp_seq (Wk.reg ?_)
 refine Wk.rQ 0 9 (.bool false) rfl rfl (Wk.boolF (b := decide (((i : Nat) : Int) < ((n : Nat) : Int))) (decide_eq_false (by omega)) (by kernel_rfl)) ?_
 refine Wk.rEnd 1 rfl (Wk.nxt (wp_seq (wp_cond_false (by kernel_rfl) (wp_exit (Wk.thX (Wk.thX (Wk.inX (Wk.nxt (wp_seq (Wk.reg ?_))))))))))
 refine Wk.rP 0 4 (.int .i64 (-1)) rfl rfl ?_
 refine Wk.rEnd 1 rfl (Wk.nxt (wp_ret ?_))
 refine Wk.ret (.int .i64 (-1)) rfl (by kernel_rfl) ?_
 exact ⟨_, rfl, .inl ⟨rfl, hno⟩, HB⟩
end Go.Proofs.YtfhneademopciaaDoor
namespace Mur
open Go Go.RowKit Wk
section
variable {P : Program} {w : World} {a : Act} {o : Oper}
theorem zero_one {cs : Array Value} (h : cs.all (·.oneCell') = true) (n : Nat) : ∀ v ∈ (Builtin.zeroCells cs n).toList, v.oneCell' = true := by
  intro v hv
  simp only [Builtin.zeroCells, Array.toList_map, List.mem_map] at hv
  obtain ⟨i, _, rfl⟩ := hv
  by_cases h0 : i % cs.size < cs.size
  · rw [getElem!_pos cs _ h0]
    exact (Array.all_eq_true_iff_forall_mem.1 h) _ (Array.getElem_mem h0)
  · rw [getElem!_neg cs _ h0]
    rfl
theorem clearK (s : Operand) (t e : TypeId) (ho : o.op = .call { callee := .builtin .clear, args := #[s], argTypes := #[t] }) (ht : P.underlying t = some (.slice e)) (hinfo : (P.info? e).map (fun i => (i.zero, i.size, i.bytes)) = some (some (.agg (attC z32 z32 0 z32).toArray), 97, 104))
    (g off m c : Nat) (hs : a.eval s = .slice (some ⟨g, off, none⟩) (m + 1) c) (tt : TypeId) (cs : Array Value) (hg : w.heap[g]? = some (.cells cs tt (0, 0))) (hf : off + (m + 1) * 97 ≤ cs.size) :
    ∃ v w', (execOp a.eval o).run P w = .ok (.value v) w' ∧ ∃ r : List Value, r.length = (m + 1) * 97 ∧ w'.heap[g]? = some (.cells (splice cs.toList off r).toArray tt (0, 0)) ∧ Chg [g] w w' := by
  obtain ⟨i0, hi, hzz⟩ := Option.map_eq_some_iff.1 hinfo
  simp only [Prod.mk.injEq] at hzz
  obtain ⟨hz0, hz1, hz2⟩ := hzz
  have hsz : (attC z32 z32 0 z32).toArray.size = 97 := attC_size rfl rfl rfl
  have hlen : (Builtin.zeroCells (attC z32 z32 0 z32).toArray (m + 1)).toList.length = (m + 1) * 97 := by
    simp only [Builtin.zeroCells, Array.toList_map, List.length_map, Array.toList_range, List.length_range, hsz]
  have hst := run_storeCells_at P g off tt (Builtin.zeroCells (attC z32 z32 0 z32).toArray (m + 1)).toList 0 cs w hg (by rw [hlen]; simpa using hf) (zero_one attC_all (m + 1))
  rw [Nat.add_zero] at hst
  have hrun : (Builtin.clear_ #[t] o.type #[.slice (some ⟨g, off, none⟩) (m + 1) c]).run P w = .ok (.tuple #[]) (w.setRow g (splice cs.toList off (Builtin.zeroCells (attC z32 z32 0 z32).toArray (m + 1)).toList).toArray) := by
    simp [Builtin.clear_, run_underlying ht, zeroValue, typeInfo, hi, hz0, Value.cells, hst, splice]
  refine ⟨.tuple #[], _, ?_, _, hlen, setRow_heap w g _ _ tt _ hg, ⟨rfl, rfl, rfl, by simp [World.setRow], fun k hk ho => setRow_other _ _ _ _ (fun h => ho.1 h)⟩⟩
  unfold execOp
  simp only [ho, resolve, invoke, builtin, Sem.run_bind, Sem.run_pure, Result.andThen_ok, List.map_toArray, List.map_cons, List.map_nil, hs, hrun]
/-- A result stored in a slice of one's own. -/
theorem storeA (ty : TypeId) (x y : Operand) (ho : o.op = .store ty x y) (hi : (P.info? ty).map (·.size) = some 97) {base e n c : Nat} {L : List Att} {g : Nat} (H : OwnA w base e (some ⟨g, 0, none⟩) n c L) (k : Nat) (hk : k < n) (hx : a.eval x = .pointer (some ⟨g, 0 + k * 97, none⟩)) (u : Att) (hy : a.eval y = .agg (attC u.k u.r u.n u.t).toArray) :
    ∃ w', (execOp a.eval o).run P w = .ok .skip w' ∧ OwnA w' base e (some ⟨g, 0, none⟩) n c (L.set k u) ∧ Chg [g] w w' := by
  have hl := H.sl.len
  rcases H.cur with ⟨e0, _⟩ | ⟨g', cur, e0, hb, hg, hcs, ht⟩
  · cases e0
  · obtain rfl : g = g' := by injection e0 with e1; injection e1
    have hnc := H.nc
    have hul := u.C_len
    obtain ⟨w', q1, q2, q3⟩ := storeR (P := P) ty x y ho g (0 + k * 97) hx u.C hy (by rw [hi, hul]) u.C_one e cur.toList (by simpa using hg) (by rw [hul, Array.length_toList, hcs]; omega)
    refine ⟨w', q1, OwnA.of hb q2 H.nc H.cm ?_ ?_ (by rw [List.length_set, hl]), q3⟩
    · have : (splice cur.toList (0 + k * 97) u.C).length = c * 97 := by
        unfold splice
        simp only [List.length_append, List.length_take, List.length_drop, Array.length_toList, hul, hcs]
        omega
      simpa using this
    · have hy' : L[k]? = some L[k] := List.getElem?_eq_getElem (by omega)
      have e1 : cur.toList = rowA (L.take k) ++ ((L[k]).C ++ (rowA (L.drop (k + 1)) ++ cur.toList.drop (n * 97))) := by
        have e0 := (List.take_append_drop (n * 97) cur.toList).symm
        rw [ht] at e0
        have eL : rowA L = rowA (L.take k) ++ ((L[k]).C ++ rowA (L.drop (k + 1))) := by
          conv => lhs; rw [← List.take_append_drop k L, rowA_append, List.drop_eq_getElem_cons (show k < L.length by omega), rowA_cons]
        refine e0.trans ?_
        rw [eL]
        simp only [List.append_assoc]
      have e2 : (rowA (L.take k)).length = 0 + k * 97 := by rw [rowA_len, List.length_take]; omega
      have e3 := splice_at (r := u.C) e1 e2 (by rw [hul, Att.C_len])
      rw [e3]
      show (rowA (L.take k) ++ (u.C ++ (rowA (L.drop (k + 1)) ++ cur.toList.drop (n * 97)))).take (n * 97) = rowA (L.set k u)
      rw [List.set_eq_take_append_cons_drop, if_pos (show k < L.length by omega), rowA_append, rowA_cons, ← List.append_assoc, ← List.append_assoc, List.append_assoc (rowA (L.take k)), List.take_left' (by rw [List.length_append, List.length_append, rowA_len, rowA_len, hul, List.length_take, List.length_drop]; omega)]
/-- The end of a slice of one's own is cleared: what is ahead of it stays. -/
theorem clearA (s : Operand) (t e : TypeId) (ho : o.op = .call { callee := .builtin .clear, args := #[s], argTypes := #[t] }) (ht : P.underlying t = some (.slice e)) (hinfo : (P.info? e).map (fun i => (i.zero, i.size, i.bytes)) = some (some (.agg (attC z32 z32 0 z32).toArray), 97, 104)) {base n c : Nat} {L : List Att} {g : Nat} (H : OwnA w base e (some ⟨g, 0, none⟩) n c L)
    (k m c2 : Nat) (hs : a.eval s = .slice (some ⟨g, 0 + k * 97, none⟩) m c2) (hkm : k + m = n) (hm : 0 < m) :
    ∃ v w', (execOp a.eval o).run P w = .ok (.value v) w' ∧ OwnA w' base e (some ⟨g, 0, none⟩) k c (L.take k) ∧ Chg [g] w w' := by
  have hl := H.sl.len
  have hnc := H.nc
  obtain ⟨m, rfl⟩ : ∃ j, m = j + 1 := ⟨m - 1, by omega⟩
  rcases H.cur with ⟨e0, _⟩ | ⟨g', cur, e0, hb, hg, hcs, htk⟩
  · cases e0
  · obtain rfl : g = g' := by injection e0 with e1; injection e1
    obtain ⟨v, w', q1, r, q2, q3, q4⟩ := clearK (P := P) s t e ho ht hinfo g (0 + k * 97) m c2 hs e cur hg (by omega)
    refine ⟨v, w', q1, OwnA.of hb q3 (by omega) H.cm ?_ ?_ (by rw [List.length_take]; omega), q4⟩
    · have : (splice cur.toList (0 + k * 97) r).length = c * 97 := by
        unfold splice
        simp only [List.length_append, List.length_take, List.length_drop, Array.length_toList, q2, hcs]
        omega
      simpa using this
    · show (splice cur.toList (0 + k * 97) r).take (k * 97) = _
      unfold splice
      rw [Nat.zero_add, List.take_left' (by rw [List.length_take, Array.length_toList]; omega), rowA_take, ← htk, List.take_take, Nat.min_eq_left (Nat.mul_le_mul_right 97 (by omega))]
end
end Mur
namespace Go.Proofs.YtfhneademopciaaDoor
open Go.RowKit
open Mur (b8s Byt Own8 Seg Segs flat cutA attC Att SlA OwnA rowA msgC)
set_option maxRecDepth 100000
set_option maxHeartbeats 4000000
def DelF_F1 (b : Array Value) (u0 : Value) (u1 : Value) (u5 : Value) (u6 : Value) : Act := ⟨#[u0, u1, b.getD 2 undef, b.getD 3 undef, b.getD 4 undef, u5, u6, b.getD 7 undef, b.getD 8 undef, b.getD 9 undef, b.getD 10 undef, b.getD 11 undef, b.getD 12 undef, b.getD 13 undef, b.getD 14 undef, b.getD 15 undef, b.getD 16 undef, b.getD 17 undef, b.getD 18 undef, b.getD 19 undef, b.getD 20 undef, b.getD 21 undef, b.getD 22 undef, b.getD 23 undef, b.getD 24 undef, b.getD 25 undef, b.getD 26 undef, b.getD 27 undef, b.getD 28 undef, b.getD 29 undef, b.getD 30 undef, b.getD 31 undef, b.getD 32 undef, b.getD 33 undef, b.getD 34 undef, b.getD 35 undef, b.getD 36 undef, b.getD 37 undef, b.getD 38 undef, b.getD 39 undef, b.getD 40 undef, b.getD 41 undef], []⟩
theorem DeleteF_any (base : Nat) (A : Option Addr) (n c : Nat) (L : List Att) (g : Nat) (kd : UInt8) (PA : Option Addr) (pn pc : Nat) (s : List UInt8) (m : Int) (B : Option Addr) (bn bc : Nat) (b : Bool) (I : List Att) (w : World) (H : OwnA w base 32 A n c L) (hn : n ≤ 1000) (hs : s.length = 32) (hp : w.heap[g]? = some (.cells (msgC kd PA pn pc s m B bn bc b).toArray 66 (0, 0))) (hI : SlA w B bn I) (hbn : bn ≤ 9223372036854775807) (hgb : g < base) (hIlt : ∀ g_ off_, B = some ⟨g_, off_, none⟩ → 0 < bn → g_ < base) : Calls Tryd.prog 54 #[.slice A n c, .func (.func 55) #[] #[.pointer (some ⟨g, 0, none⟩)]] w fun e w' => ∃ k, e = .returned (.slice A k c) ∧ OwnA w' base 32 A k c (L.filter (fun y_ => decide (y_ ∉ I))) ∧ Wk.Chg (Wk.blk (.slice A n c)) w w' := by
 have hHl := H.sl.len
 have hHn := H.nc
 have hgl_ := (Array.getElem?_eq_some_iff.1 hp).1
 refine calls_of_wp Tryd.func54 rfl ?_
 refine wp_seq (Wk.reg ?_)
 refine Wk.rP 0 4 (.slice none 0 0) rfl rfl ?_
 refine Wk.rEnd 1 rfl (Wk.nxt (wp_seq (Wk.reg ?_)))
 refine Wk.rP 0 8 (.slice A n c) rfl rfl ?_
 refine Wk.rP 1 9 (.func (.func 55) #[] #[.pointer (some ⟨g, 0, none⟩)]) rfl rfl ?_
 refine Wk.rC 2 10 76 [.tmp 8, .tmp 9] #[22, 47] [.slice A n c, .func (.func 55) #[] #[.pointer (some ⟨g, 0, none⟩)]] rfl rfl rfl ?_
 refine (IndexF_any A n c L g kd PA pn pc s m B bn bc b I w H.sl (by omega) hs hp hI hbn).mono ?_
 rintro _ W1 ⟨_, rfl, (⟨rfl, hnone⟩ | ⟨k0, rfl, hk0, hpre, x0, hx0, hx0m⟩), ch1⟩
 ·have zz1 := ch1.size
  refine ⟨_, rfl, ?_⟩
  refine Wk.rP 3 5 (.int .i64 (-1)) rfl rfl ?_
  refine Wk.rEnd 4 rfl (Wk.nxt (wp_seq (wp_seq (Wk.reg ?_))))
  refine Wk.rP 0 11 (.int .i64 (-1)) rfl rfl ?_
  refine Wk.rQ 1 12 (.bool true) rfl rfl (Wk.boolT (b := ((-1 : Int) == (-1 : Int))) (beq_iff_eq.2 (by decide)) (by kernel_rfl)) ?_
  refine Wk.rEnd 2 rfl (Wk.nxt (wp_cond_true (by kernel_rfl) (wp_seq (Wk.reg ?_))))
  refine Wk.rP 0 13 (.slice A n c) rfl rfl ?_
  refine Wk.rP 1 4 (.slice A n c) rfl rfl ?_
  refine Wk.rEnd 2 rfl (Wk.nxt (wp_ret (Wk.thR ?_)))
  have ow1 := Mur.OwnA.chg H ch1 (fun q e _ _ => trivial)
  have kk1 : Wk.Chg [] w W1 := Wk.Chg.step ((Wk.Chg.refl _).more (by simp)) ch1 trivial
  refine Wk.ret (.slice A n c) rfl (by kernel_rfl) ?_
  exact ⟨_, rfl, by rw [List.filter_eq_self.2 fun y_ hy_ => by simpa using hnone y_ hy_]; exact ow1, kk1.more (by simp)⟩
 have zz2 := ch1.size
 obtain ⟨q, rfl, hq1, hq2⟩ := H.ex (by omega)
 refine ⟨_, rfl, ?_⟩
 refine Wk.rP 3 5 (.int .i64 ((k0 : Nat) : Int)) rfl rfl ?_
 refine Wk.rEnd 4 rfl (Wk.nxt (wp_seq (wp_seq (Wk.reg ?_))))
 refine Wk.rP 0 11 (.int .i64 ((k0 : Nat) : Int)) rfl rfl ?_
 by_cases hx1 : ((k0 : Nat) : Int) = (-1 : Int)
 ·refine Wk.rQ 1 12 (.bool true) rfl rfl (Wk.boolT (b := (((k0 : Nat) : Int) == (-1 : Int))) (beq_iff_eq.2 (by first | exact hx1 | omega)) (by kernel_rfl)) ?_
  refine Wk.rEnd 2 rfl (Wk.nxt (wp_cond_true (by kernel_rfl) (wp_seq (Wk.reg ?_))))
  refine Wk.rP 0 13 (.slice (some ⟨q, 0, none⟩) n c) rfl rfl ?_
  refine Wk.rP 1 4 (.slice (some ⟨q, 0, none⟩) n c) rfl rfl ?_
  refine Wk.rEnd 2 rfl (Wk.nxt (wp_ret (Wk.thR ?_)))
  exfalso; omega
 refine Wk.rQ 1 12 (.bool false) rfl rfl (Wk.boolF (b := (((k0 : Nat) : Int) == (-1 : Int))) (beq_eq_false_iff_ne.2 (by first | exact hx1 | omega)) (by kernel_rfl)) ?_
 refine Wk.rEnd 2 rfl (Wk.nxt (wp_cond_false (by kernel_rfl) (wp_skip (Wk.nxt (wp_seq (wp_seq (Wk.reg ?_)))))))
 refine Wk.rP 0 14 (.int .i64 ((k0 : Nat) : Int)) rfl rfl ?_
 refine Wk.rQ 1 15 (.int .i64 ((k0 + 1 : Nat) : Int)) rfl rfl (Wk.int64 (n := ((k0 : Nat) : Int) + 1) (z := ((k0 + 1 : Nat) : Int)) (by omega) (by omega) (by omega) (by kernel_rfl)) ?_
 refine Wk.rP 2 6 (.int .i64 ((k0 + 1 : Nat) : Int)) rfl rfl ?_
 refine Wk.rEnd 3 rfl (Wk.nxt (wp_block ?_))
 have ow2 := Mur.OwnA.chg H ch1 (fun q e _ _ => trivial)
 have kk2 : Wk.Chg [] w W1 := Wk.Chg.step ((Wk.Chg.refl _).more (by simp)) ch1 trivial
 refine Wk.loop (fun m_ a wr => ∃ (i : Nat) (k : Nat) (L1 : List Att), m_ = n - i ∧ a = DelF_F1 a.tmps (.slice (some ⟨q, 0, none⟩) n c) (.func (.func 55) #[] #[.pointer (some ⟨g, 0, none⟩)]) (.int .i64 ((k : Nat) : Int)) (.int .i64 ((i : Nat) : Int)) ∧ (k < i ∧ i ≤ n) ∧ OwnA wr base 32 (some ⟨q, 0, none⟩) n c L1 ∧ L1.take k = (L.take i).filter (fun y_ => decide (y_ ∉ I)) ∧ L1.drop i = L.drop i ∧ Wk.Chg [q] w wr) (n - (k0 + 1)) ?_ ?_
 ·refine ⟨k0 + 1, k0, L, rfl, by kernel_rfl, (by omega), ow2, (by rw [Mur.take_snoc hx0, List.filter_append, List.filter_eq_self.2 fun y_ hy_ => by simpa using hpre y_ hy_]; simp [hx0m]), rfl, (kk2.more (by simp))⟩
 rintro mm1 aa1 W2 ⟨i, k, L1, hmm1, hF1, hki, hO, hT, hDr, HB⟩
 generalize aa1.tmps = bb1 at hF1
 subst hF1
 have hzB := HB.size
 have hL1 := hO.sl.len
 have hOn := hO.nc
 by_cases hlt : i < n
 ·obtain ⟨x, hx⟩ : ∃ x, L1[i]? = some x := ⟨_, List.getElem?_eq_getElem (by omega)⟩
  have hxL : L[i]? = some x := by have h1_ := congrArg (fun z : List Att => z[0]?) hDr; simp only [List.getElem?_drop, Nat.add_zero] at h1_; rw [← h1_]; exact hx
  refine wp_seq (wp_seq (Wk.reg ?_))
  refine Wk.rP 0 16 (.int .i64 ((i : Nat) : Int)) rfl rfl ?_
  refine Wk.rP 1 17 (.slice (some ⟨q, 0, none⟩) n c) rfl rfl ?_
  refine Wk.rP 2 18 (.int .i64 ((n : Nat) : Int)) rfl rfl ?_
  refine Wk.rQ 3 19 (.bool true) rfl rfl (Wk.boolT (b := decide (((i : Nat) : Int) < ((n : Nat) : Int))) (decide_eq_true (by omega)) (by kernel_rfl)) ?_
  refine Wk.rEnd 4 rfl (Wk.nxt (wp_cond_true (by kernel_rfl) (wp_skip (Wk.nxt (wp_seq (wp_block (wp_seq (Wk.reg ?_))))))))
  refine Wk.rP 0 22 (.slice (some ⟨q, 0, none⟩) n c) rfl rfl ?_
  refine Wk.rP 1 23 (.int .i64 ((i : Nat) : Int)) rfl rfl ?_
  refine Wk.rQ 2 24 (.pointer (some ⟨q, 0 + i * 97, none⟩)) rfl rfl (Wk.index_sl 22 32 (.tmp 22) (.tmp 23) rfl Tryd.underlying22 97 (by kernel_rfl) q 0 n c i .i64 (by kernel_rfl) (by kernel_rfl) (by omega)) ?_
  refine Wk.rQ 3 25 (.agg ((Mur.attC x.k x.r x.n x.t).toArray)) rfl rfl (Wk.loadR 32 (.tmp 24) rfl _ Tryd.underlying32 rfl q (0 + i * 97) (by kernel_rfl) (Mur.attC x.k x.r x.n x.t) (by rw [Mur.attC_length x.hk x.hr x.ht]; kernel_rfl) (hO.sl.elem hx)) ?_
  refine Wk.rEx 4 (some 7) _ rfl rfl (by kernel_rfl) (Wk.new_ex (.pointer (some ⟨W2.heap.size, 0, none⟩)) #[.int .u8 0, .int .u8 0, .int .u8 0, .int .u8 0, .int .u8 0, .int .u8 0, .int .u8 0, .int .u8 0, .int .u8 0, .int .u8 0, .int .u8 0, .int .u8 0, .int .u8 0, .int .u8 0, .int .u8 0, .int .u8 0, .int .u8 0, .int .u8 0, .int .u8 0, .int .u8 0, .int .u8 0, .int .u8 0, .int .u8 0, .int .u8 0, .int .u8 0, .int .u8 0, .int .u8 0, .int .u8 0, .int .u8 0, .int .u8 0, .int .u8 0, .int .u8 0, .int .u8 0, .int .u8 0, .int .u8 0, .int .u8 0, .int .u8 0, .int .u8 0, .int .u8 0, .int .u8 0, .int .u8 0, .int .u8 0, .int .u8 0, .int .u8 0, .int .u8 0, .int .u8 0, .int .u8 0, .int .u8 0, .int .u8 0, .int .u8 0, .int .u8 0, .int .u8 0, .int .u8 0, .int .u8 0, .int .u8 0, .int .u8 0, .int .u8 0, .int .u8 0, .int .u8 0, .int .u8 0, .int .u8 0, .int .u8 0, .int .u8 0, .int .u8 0, .int .i64 0, .int .u8 0, .int .u8 0, .int .u8 0, .int .u8 0, .int .u8 0, .int .u8 0, .int .u8 0, .int .u8 0, .int .u8 0, .int .u8 0, .int .u8 0, .int .u8 0, .int .u8 0, .int .u8 0, .int .u8 0, .int .u8 0, .int .u8 0, .int .u8 0, .int .u8 0, .int .u8 0, .int .u8 0, .int .u8 0, .int .u8 0, .int .u8 0, .int .u8 0, .int .u8 0, .int .u8 0, .int .u8 0, .int .u8 0, .int .u8 0, .int .u8 0, .int .u8 0] 32 (by kernel_rfl)) ?_
  rintro _ W3 ⟨rfl, hb1, ch2, sz1⟩
  have zz3 := ch2.size
  rw [← Mur.attC_zero] at hb1
  refine Wk.rExS 5 none _ rfl rfl (by kernel_rfl) (Mur.storeArr 32 (.tmp 7) (.tmp 25) rfl W2.heap.size (by kernel_rfl) (Mur.attC x.k x.r x.n x.t).toArray 97 (Mur.attC_size x.hk x.hr x.ht) Mur.attC_all (by kernel_rfl) (by kernel_rfl) 32 ((Mur.attC Mur.z32 Mur.z32 0 Mur.z32).toArray) hb1 (Mur.attC_size rfl rfl rfl)) ?_
  rintro W4 ⟨hb2, ch3⟩
  have zz4 := ch3.size
  refine Wk.rEnd 6 rfl (Wk.nxt (wp_seq (Wk.reg ?_)))
  refine Wk.rP 0 26 (.func (.func 55) #[] #[.pointer (some ⟨g, 0, none⟩)]) rfl rfl ?_
  refine Wk.rQ 1 27 (.agg ((Mur.attC x.k x.r x.n x.t).toArray)) rfl rfl (Mur.loadArr 32 (.tmp 7) rfl _ Tryd.underlying32 rfl W2.heap.size (by kernel_rfl) (Mur.attC x.k x.r x.n x.t).toArray 97 (Mur.attC_size x.hk x.hr x.ht) (by kernel_rfl) 32 (0, 0) hb2) ?_
  refine Wk.rCallV 2 (some 28) (.tmp 26) 55 #[.pointer (some ⟨g, 0, none⟩)] [.tmp 27] #[32] [.agg ((Mur.attC x.k x.r x.n x.t).toArray)] rfl rfl (by kernel_rfl) rfl (by kernel_rfl) (by kernel_rfl) (by kernel_rfl) ?_
  have kk3 := Wk.Chg.step HB ch2 trivial
  have kk4 := Wk.Chg.step kk3 ch3 ⟨.inr (by omega), trivial⟩
  refine (HearF_any x g kd PA pn pc s m B bn bc b I W4 hs (Wk.Chg.hp kk4 hp ⟨by omega, trivial⟩) (Mur.SlA.chgp hI kk4 (fun g off e hn hl => ⟨by have := hIlt g off e hn; omega, trivial⟩)) (by omega)).mono ?_
  by_cases hmem1 : x ∈ I
  ·rw [decide_eq_true hmem1]
   rintro _ W5 ⟨rfl, ch4⟩
   have zz5 := ch4.size
   refine ⟨_, rfl, ?_⟩
   refine Wk.rP 3 29 (.bool false) rfl rfl ?_
   refine Wk.rEnd 4 rfl (Wk.nxt (wp_cond_false (by kernel_rfl) (wp_skip (Wk.inN (Wk.nxt (Wk.reg ?_))))))
   refine Wk.rP 0 20 (.int .i64 ((i : Nat) : Int)) rfl rfl ?_
   refine Wk.rQ 1 21 (.int .i64 ((i + 1 : Nat) : Int)) rfl rfl (Wk.int64 (n := ((i : Nat) : Int) + 1) (z := ((i + 1 : Nat) : Int)) (by omega) (by omega) (by omega) (by kernel_rfl)) ?_
   refine Wk.rP 2 6 (.int .i64 ((i + 1 : Nat) : Int)) rfl rfl ?_
   refine Wk.rEnd 3 rfl (Wk.nxt ?_)
   have ow3 := Mur.OwnA.chg hO ch2 (fun q e _ _ => trivial)
   have ow4 := Mur.OwnA.chg ow3 ch3 (fun q e _ _ => ⟨by have := hO.lt q e; omega, trivial⟩)
   have ow5 := Mur.OwnA.chg ow4 ch4 (fun q e _ _ => trivial)
   have kk5 := Wk.Chg.step kk4 ch4 trivial
   refine ⟨_, ?_, i + 1, k, L1, rfl, by kernel_rfl, (by omega), ow5, (by rw [Mur.take_snoc hxL, List.filter_append, hT]; simp [hmem1]), (by have h1_ := congrArg (List.drop 1) hDr; rwa [List.drop_drop, List.drop_drop] at h1_), kk5⟩
   omega
  rw [decide_eq_false hmem1]
  rintro _ W5 ⟨rfl, ch4⟩
  have zz6 := ch4.size
  refine ⟨_, rfl, ?_⟩
  refine Wk.rP 3 29 (.bool true) rfl rfl ?_
  refine Wk.rEnd 4 rfl (Wk.nxt (wp_cond_true (by kernel_rfl) (wp_seq (Wk.reg ?_))))
  refine Wk.rP 0 30 (.slice (some ⟨q, 0, none⟩) n c) rfl rfl ?_
  refine Wk.rP 1 31 (.int .i64 ((k : Nat) : Int)) rfl rfl ?_
  refine Wk.rQ 2 32 (.agg ((Mur.attC x.k x.r x.n x.t).toArray)) rfl rfl (Mur.loadArr 32 (.tmp 7) rfl _ Tryd.underlying32 rfl W2.heap.size (by kernel_rfl) (Mur.attC x.k x.r x.n x.t).toArray 97 (Mur.attC_size x.hk x.hr x.ht) (by kernel_rfl) 32 (0, 0) (Wk.Chg.hp ch4 hb2 trivial)) ?_
  refine Wk.rQ 3 33 (.pointer (some ⟨q, 0 + k * 97, none⟩)) rfl rfl (Wk.index_sl 22 32 (.tmp 30) (.tmp 31) rfl Tryd.underlying22 97 (by kernel_rfl) q 0 n c k .i64 (by kernel_rfl) (by kernel_rfl) (by omega)) ?_
  have ow6 := Mur.OwnA.chg hO ch2 (fun q e _ _ => trivial)
  have ow7 := Mur.OwnA.chg ow6 ch3 (fun q e _ _ => ⟨by have := hO.lt q e; omega, trivial⟩)
  have ow8 := Mur.OwnA.chg ow7 ch4 (fun q e _ _ => trivial)
  refine Wk.rExS 4 none _ rfl rfl (by kernel_rfl) (Mur.storeA 32 (.tmp 33) (.tmp 32) rfl (by kernel_rfl) ow8 k (by omega) (by kernel_rfl) x (by kernel_rfl)) ?_
  rintro W6 ⟨hst1, ch5⟩
  have zz7 := ch5.size
  refine Wk.rEnd 5 rfl (Wk.nxt (Wk.reg ?_))
  refine Wk.rP 0 34 (.int .i64 ((k : Nat) : Int)) rfl rfl ?_
  refine Wk.rQ 1 35 (.int .i64 ((k + 1 : Nat) : Int)) rfl rfl (Wk.int64 (n := ((k : Nat) : Int) + 1) (z := ((k + 1 : Nat) : Int)) (by omega) (by omega) (by omega) (by kernel_rfl)) ?_
  refine Wk.rP 2 5 (.int .i64 ((k + 1 : Nat) : Int)) rfl rfl ?_
  refine Wk.rEnd 3 rfl (Wk.inN (Wk.nxt (Wk.reg ?_)))
  refine Wk.rP 0 20 (.int .i64 ((i : Nat) : Int)) rfl rfl ?_
  refine Wk.rQ 1 21 (.int .i64 ((i + 1 : Nat) : Int)) rfl rfl (Wk.int64 (n := ((i : Nat) : Int) + 1) (z := ((i + 1 : Nat) : Int)) (by omega) (by omega) (by omega) (by kernel_rfl)) ?_
  refine Wk.rP 2 6 (.int .i64 ((i + 1 : Nat) : Int)) rfl rfl ?_
  refine Wk.rEnd 3 rfl (Wk.nxt ?_)
  have kk6 := Wk.Chg.step kk4 ch4 trivial
  have kk7 := Wk.Chg.step kk6 ch5 ⟨.inl (by simp), trivial⟩
  refine ⟨_, ?_, i + 1, k + 1, L1.set k x, rfl, by kernel_rfl, (by omega), hst1, (by rw [Mur.take_snoc hxL, List.filter_append, ← hT, Mur.take_snoc (y := x) (by rw [List.getElem?_set_self (by omega)]), List.take_set_of_le (Nat.le_refl k)]; simp [hmem1]), (by rw [List.drop_set_of_lt (by omega)]; have h1_ := congrArg (List.drop 1) hDr; rwa [List.drop_drop, List.drop_drop] at h1_), kk7⟩
  omega
 rw [List.take_of_length_le (show L.length ≤ i by omega)] at hT
 refine wp_seq (wp_seq (Wk.reg ?_))
 refine Wk.rP 0 16 (.int .i64 ((i : Nat) : Int)) rfl rfl ?_
 refine Wk.rP 1 17 (.slice (some ⟨q, 0, none⟩) n c) rfl rfl ?_
 refine Wk.rP 2 18 (.int .i64 ((n : Nat) : Int)) rfl rfl ?_
 refine Wk.rQ 3 19 (.bool false) rfl rfl (Wk.boolF (b := decide (((i : Nat) : Int) < ((n : Nat) : Int))) (decide_eq_false (by omega)) (by kernel_rfl)) ?_
 refine Wk.rEnd 4 rfl (Wk.nxt (wp_cond_false (by kernel_rfl) (wp_exit (Wk.thX (Wk.thX (Wk.inX (Wk.nxt (wp_seq (Wk.reg ?_)))))))))
 refine Wk.rP 0 36 (.slice (some ⟨q, 0, none⟩) n c) rfl rfl ?_
 refine Wk.rP 1 37 (.int .i64 ((k : Nat) : Int)) rfl rfl ?_
 refine Wk.rQ 2 38 (.slice (some ⟨q, 0 + k * 97, none⟩) (n - k) (c - k)) rfl rfl (Mur.run_fromS 22 (.tmp 36) (.tmp 37) rfl 32 Tryd.underlying22 97 (by kernel_rfl) q 0 n c k (by kernel_rfl) (by kernel_rfl) (by omega) (by omega) (n - k) rfl) ?_
 refine Wk.rEx 3 none _ rfl rfl (by kernel_rfl) (Mur.clearA (.tmp 38) 22 32 rfl Tryd.underlying22 attI hO k (n - k) (c - k) (by kernel_rfl) (by omega) (by omega)) ?_
 rintro _ W7 ⟨hcl1, ch6⟩
 have zz8 := ch6.size
 refine Wk.rEnd 4 rfl (Wk.nxt (wp_seq (Wk.reg ?_)))
 refine Wk.rP 0 39 (.slice (some ⟨q, 0, none⟩) n c) rfl rfl ?_
 refine Wk.rP 1 40 (.int .i64 ((k : Nat) : Int)) rfl rfl ?_
 refine Wk.rQ 2 41 (.slice (some ⟨q, 0, none⟩) k c) rfl rfl (Mur.run_toK 22 (.tmp 39) (.tmp 40) rfl 32 Tryd.underlying22 97 (by kernel_rfl) (some ⟨q, 0, none⟩) n c k (.inr ⟨q, 0, rfl⟩) (by kernel_rfl) (by kernel_rfl) (by omega)) ?_
 refine Wk.rP 3 4 (.slice (some ⟨q, 0, none⟩) k c) rfl rfl ?_
 refine Wk.rEnd 4 rfl (Wk.nxt (wp_ret ?_))
 have kk8 := Wk.Chg.step HB ch6 ⟨.inl (by simp), trivial⟩
 refine Wk.ret (.slice (some ⟨q, 0, none⟩) k c) rfl (by kernel_rfl) ?_
 exact ⟨_, rfl, by rw [← hT]; exact hcl1, kk8⟩
end Go.Proofs.YtfhneademopciaaDoor
namespace Go.Proofs.YtfhneademopciaaDoor
open Go.RowKit
open Mur (b8s Byt Own8 Seg Segs flat cutA attC Att SlA OwnA rowA msgC)
set_option maxRecDepth 100000
set_option maxHeartbeats 4000000
def HearG_F1 (b : Array Value) (u0 : Value) (u3 : Value) (u5 : Value) (u25 : Value) (u26 : Value) (u27 : Value) : Act := ⟨#[u0, b.getD 1 undef, b.getD 2 undef, u3, b.getD 4 undef, u5, b.getD 6 undef, b.getD 7 undef, b.getD 8 undef, b.getD 9 undef, b.getD 10 undef, b.getD 11 undef, b.getD 12 undef, b.getD 13 undef, b.getD 14 undef, b.getD 15 undef, b.getD 16 undef, b.getD 17 undef, b.getD 18 undef, b.getD 19 undef, b.getD 20 undef, b.getD 21 undef, b.getD 22 undef, b.getD 23 undef, b.getD 24 undef, u25, u26, u27, b.getD 28 undef, b.getD 29 undef, b.getD 30 undef, b.getD 31 undef, b.getD 32 undef, b.getD 33 undef, b.getD 34 undef, b.getD 35 undef, b.getD 36 undef, b.getD 37 undef, b.getD 38 undef, b.getD 39 undef, b.getD 40 undef, b.getD 41 undef, b.getD 42 undef, b.getD 43 undef, b.getD 44 undef, b.getD 45 undef, b.getD 46 undef, b.getD 47 undef, b.getD 48 undef, b.getD 49 undef, b.getD 50 undef, b.getD 51 undef, b.getD 52 undef, b.getD 53 undef], []⟩
theorem Hear_any (lo : Nat) (L : List Att) (g : Nat) (F : List Nat) (kd : UInt8) (p : List UInt8) (PA : Option Addr) (pn pc : Nat) (s : List UInt8) (m : Int) (I : List Att) (A : Option Addr) (n c : Nat) (b : Bool) (w : World) (hv : ShaVars w) (h : Mur.SetF 32 57 lo w g L F) (hs : s.length = 32) (hb : Byt w PA pn p) (hnil : PA = none → pc = 0) (hl : SlA w A n I) (hpn : pn ≤ 1000) (hn : n ≤ 1000) : Calls Tryd.prog 36 #[.pointer (some ⟨g, 0, none⟩), .agg (msgC kd PA pn pc s m A n c b).toArray] w fun e w' => ∃ A1 n1 c1 A2 n2 c2, e = .returned (.tuple #[.slice A1 n1 c1, .slice A2 n2 c2]) ∧ Mur.MsgA w' w.heap.size 66 A1 n1 c1 (Mur.repliesM L ⟨kd, p, s, m, I, b⟩) ∧ OwnA w' w.heap.size 32 A2 n2 c2 (Mur.learnsM L ⟨kd, p, s, m, I, b⟩) ∧ Wk.Chg [] w w' := by
 have HV := Go.Lib.hid hv
 clear hv
 have hpl_ := hb.1
 have hM_ := Mur.SetF.mem h
 have hLl_ := Mur.SetF.len h
 have hIl_ := hl.len
 have hbl_ := Mur.belowL_len p L
 have hkd_ := kd.toNat_lt
 refine calls_of_wp Tryd.func36 rfl ?_
 refine wp_seq (Wk.reg ?_)
 refine Wk.rEx 0 (some 3) _ rfl rfl (by kernel_rfl) (Wk.new_ex (.pointer (some ⟨w.heap.size, 0, none⟩)) ((Mur.msgC kd PA pn pc s m A n c b).toArray) 66 (by kernel_rfl)) ?_
 rintro _ W1 ⟨rfl, hb1, ch1, sz1⟩
 have zz1 := ch1.size
 refine Wk.rP 1 4 (.slice none 0 0) rfl rfl ?_
 refine Wk.rP 2 5 (.slice none 0 0) rfl rfl ?_
 refine Wk.rEnd 3 rfl (Wk.nxt (wp_seq (wp_block (wp_seq (Wk.reg ?_)))))
 refine Wk.rP 0 10 (.pointer (some ⟨g, 0, none⟩)) rfl rfl ?_
 refine Wk.rP 1 11 (.bool false) rfl rfl ?_
 refine Wk.rP 2 12 (.bool false) rfl rfl ?_
 refine Wk.rQ 3 13 (.agg ((Mur.msgC kd PA pn pc s m A n c b).toArray)) rfl rfl (Mur.loadArr 66 (.tmp 3) rfl _ Tryd.underlying66 rfl w.heap.size (by kernel_rfl) (Mur.msgC kd PA pn pc s m A n c b).toArray 37 (Mur.msgC_size hs) (by kernel_rfl) 66 (0, 0) hb1) ?_
 refine Wk.rC 4 14 37 [.tmp 13] #[66] [.agg ((Mur.msgC kd PA pn pc s m A n c b).toArray)] rfl rfl rfl ?_
 have kk1 : Wk.Chg [] w W1 := Wk.Chg.step ((Wk.Chg.refl _).more (by simp)) ch1 trivial
 refine (May_any kd p PA pn pc s m I A n c b W1 hs (Mur.byt_chg hb kk1 (fun g off e hl => trivial)) (Mur.SlA.chg hl kk1 (fun g off e hl => trivial)) (by omega) (by omega)).mono ?_
 rintro _ W2 ⟨vv1, rfl, hvm1, ch2⟩
 have zz2 := ch2.size
 cases vv1
 ·have hmay1 : ¬ Mur.mayM ⟨kd, p, s, m, I, b⟩ := fun h_ => absurd (hvm1.2 h_) (by decide)
  refine ⟨_, rfl, ?_⟩
  refine Wk.rP 5 15 (.bool true) rfl rfl ?_
  refine Wk.rP 6 16 (.bool true) rfl rfl ?_
  refine Wk.rP 7 9 (.bool true) rfl rfl ?_
  refine Wk.rEnd 8 rfl (Wk.nxt (wp_cond_true (by kernel_rfl) (wp_seq (Wk.reg ?_))))
  refine Wk.rP 0 4 (.slice none 0 0) rfl rfl ?_
  refine Wk.rP 1 5 (.slice none 0 0) rfl rfl ?_
  refine Wk.rEnd 2 rfl (Wk.nxt (wp_ret (Wk.inR (Wk.thR ?_))))
  have kk2 := Wk.Chg.step kk1 ch2 trivial
  refine Wk.ret (.tuple #[.slice none 0 0, .slice none 0 0]) rfl (by kernel_rfl) ?_
  exact ⟨_, _, _, _, _, _, rfl, by rw [(Mur.replies_no (L := L) hmay1).1]; exact Mur.msgA_nil _ _ _, by rw [(Mur.replies_no (L := L) hmay1).2]; exact Mur.ownA_nil _ _ _, kk2⟩
 have hmay2 : Mur.mayM ⟨kd, p, s, m, I, b⟩ := hvm1.1 rfl
 refine ⟨_, rfl, ?_⟩
 refine Wk.rP 5 15 (.bool false) rfl rfl ?_
 refine Wk.rP 6 16 (.bool false) rfl rfl ?_
 refine Wk.rP 7 9 (.bool false) rfl rfl ?_
 refine Wk.rEnd 8 rfl (Wk.nxt (wp_cond_false (by kernel_rfl) (wp_seq (Wk.reg ?_))))
 obtain ⟨hpreT_, hm1_, hm2_, hn8_, _⟩ := Mur.mayM_iff.1 hmay2
 have hp8_ := Mur.pre_len hpreT_
 refine Wk.rP 0 18 (.pointer (some ⟨w.heap.size, 0, none⟩)) rfl rfl ?_
 refine Wk.rQ 1 19 (.int .u8 ((kd.toNat : Nat) : Int)) rfl rfl (Wk.load1 5 (.tmp 18) rfl (by kernel_rfl) ⟨w.heap.size, 0, none⟩ (by kernel_rfl) (.int .u8 ((kd.toNat : Nat) : Int)) (show World.cell? _ ⟨_, 0 + 0, _⟩ = _ from Mur.msg_kind (Wk.range_row (Wk.Chg.hp ch2 hb1 trivial)))) ?_
 by_cases hx1 : ((kd.toNat : Nat) : Int) = (1 : Int)
 ·refine Wk.rQ 2 20 (.bool true) rfl rfl (Wk.boolT (b := (((kd.toNat : Nat) : Int) == (1 : Int))) (beq_iff_eq.2 (by first | exact hx1 | omega)) (by kernel_rfl)) ?_
  refine Wk.rP 3 17 (.bool true) rfl rfl ?_
  refine Wk.rEnd 4 rfl (Wk.nxt (wp_cond_true (by kernel_rfl) (wp_seq (Wk.reg ?_))))
  refine Wk.rP 0 21 (.pointer (some ⟨g, 0, none⟩)) rfl rfl ?_
  refine Wk.rQ 1 22 (.agg ((Mur.msgC kd PA pn pc s m A n c b).toArray)) rfl rfl (Mur.loadArr 66 (.tmp 3) rfl _ Tryd.underlying66 rfl w.heap.size (by kernel_rfl) (Mur.msgC kd PA pn pc s m A n c b).toArray 37 (Mur.msgC_size hs) (by kernel_rfl) 66 (0, 0) (Wk.Chg.hp ch2 hb1 trivial)) ?_
  refine Wk.rC 2 23 53 [.tmp 21, .tmp 22] #[24, 66] [.pointer (some ⟨g, 0, none⟩), .agg ((Mur.msgC kd PA pn pc s m A n c b).toArray)] rfl rfl rfl ?_
  have hD1 := Mur.SetF.chg h ch1 (fun s hs => trivial)
  have hD2 := Mur.SetF.chg hD1 ch2 (fun s hs => trivial)
  have kk3 := Wk.Chg.step kk1 ch2 trivial
  refine (summed_any lo L g F kd p PA pn pc s m I A n c b W2 (HV.out.below (Wk.Chg.below0 kk3)) hD2 hs (Mur.byt_chg hb kk3 (fun g off e hl => trivial)) hnil (by omega) (by omega)).mono ?_
  rintro _ W3 ⟨AA1, nn1, nn2, rfl, ow1, ch3⟩
  have zz3 := ch3.size
  have hq1 := ow1.nc
  have hq2 := ow1.cm
  refine ⟨_, rfl, ?_⟩
  refine Wk.rP 3 4 (.slice AA1 nn1 nn2) rfl rfl ?_
  refine Wk.rP 4 5 (.slice none 0 0) rfl rfl ?_
  refine Wk.rEnd 5 rfl (Wk.nxt (wp_ret (Wk.inR (Wk.thR ?_))))
  have kk4 := Wk.Chg.step kk3 ch3 trivial
  refine Wk.ret (.tuple #[.slice AA1 nn1 nn2, .slice none 0 0]) rfl (by kernel_rfl) ?_
  exact ⟨_, _, _, _, _, _, rfl, by rw [(Mur.replies_sum (L := L) hmay2 (Mur.u8_cast_inj (by have h_ : ((1 : UInt8).toNat : Int) = 1 := rfl; omega))).1]; exact Mur.MsgA.low ow1 (by omega), by rw [(Mur.replies_sum (L := L) hmay2 (Mur.u8_cast_inj (by have h_ : ((1 : UInt8).toNat : Int) = 1 := rfl; omega))).2]; exact Mur.ownA_nil _ _ _, kk4⟩
 refine Wk.rQ 2 20 (.bool false) rfl rfl (Wk.boolF (b := (((kd.toNat : Nat) : Int) == (1 : Int))) (beq_eq_false_iff_ne.2 (by first | exact hx1 | omega)) (by kernel_rfl)) ?_
 refine Wk.rP 3 17 (.bool false) rfl rfl ?_
 refine Wk.rEnd 4 rfl (Wk.nxt (wp_cond_false (by kernel_rfl) (wp_skip (Wk.inN (Wk.nxt (wp_seq (wp_seq (Wk.reg ?_))))))))
 refine Wk.rP 0 24 (.pointer (some ⟨w.heap.size, 35, none⟩)) rfl rfl ?_
 refine Wk.rQ 1 25 (.slice A n c) rfl rfl (Wk.load1 22 (.tmp 24) rfl (by kernel_rfl) ⟨w.heap.size, 35, none⟩ (by kernel_rfl) (.slice A n c) (show World.cell? _ ⟨_, 0 + 35, _⟩ = _ from Mur.msg_items hs (Wk.range_row (Wk.Chg.hp ch2 hb1 trivial)))) ?_
 refine Wk.rP 2 26 (.int .i64 ((n : Nat) : Int)) rfl rfl ?_
 refine Wk.rP 3 27 (.int .i64 0) rfl rfl ?_
 refine Wk.rEnd 4 rfl (Wk.nxt (wp_block ?_))
 refine Wk.loop (fun m_ a wr => ∃ (i : Nat) (A1 : Option Addr) (k : Nat) (c1 : Nat), m_ = n - i ∧ a = HearG_F1 a.tmps (.pointer (some ⟨g, 0, none⟩)) (.pointer (some ⟨w.heap.size, 0, none⟩)) (.slice A1 k c1) (.slice A n c) (.int .i64 ((n : Nat) : Int)) (.int .i64 ((i : Nat) : Int)) ∧ i ≤ n ∧ OwnA wr (w.heap.size + 1) 32 A1 k c1 ((I.take i).filter (fun y_ => decide (y_ ∉ L))) ∧ wr.heap[w.heap.size]? = some (.cells (Mur.msgC kd PA pn pc s m A n c b).toArray 66 (0, 0)) ∧ Wk.Chg [] w wr) (n - 0) ?_ ?_
 ·have kk5 := Wk.Chg.step kk1 ch2 trivial
  refine ⟨0, none, 0, 0, rfl, by kernel_rfl, Nat.zero_le _, (Mur.ownA_nil _ _ _), (Wk.Chg.hp ch2 hb1 trivial), kk5⟩
 rintro mm1 aa1 W4 ⟨i, A1, k, c1, hmm1, hF1, hi, hO, hX, HB⟩
 generalize aa1.tmps = bb1 at hF1
 subst hF1
 have hzB := HB.size
 have hxl_ := (Array.getElem?_eq_some_iff.1 hX).1
 have hDx_ := Mur.SetF.chg h HB (fun _ _ => trivial)
 have hOl := hO.sl.len
 have hOc := hO.nc
 have hfl_ := List.length_filter_le (fun y_ => decide (y_ ∉ L)) (I.take i)
 have htl_ := List.length_take_le i I
 by_cases hlt : i < n
 ·obtain ⟨g_x, o_x, rfl, _⟩ := hl.ex (by omega)
  obtain ⟨x, hx⟩ : ∃ x, I[i]? = some x := ⟨_, List.getElem?_eq_getElem (by have := hl.len; omega)⟩
  refine wp_seq (Wk.reg ?_)
  refine Wk.rQ 0 28 (.bool true) rfl rfl (Wk.boolT (b := decide (((i : Nat) : Int) < ((n : Nat) : Int))) (decide_eq_true (by omega)) (by kernel_rfl)) ?_
  refine Wk.rEnd 1 rfl (Wk.nxt (wp_seq (wp_cond_true (by kernel_rfl) (wp_skip (Wk.nxt (wp_seq (wp_block (wp_seq (Wk.reg ?_)))))))))
  refine Wk.rQ 0 29 (.pointer (some ⟨g_x, o_x + i * 97, none⟩)) rfl rfl (Wk.index_sl 22 32 (.tmp 25) (.tmp 27) rfl Tryd.underlying22 97 (by kernel_rfl) g_x o_x n c i .i64 (by kernel_rfl) (by kernel_rfl) (by omega)) ?_
  refine Wk.rQ 1 30 (.agg ((Mur.attC x.k x.r x.n x.t).toArray)) rfl rfl (Wk.loadR 32 (.tmp 29) rfl _ Tryd.underlying32 rfl g_x (o_x + i * 97) (by kernel_rfl) (Mur.attC x.k x.r x.n x.t) (by rw [Mur.attC_length x.hk x.hr x.ht]; kernel_rfl) ((Mur.SlA.chg hl HB (fun g off e hl => trivial)).elem hx)) ?_
  refine Wk.rEx 2 (some 7) _ rfl rfl (by kernel_rfl) (Wk.new_ex (.pointer (some ⟨W4.heap.size, 0, none⟩)) #[.int .u8 0, .int .u8 0, .int .u8 0, .int .u8 0, .int .u8 0, .int .u8 0, .int .u8 0, .int .u8 0, .int .u8 0, .int .u8 0, .int .u8 0, .int .u8 0, .int .u8 0, .int .u8 0, .int .u8 0, .int .u8 0, .int .u8 0, .int .u8 0, .int .u8 0, .int .u8 0, .int .u8 0, .int .u8 0, .int .u8 0, .int .u8 0, .int .u8 0, .int .u8 0, .int .u8 0, .int .u8 0, .int .u8 0, .int .u8 0, .int .u8 0, .int .u8 0, .int .u8 0, .int .u8 0, .int .u8 0, .int .u8 0, .int .u8 0, .int .u8 0, .int .u8 0, .int .u8 0, .int .u8 0, .int .u8 0, .int .u8 0, .int .u8 0, .int .u8 0, .int .u8 0, .int .u8 0, .int .u8 0, .int .u8 0, .int .u8 0, .int .u8 0, .int .u8 0, .int .u8 0, .int .u8 0, .int .u8 0, .int .u8 0, .int .u8 0, .int .u8 0, .int .u8 0, .int .u8 0, .int .u8 0, .int .u8 0, .int .u8 0, .int .u8 0, .int .i64 0, .int .u8 0, .int .u8 0, .int .u8 0, .int .u8 0, .int .u8 0, .int .u8 0, .int .u8 0, .int .u8 0, .int .u8 0, .int .u8 0, .int .u8 0, .int .u8 0, .int .u8 0, .int .u8 0, .int .u8 0, .int .u8 0, .int .u8 0, .int .u8 0, .int .u8 0, .int .u8 0, .int .u8 0, .int .u8 0, .int .u8 0, .int .u8 0, .int .u8 0, .int .u8 0, .int .u8 0, .int .u8 0, .int .u8 0, .int .u8 0, .int .u8 0, .int .u8 0] 32 (by kernel_rfl)) ?_
  rintro _ W5 ⟨rfl, hb2, ch4, sz2⟩
  have zz4 := ch4.size
  rw [← Mur.attC_zero] at hb2
  refine Wk.rExS 3 none _ rfl rfl (by kernel_rfl) (Mur.storeArr 32 (.tmp 7) (.tmp 30) rfl W4.heap.size (by kernel_rfl) (Mur.attC x.k x.r x.n x.t).toArray 97 (Mur.attC_size x.hk x.hr x.ht) Mur.attC_all (by kernel_rfl) (by kernel_rfl) 32 ((Mur.attC Mur.z32 Mur.z32 0 Mur.z32).toArray) hb2 (Mur.attC_size rfl rfl rfl)) ?_
  rintro W6 ⟨hb3, ch5⟩
  have zz5 := ch5.size
  refine Wk.rEnd 4 rfl (Wk.nxt (wp_seq (Wk.reg ?_)))
  refine Wk.rP 0 31 (.pointer (some ⟨g, 0, none⟩)) rfl rfl ?_
  refine Wk.rQ 1 32 (.agg ((Mur.attC x.k x.r x.n x.t).toArray)) rfl rfl (Mur.loadArr 32 (.tmp 7) rfl _ Tryd.underlying32 rfl W4.heap.size (by kernel_rfl) (Mur.attC x.k x.r x.n x.t).toArray 97 (Mur.attC_size x.hk x.hr x.ht) (by kernel_rfl) 32 (0, 0) hb3) ?_
  refine Wk.rC 2 33 24 [.tmp 31, .tmp 32] #[24, 32] [.pointer (some ⟨g, 0, none⟩), .agg ((Mur.attC x.k x.r x.n x.t).toArray)] rfl rfl rfl ?_
  have hD3 := Mur.SetF.chg hDx_ ch4 (fun s hs => trivial)
  have hD4 := Mur.SetF.chg hD3 ch5 (fun s hs => ⟨by have := hM_ s hs; omega, trivial⟩)
  refine (Has_any lo L g F x W6 hD4).mono ?_
  by_cases hmem1 : x ∈ L
  ·rw [decide_eq_true hmem1]
   rintro _ W7 ⟨rfl, ch6⟩
   have zz6 := ch6.size
   refine ⟨_, rfl, ?_⟩
   refine Wk.rP 3 34 (.bool false) rfl rfl ?_
   refine Wk.rEnd 4 rfl (Wk.nxt (wp_cond_false (by kernel_rfl) (wp_skip (Wk.inN (Wk.nxt (Wk.reg ?_))))))
   refine Wk.rQ 0 39 (.int .i64 ((i + 1 : Nat) : Int)) rfl rfl (Wk.int64 (n := ((i : Nat) : Int) + 1) (z := ((i + 1 : Nat) : Int)) (by omega) (by omega) (by omega) (by kernel_rfl)) ?_
   refine Wk.rP 1 27 (.int .i64 ((i + 1 : Nat) : Int)) rfl rfl ?_
   refine Wk.rEnd 2 rfl (Wk.nxt ?_)
   have ow2 := Mur.OwnA.chg hO ch4 (fun q e _ _ => trivial)
   have ow3 := Mur.OwnA.chg ow2 ch5 (fun q e _ _ => ⟨by have := hO.lt q e; omega, trivial⟩)
   have ow4 := Mur.OwnA.chg ow3 ch6 (fun q e _ _ => trivial)
   have kk6 := Wk.Chg.step HB ch4 trivial
   have kk7 := Wk.Chg.step kk6 ch5 ⟨.inr (by omega), trivial⟩
   have kk8 := Wk.Chg.step kk7 ch6 trivial
   refine ⟨_, ?_, i + 1, A1, k, c1, rfl, by kernel_rfl, (by omega), (by rw [Mur.filter_snoc hx, if_neg (by simpa using hmem1)]; first | exact ow4 | (rw [List.append_nil]; exact ow4)), (Wk.Chg.hp ch6 (Wk.Chg.hp ch5 (Wk.Chg.hp ch4 hX trivial) ⟨by omega, trivial⟩) trivial), kk8⟩
   omega
  rw [decide_eq_false hmem1]
  rintro _ W7 ⟨rfl, ch6⟩
  have zz7 := ch6.size
  refine ⟨_, rfl, ?_⟩
  refine Wk.rP 3 34 (.bool true) rfl rfl ?_
  refine Wk.rEnd 4 rfl (Wk.nxt (wp_cond_true (by kernel_rfl) (Wk.reg ?_)))
  refine Wk.rP 0 35 (.slice A1 k c1) rfl rfl ?_
  refine Wk.rQ 1 36 (.agg ((Mur.attC x.k x.r x.n x.t).toArray)) rfl rfl (Mur.loadArr 32 (.tmp 7) rfl _ Tryd.underlying32 rfl W4.heap.size (by kernel_rfl) (Mur.attC x.k x.r x.n x.t).toArray 97 (Mur.attC_size x.hk x.hr x.ht) (by kernel_rfl) 32 (0, 0) (Wk.Chg.hp ch6 hb3 trivial)) ?_
  refine Wk.rEx 2 (some 37) _ rfl rfl (by kernel_rfl) (Mur.build1 22 32 (.tmp 36) rfl Tryd.underlying22 attI x.k x.r x.t x.n x.hk x.hr x.ht (by kernel_rfl)) ?_
  rintro _ W8 ⟨rfl, hb4, ch7, sz3⟩
  have zz8 := ch7.size
  have ow5 := Mur.OwnA.chg hO ch4 (fun q e _ _ => trivial)
  have ow6 := Mur.OwnA.chg ow5 ch5 (fun q e _ _ => ⟨by have := hO.lt q e; omega, trivial⟩)
  have ow7 := Mur.OwnA.chg ow6 ch6 (fun q e _ _ => trivial)
  have ow8 := Mur.OwnA.chg ow7 ch7 (fun q e _ _ => trivial)
  refine Wk.rEx 3 (some 38) _ rfl rfl (by kernel_rfl) (Mur.appendA (.tmp 35) (.tmp 37) 22 32 rfl Tryd.underlying22 attI (w.heap.size + 1) A1 k c1 ((I.take i).filter (fun y_ => decide (y_ ∉ L))) (some ⟨W7.heap.size, 0, none⟩) 1 1 ([x]) (by kernel_rfl) (by kernel_rfl) ow8 (Mur.slA_box x hb4) (fun h => by cases h) (by omega) (by omega) (k + 1) (by omega) (((I.take i).filter (fun y_ => decide (y_ ∉ L))) ++ ([x])) rfl) ?_
  rintro _ W10 ⟨AA2, nn3, rfl, ow9, ch8, ha1⟩
  have zz9 := ch8.size
  have hq3 := ow9.nc
  have hq4 := ow9.cm
  refine Wk.rP 4 5 (.slice AA2 (k + 1) nn3) rfl rfl ?_
  refine Wk.rEnd 5 rfl (Wk.inN (Wk.nxt (Wk.reg ?_)))
  refine Wk.rQ 0 39 (.int .i64 ((i + 1 : Nat) : Int)) rfl rfl (Wk.int64 (n := ((i : Nat) : Int) + 1) (z := ((i + 1 : Nat) : Int)) (by omega) (by omega) (by omega) (by kernel_rfl)) ?_
  refine Wk.rP 1 27 (.int .i64 ((i + 1 : Nat) : Int)) rfl rfl ?_
  refine Wk.rEnd 2 rfl (Wk.nxt ?_)
  have kk9 := Wk.Chg.step HB ch4 trivial
  have kk10 := Wk.Chg.step kk9 ch5 ⟨.inr (by omega), trivial⟩
  have kk11 := Wk.Chg.step kk10 ch6 trivial
  have kk12 := Wk.Chg.step kk11 ch7 trivial
  have kk13 := Wk.Chg.step kk12 ch8 (Wk.newOr_blk (fun g hg => by have := hO.lt g hg; omega))
  refine ⟨_, ?_, i + 1, AA2, k + 1, nn3, rfl, by kernel_rfl, (by omega), (by rw [Mur.filter_snoc hx, if_pos (by simpa using hmem1)]; first | exact ow9 | (rw [List.append_nil]; exact ow9)), (Wk.Chg.hp ch8 (Wk.Chg.hp ch7 (Wk.Chg.hp ch6 (Wk.Chg.hp ch5 (Wk.Chg.hp ch4 hX trivial) ⟨by omega, trivial⟩) trivial) trivial) (Wk.off_blk (fun gz hgz => by have := hO.lt gz hgz; omega))), kk13⟩
  omega
 rw [List.take_of_length_le (show I.length ≤ i by omega)] at hO
 refine wp_seq (Wk.reg ?_)
 refine Wk.rQ 0 28 (.bool false) rfl rfl (Wk.boolF (b := decide (((i : Nat) : Int) < ((n : Nat) : Int))) (decide_eq_false (by omega)) (by kernel_rfl)) ?_
 refine Wk.rEnd 1 rfl (Wk.nxt (wp_seq (wp_cond_false (by kernel_rfl) (wp_exit (Wk.thX (Wk.thX (Wk.inX (Wk.nxt (wp_seq (wp_seq (Wk.reg ?_)))))))))))
 cases b
 ·refine Wk.rP 0 40 (.pointer (some ⟨w.heap.size, 36, none⟩)) rfl rfl ?_
  refine Wk.rQ 1 41 (.bool false) rfl rfl (Wk.load1 4 (.tmp 40) rfl (by kernel_rfl) ⟨w.heap.size, 36, none⟩ (by kernel_rfl) (.bool false) (show World.cell? _ ⟨_, 0 + 36, _⟩ = _ from Mur.msg_ans hs (Wk.range_row hX))) ?_
  refine Wk.rEnd 2 rfl (Wk.nxt (wp_cond_false (by kernel_rfl) (wp_skip (Wk.nxt (wp_seq (Wk.reg ?_))))))
  refine Wk.rP 0 43 (.pointer (some ⟨g, 0, none⟩)) rfl rfl ?_
  refine Wk.rP 1 44 (.pointer (some ⟨w.heap.size, 1, none⟩)) rfl rfl ?_
  refine Wk.rQ 2 45 (.slice PA pn pc) rfl rfl (Wk.load1 38 (.tmp 44) rfl (by kernel_rfl) ⟨w.heap.size, 1, none⟩ (by kernel_rfl) (.slice PA pn pc) (show World.cell? _ ⟨_, 0 + 1, _⟩ = _ from Mur.msg_pre (Wk.range_row hX))) ?_
  refine Wk.rC 3 46 18 [.tmp 43, .tmp 45] #[24, 38] [.pointer (some ⟨g, 0, none⟩), .slice PA pn pc] rfl rfl rfl ?_
  refine (Below_any lo L g F p PA pn pc W4 hDx_ (Mur.byt_chg hb HB (fun g off e hl => trivial)) (by omega)).mono ?_
  rintro _ W11 ⟨AA3, nn4, nn5, rfl, ow10, ch9⟩
  have zz10 := ch9.size
  have hq5 := ow10.nc
  have hq6 := ow10.cm
  have hq7 := ow10.sl.len
  have hq8 : (Mur.belowL p L).length ≤ 200 := Nat.le_trans (Mur.belowL_len _ _) (Mur.SetF.len hDx_)
  refine ⟨_, rfl, ?_⟩
  refine Wk.rP 4 47 (.func (.func 55) #[] #[.pointer (some ⟨w.heap.size, 0, none⟩)]) rfl rfl ?_
  refine Wk.rC 5 48 54 [.tmp 46, .tmp 47] #[22, 47] [.slice AA3 nn4 nn5, .func (.func 55) #[] #[.pointer (some ⟨w.heap.size, 0, none⟩)]] rfl rfl rfl ?_
  have kk14 := Wk.Chg.step HB ch9 trivial
  have hol1 := ow10.sl.len
  have hIlt1 : ∀ g_ off_, A = some ⟨g_, off_, none⟩ → 0 < n → g_ < W4.heap.size := fun g_ off_ e_ hn_ => by have h_ := hl; rw [e_] at h_; have := h_.lt hn_; omega
  have hlt1 := ow10.lt
  refine (DeleteF_any W4.heap.size AA3 nn4 nn5 (Mur.belowL p L) w.heap.size kd PA pn pc s m A n c false I W11 ow10 (by omega) hs (Wk.Chg.hp ch9 hX trivial) (Mur.SlA.chg hl kk14 (fun g off e hl => trivial)) (by omega) (by omega) hIlt1).mono ?_
  rintro _ W12 ⟨nn6, rfl, ow11, ch10⟩
  have zz11 := ch10.size
  have hq9 := ow11.nc
  have hq10 := List.length_filter_le (fun y_ => decide (y_ ∉ I)) (Mur.belowL p L)
  have hq11 := ow11.sl.len
  refine ⟨_, rfl, ?_⟩
  refine Wk.rP 6 8 (.slice AA3 nn6 nn5) rfl rfl ?_
  refine Wk.rEnd 7 rfl (Wk.nxt (wp_seq (Wk.reg ?_)))
  refine Wk.rP 0 49 (.pointer (some ⟨w.heap.size, 1, none⟩)) rfl rfl ?_
  refine Wk.rQ 1 50 (.slice PA pn pc) rfl rfl (Wk.load1 38 (.tmp 49) rfl (by kernel_rfl) ⟨w.heap.size, 1, none⟩ (by kernel_rfl) (.slice PA pn pc) (show World.cell? _ ⟨_, 0 + 1, _⟩ = _ from Mur.msg_pre (Wk.range_row (Wk.Chg.hp ch10 (Wk.Chg.hp ch9 hX trivial) (Wk.off_blk (fun gz hgz => by have := hlt1 gz hgz; omega)))))) ?_
  refine Wk.rP 2 51 (.slice AA3 nn6 nn5) rfl rfl ?_
  refine Wk.rC 3 52 57 [.tmp 50, .tmp 51, .const (.bool true)] #[38, 22, 4] [.slice PA pn pc, .slice AA3 nn6 nn5, .bool true] rfl rfl rfl ?_
  have kk15 := Wk.Chg.step kk14 ch10 (Wk.newOr_blk (fun g hg => by have := hlt1 g hg; omega))
  have hol2 := ow11.sl.len
  have hoc1 : nn5 ≤ 9223372036854775807 := Nat.le_trans ow11.cm (by unfold Go.maxLen; omega)
  have hon1 := ow11.nc
  refine (items_any p PA pn pc AA3 nn6 nn5 ((Mur.belowL p L).filter (fun y_ => decide (y_ ∉ I))) true W12 (Mur.byt_chg hb kk15 (fun g off e hl => trivial)) hnil (by omega) ow11.sl (by omega)).mono ?_
  rintro _ W13 ⟨AA4, nn7, nn8, rfl, ow12, ch11⟩
  have zz12 := ch11.size
  have hq12 := ow12.nc
  have hq13 := ow12.cm
  refine ⟨_, rfl, ?_⟩
  refine Wk.rP 4 53 (.slice A1 k c1) rfl rfl ?_
  refine Wk.rP 5 4 (.slice AA4 nn7 nn8) rfl rfl ?_
  refine Wk.rP 6 5 (.slice A1 k c1) rfl rfl ?_
  refine Wk.rEnd 7 rfl (Wk.nxt (wp_ret ?_))
  have ow13 := Mur.OwnA.chg hO ch9 (fun q e _ _ => trivial)
  have ow14 := Mur.OwnA.chg ow13 ch10 (fun q e _ _ => (Wk.off_blk (fun gz hgz => by have := hlt1 gz hgz; have := hO.lt q e; omega)))
  have ow15 := Mur.OwnA.chg ow14 ch11 (fun q e _ _ => trivial)
  have kk16 := Wk.Chg.step kk15 ch11 trivial
  refine Wk.ret (.tuple #[.slice AA4 nn7 nn8, .slice A1 k c1]) rfl (by kernel_rfl) ?_
  exact ⟨_, _, _, _, _, _, rfl, by rw [(Mur.replies_two (L := L) hmay2 (fun h_ => by have h1_ := congrArg (fun z : UInt8 => (z.toNat : Int)) h_; have h2_ : ((1 : UInt8).toNat : Int) = 1 := rfl; simp only [h2_] at h1_; omega)).1]; exact Mur.MsgA.low ow12 (by omega), by rw [(Mur.replies_two (L := L) hmay2 (fun h_ => by have h1_ := congrArg (fun z : UInt8 => (z.toNat : Int)) h_; have h2_ : ((1 : UInt8).toNat : Int) = 1 := rfl; simp only [h2_] at h1_; omega)).2]; exact Mur.OwnA.rebase ow15 (fun q_ h_ => by have := hO.lt q_ h_; omega), kk16⟩
 refine Wk.rP 0 40 (.pointer (some ⟨w.heap.size, 36, none⟩)) rfl rfl ?_
 refine Wk.rQ 1 41 (.bool true) rfl rfl (Wk.load1 4 (.tmp 40) rfl (by kernel_rfl) ⟨w.heap.size, 36, none⟩ (by kernel_rfl) (.bool true) (show World.cell? _ ⟨_, 0 + 36, _⟩ = _ from Mur.msg_ans hs (Wk.range_row hX))) ?_
 refine Wk.rEnd 2 rfl (Wk.nxt (wp_cond_true (by kernel_rfl) (wp_seq (Wk.reg ?_))))
 refine Wk.rP 0 42 (.slice A1 k c1) rfl rfl ?_
 refine Wk.rP 1 4 (.slice none 0 0) rfl rfl ?_
 refine Wk.rP 2 5 (.slice A1 k c1) rfl rfl ?_
 refine Wk.rEnd 3 rfl (Wk.nxt (wp_ret (Wk.thR ?_)))
 refine Wk.ret (.tuple #[.slice none 0 0, .slice A1 k c1]) rfl (by kernel_rfl) ?_
 exact ⟨_, _, _, _, _, _, rfl, by rw [(Mur.replies_ans (L := L) hmay2 (fun h_ => by have h1_ := congrArg (fun z : UInt8 => (z.toNat : Int)) h_; have h2_ : ((1 : UInt8).toNat : Int) = 1 := rfl; simp only [h2_] at h1_; omega)).1]; exact Mur.msgA_nil _ _ _, by rw [(Mur.replies_ans (L := L) hmay2 (fun h_ => by have h1_ := congrArg (fun z : UInt8 => (z.toNat : Int)) h_; have h2_ : ((1 : UInt8).toNat : Int) = 1 := rfl; simp only [h2_] at h1_; omega)).2]; exact Mur.OwnA.rebase hO (fun q_ h_ => by have := hO.lt q_ h_; omega), HB⟩
end Go.Proofs.YtfhneademopciaaDoor
