/- An attest's bytes, or none; a length in 104 bytes. -/
import Derived.Test.YtljfjjofhclhiaaDoorAtV
namespace Go.Proofs.YtljfjjofhclhiaaDoor
open Go.RowKit
open Mur (b8s Byt Own8 Seg Segs flat cutA attC)
set_option maxRecDepth 100000
set_option maxHeartbeats 4000000
theorem Bytes_ok (k r t : List UInt8) (n : Int) (hk : k.length = 32) (hr : r.length = 32) (ht : t.length = 32) (w : World) (hm : Mur.may n) : Calls Tryd.prog 24 #[.agg (attC k r n t).toArray] w fun e w' => ∃ q cq B, Hid (B = Mur.rawL k r n t) ∧ e = .returned (.tuple #[.slice (some ⟨q, 0, none⟩) 104 cq, .int .i64 0]) ∧ Byt w' (some ⟨q, 0, none⟩) 104 B ∧ (w.heap.size ≤ q ∧ q < w'.heap.size) ∧ 104 ≤ cq ∧ Wk.Chg [] w w' := by
  refine calls_of_wp Tryd.func24 rfl ?_
  refine wp_seq ?_
  refine Wk.reg ?_
  refine Wk.rEx 0 (some 1) _ rfl rfl (by kernel_rfl) (Wk.new_ex (.pointer (some ⟨w.heap.size, 0, none⟩)) ((Mur.attC k r n t).toArray) 36 (by kernel_rfl)) ?_
  rintro _ W1 ⟨rfl, hb1, ch1, sz1⟩
  have zz1 := ch1.size
  refine Wk.rPure 1 (some 2) (.slice none 0 0) rfl rfl (by kernel_rfl) (by kernel_rfl) ?_
  refine Wk.rPure 2 (some 3) (.int .i64 0) rfl rfl (by kernel_rfl) (by kernel_rfl) ?_
  refine Wk.rEnd 3 rfl ?_
  refine Wk.nxt ?_
  refine wp_seq ?_
  refine wp_seq ?_
  refine Wk.reg ?_
  refine Wk.rPure 0 (some 4) (.agg ((Mur.attC k r n t).toArray)) rfl rfl (by kernel_rfl) (Mur.loadArr 36 (.tmp 1) rfl _ Tryd.underlying36 rfl w.heap.size (by kernel_rfl) (Mur.attC k r n t).toArray 97 (Mur.attC_size hk hr ht) (by kernel_rfl) 36 (0, 0) hb1) ?_
  refine Wk.rCall 1 (some 5) 33 [.tmp 4] #[36] [.agg ((Mur.attC k r n t).toArray)] rfl rfl (by kernel_rfl) rfl (by kernel_rfl) (by kernel_rfl) ?_
  refine (may_any k r t n hk hr ht W1).mono ?_
  rw [decide_eq_true (hm : Mur.may n)]
  rintro _ W2 ⟨rfl, ch2⟩
  have zz2 := ch2.size
  refine ⟨_, rfl, ?_⟩
  refine Wk.rPure 2 (some 6) (.bool false) rfl rfl (by kernel_rfl) (by kernel_rfl) ?_
  refine Wk.rEnd 3 rfl ?_
  refine Wk.nxt ?_
  refine wp_cond_false (by kernel_rfl) ?_
  refine wp_skip ?_
  refine Wk.nxt ?_
  refine wp_seq ?_
  refine Wk.reg ?_
  refine Wk.rPure 0 (some 7) (.agg ((Mur.attC k r n t).toArray)) rfl rfl (by kernel_rfl) (Mur.loadArr 36 (.tmp 1) rfl _ Tryd.underlying36 rfl w.heap.size (by kernel_rfl) (Mur.attC k r n t).toArray 97 (Mur.attC_size hk hr ht) (by kernel_rfl) 36 (0, 0) (Wk.Chg.hp ch2 hb1 trivial)) ?_
  refine Wk.rCall 1 (some 8) 37 [.tmp 7] #[36] [.agg ((Mur.attC k r n t).toArray)] rfl rfl (by kernel_rfl) rfl (by kernel_rfl) (by kernel_rfl) ?_
  refine (raw_any k r t n hk hr ht W2).mono ?_
  rintro _ W3 ⟨qr1, cr1, RB1, hRB1, rfl, hbr1, hq1, hq2, ch3⟩
  have zz3 := ch3.size
  have hBt1 : ∀ g off, (some ⟨qr1, 0, none⟩ : Option Addr) = some ⟨g, off, none⟩ → W2.heap.size ≤ g ∧ g < W3.heap.size := fun g off e => by cases e; exact hq1
  refine ⟨_, rfl, ?_⟩
  refine Wk.rPure 2 (some 2) (.slice (some ⟨qr1, 0, none⟩) 104 cr1) rfl rfl (by kernel_rfl) (by kernel_rfl) ?_
  refine Wk.rPure 3 (some 3) (.int .i64 0) rfl rfl (by kernel_rfl) (by kernel_rfl) ?_
  refine Wk.rEnd 4 rfl ?_
  refine Wk.nxt ?_
  refine wp_ret ?_
  have kk1 : Wk.Chg [] w W1 := Wk.Chg.step ((Wk.Chg.refl _).more (by simp)) ch1 trivial
  have kk2 := Wk.Chg.step kk1 ch2 trivial
  have kk3 := Wk.Chg.step kk2 ch3 trivial
  refine Wk.ret (.tuple #[.slice (some ⟨qr1, 0, none⟩) 104 cr1, .int .i64 0]) rfl (by kernel_rfl) ?_
  exact ⟨_, _, _, hRB1, rfl, hbr1, ⟨by omega, by omega⟩, by omega, kk3⟩
theorem Bytes_no (k r t : List UInt8) (n : Int) (hk : k.length = 32) (hr : r.length = 32) (ht : t.length = 32) (w : World) (hm : ¬ Mur.may n) : Calls Tryd.prog 24 #[.agg (attC k r n t).toArray] w fun e w' => e = .returned (.tuple #[.slice none 0 0, .int .i64 2]) ∧ Wk.Chg [] w w' := by
  refine calls_of_wp Tryd.func24 rfl ?_
  refine wp_seq ?_
  refine Wk.reg ?_
  refine Wk.rEx 0 (some 1) _ rfl rfl (by kernel_rfl) (Wk.new_ex (.pointer (some ⟨w.heap.size, 0, none⟩)) ((Mur.attC k r n t).toArray) 36 (by kernel_rfl)) ?_
  rintro _ W1 ⟨rfl, hb1, ch1, sz1⟩
  have zz1 := ch1.size
  refine Wk.rPure 1 (some 2) (.slice none 0 0) rfl rfl (by kernel_rfl) (by kernel_rfl) ?_
  refine Wk.rPure 2 (some 3) (.int .i64 0) rfl rfl (by kernel_rfl) (by kernel_rfl) ?_
  refine Wk.rEnd 3 rfl ?_
  refine Wk.nxt ?_
  refine wp_seq ?_
  refine wp_seq ?_
  refine Wk.reg ?_
  refine Wk.rPure 0 (some 4) (.agg ((Mur.attC k r n t).toArray)) rfl rfl (by kernel_rfl) (Mur.loadArr 36 (.tmp 1) rfl _ Tryd.underlying36 rfl w.heap.size (by kernel_rfl) (Mur.attC k r n t).toArray 97 (Mur.attC_size hk hr ht) (by kernel_rfl) 36 (0, 0) hb1) ?_
  refine Wk.rCall 1 (some 5) 33 [.tmp 4] #[36] [.agg ((Mur.attC k r n t).toArray)] rfl rfl (by kernel_rfl) rfl (by kernel_rfl) (by kernel_rfl) ?_
  refine (may_any k r t n hk hr ht W1).mono ?_
  rw [decide_eq_false (hm : ¬ Mur.may n)]
  rintro _ W2 ⟨rfl, ch2⟩
  have zz2 := ch2.size
  refine ⟨_, rfl, ?_⟩
  refine Wk.rPure 2 (some 6) (.bool true) rfl rfl (by kernel_rfl) (by kernel_rfl) ?_
  refine Wk.rEnd 3 rfl ?_
  refine Wk.nxt ?_
  refine wp_cond_true (by kernel_rfl) ?_
  refine wp_seq ?_
  refine Wk.reg ?_
  refine Wk.rPure 0 (some 2) (.slice none 0 0) rfl rfl (by kernel_rfl) (by kernel_rfl) ?_
  refine Wk.rPure 1 (some 3) (.int .i64 2) rfl rfl (by kernel_rfl) (by kernel_rfl) ?_
  refine Wk.rEnd 2 rfl ?_
  refine Wk.nxt ?_
  refine wp_ret ?_
  refine Wk.thR ?_
  have kk1 : Wk.Chg [] w W1 := Wk.Chg.step ((Wk.Chg.refl _).more (by simp)) ch1 trivial
  have kk2 := Wk.Chg.step kk1 ch2 trivial
  refine Wk.ret (.tuple #[.slice none 0 0, .int .i64 2]) rfl (by kernel_rfl) ?_
  exact ⟨rfl, kk2⟩
theorem Lengthy_any (gb ob c : Nat) (b E : List UInt8) (V : Nat) (w : World) (hb : Byt w (some ⟨gb, ob, none⟩) 104 b) (hE : (b.take 72).drop 64 = E) (hV : Mur.be8 E = V) : Calls Tryd.prog 27 #[.slice (some ⟨gb, ob, none⟩) 104 c] w fun e w' => e = .returned (.bool (decide (1 ≤ V ∧ V ≤ 5000))) ∧ w = w' := by
  have hb64 : Byt w (some ⟨gb, ob + 64, none⟩) 8 E := by have := Mur.byt_sub hb 64 72 8 rfl (by omega); rw [hE] at this; exact this
  have hx0_ := (E.getD 0 0).toNat_lt
  have hx1_ := (E.getD 1 0).toNat_lt
  have hx2_ := (E.getD 2 0).toNat_lt
  have hx3_ := (E.getD 3 0).toNat_lt
  have hx4_ := (E.getD 4 0).toNat_lt
  have hx5_ := (E.getD 5 0).toNat_lt
  have hx6_ := (E.getD 6 0).toNat_lt
  have hx7_ := (E.getD 7 0).toNat_lt
  refine calls_of_wp Tryd.func27 rfl ?_
  refine wp_seq ?_
  refine Wk.reg ?_
  refine Wk.rPure 0 (some 2) (.bool false) rfl rfl (by kernel_rfl) (by kernel_rfl) ?_
  refine Wk.rEnd 1 rfl ?_
  refine Wk.nxt ?_
  refine wp_seq ?_
  refine Wk.reg ?_
  refine Wk.rPure 0 (some 3) (.int .i64 0) rfl rfl (by kernel_rfl) (by kernel_rfl) ?_
  refine Wk.rEnd 1 rfl ?_
  refine Wk.nxt ?_
  refine wp_seq ?_
  refine wp_seq ?_
  refine Wk.reg ?_
  refine Wk.rPure 0 (some 4) (.int .i64 64) rfl rfl (by kernel_rfl) (by kernel_rfl) ?_
  refine Wk.rEnd 1 rfl ?_
  refine Wk.nxt ?_
  refine wp_block ?_
  refine Wk.loopN 9 ?_
  refine Wk.rdS ?_
  refine wp_seq ?_
  refine wp_seq ?_
  refine Wk.reg ?_
  refine Wk.rPure 0 (some 5) (.int .i64 64) rfl rfl (by kernel_rfl) (by kernel_rfl) ?_
  refine Wk.rPure 1 (some 6) (.bool true) rfl rfl (by kernel_rfl) (Wk.boolT (b := decide ((64 : Int) < (72 : Int))) (decide_eq_true (by decide)) (by kernel_rfl)) ?_
  refine Wk.rEnd 2 rfl ?_
  refine Wk.nxt ?_
  refine wp_cond_true (by kernel_rfl) ?_
  refine wp_skip ?_
  refine Wk.nxt ?_
  refine wp_seq ?_
  refine wp_block ?_
  refine wp_seq ?_
  refine wp_seq ?_
  refine Wk.reg ?_
  refine Wk.rPure 0 (some 9) (.int .i64 0) rfl rfl (by kernel_rfl) (by kernel_rfl) ?_
  refine Wk.rPure 1 (some 10) (.bool false) rfl rfl (by kernel_rfl) (Wk.boolF (b := decide ((0 : Int) > (1099511627776 : Int))) (decide_eq_false (by decide)) (by kernel_rfl)) ?_
  refine Wk.rEnd 2 rfl ?_
  refine Wk.nxt ?_
  refine wp_cond_false (by kernel_rfl) ?_
  refine wp_skip ?_
  refine Wk.nxt ?_
  refine Wk.reg ?_
  refine Wk.rPure 0 (some 11) (.int .i64 0) rfl rfl (by kernel_rfl) (by kernel_rfl) ?_
  refine Wk.rPure 1 (some 12) (.int .i64 0) rfl rfl (by kernel_rfl) (Wk.int64 (n := 0 * 256) (z := 0) (by omega) (by omega) (by omega) (by kernel_rfl)) ?_
  refine Wk.rPure 2 (some 13) (.slice (some ⟨gb, ob, none⟩) 104 c) rfl rfl (by kernel_rfl) (by kernel_rfl) ?_
  refine Wk.rPure 3 (some 14) (.int .i64 64) rfl rfl (by kernel_rfl) (by kernel_rfl) ?_
  refine Wk.rPure 4 (some 15) (.pointer (some ⟨gb, ob + 64 * 1, none⟩)) rfl rfl (by kernel_rfl) (Wk.index_sl 22 5 (.tmp 13) (.tmp 14) rfl Tryd.underlying22 1 (by kernel_rfl) gb ob 104 c 64 .i64 (by kernel_rfl) (by kernel_rfl) (by omega)) ?_
  refine Wk.rPure 5 (some 16) (.int .u8 (((E.getD 0 0).toNat : Nat) : Int)) rfl rfl (by kernel_rfl) (Wk.load1 5 (.tmp 15) rfl (by kernel_rfl) ⟨gb, ob + 64 * 1, none⟩ (by kernel_rfl) (.int .u8 (((E.getD 0 0).toNat : Nat) : Int)) (by rw [show ob + 64 * 1 = ob + 64 + 0 * 1 by omega]; exact Mur.byt_cell hb64 0 (by omega))) ?_
  refine Wk.rPure 6 (some 17) (.int .i64 (((E.getD 0 0).toNat : Nat) : Int)) rfl rfl (by kernel_rfl) (Mur.conv_int 5 3 (.tmp 16) rfl (by kernel_rfl) .i64 Tryd.underlying3 .u8 (((E.getD 0 0).toNat : Nat) : Int) (by kernel_rfl) (Mur.i64_nat (by omega))) ?_
  refine Wk.rPure 7 (some 18) (.int .i64 ((0 + (E.getD 0 0).toNat : Nat) : Int)) rfl rfl (by kernel_rfl) (Wk.int64 (n := 0 + (((E.getD 0 0).toNat : Nat) : Int)) (z := ((0 + (E.getD 0 0).toNat : Nat) : Int)) (by omega) (by omega) (by omega) (by kernel_rfl)) ?_
  refine Wk.rPure 8 (some 3) (.int .i64 ((0 + (E.getD 0 0).toNat : Nat) : Int)) rfl rfl (by kernel_rfl) (by kernel_rfl) ?_
  refine Wk.rEnd 9 rfl ?_
  refine Wk.inN ?_
  refine Wk.nxt ?_
  refine Wk.reg ?_
  refine Wk.rPure 0 (some 7) (.int .i64 64) rfl rfl (by kernel_rfl) (by kernel_rfl) ?_
  refine Wk.rPure 1 (some 8) (.int .i64 65) rfl rfl (by kernel_rfl) (Wk.int64 (n := 64 + 1) (z := 65) (by omega) (by omega) (by omega) (by kernel_rfl)) ?_
  refine Wk.rPure 2 (some 4) (.int .i64 65) rfl rfl (by kernel_rfl) (by kernel_rfl) ?_
  refine Wk.rEnd 3 rfl ?_
  refine Wk.nxt ?_
  refine Wk.rdS ?_
  refine wp_seq ?_
  refine wp_seq ?_
  refine Wk.reg ?_
  refine Wk.rPure 0 (some 5) (.int .i64 65) rfl rfl (by kernel_rfl) (by kernel_rfl) ?_
  refine Wk.rPure 1 (some 6) (.bool true) rfl rfl (by kernel_rfl) (Wk.boolT (b := decide ((65 : Int) < (72 : Int))) (decide_eq_true (by decide)) (by kernel_rfl)) ?_
  refine Wk.rEnd 2 rfl ?_
  refine Wk.nxt ?_
  refine wp_cond_true (by kernel_rfl) ?_
  refine wp_skip ?_
  refine Wk.nxt ?_
  refine wp_seq ?_
  refine wp_block ?_
  refine wp_seq ?_
  refine wp_seq ?_
  refine Wk.reg ?_
  refine Wk.rPure 0 (some 9) (.int .i64 ((0 + (E.getD 0 0).toNat : Nat) : Int)) rfl rfl (by kernel_rfl) (by kernel_rfl) ?_
  by_cases hx1 : ((0 + (E.getD 0 0).toNat : Nat) : Int) > (1099511627776 : Int)
  · refine Wk.rPure 1 (some 10) (.bool true) rfl rfl (by kernel_rfl) (Wk.boolT (b := decide (((0 + (E.getD 0 0).toNat : Nat) : Int) > (1099511627776 : Int))) (decide_eq_true (by first | exact hx1 | omega)) (by kernel_rfl)) ?_
    refine Wk.rEnd 2 rfl ?_
    refine Wk.nxt ?_
    refine wp_cond_true (by kernel_rfl) ?_
    refine wp_seq ?_
    refine Wk.reg ?_
    refine Wk.rPure 0 (some 2) (.bool false) rfl rfl (by kernel_rfl) (by kernel_rfl) ?_
    refine Wk.rEnd 1 rfl ?_
    refine Wk.nxt ?_
    refine wp_ret ?_
    refine Wk.thR ?_
    refine Wk.inR ?_
    refine Wk.thR ?_
    refine Wk.thR ?_
    refine Wk.inR ?_
    refine Wk.thR ?_
    refine Wk.ret (.bool false) rfl (by kernel_rfl) ?_
    exact ⟨by rw [decide_eq_false (show ¬ (1 ≤ V ∧ V ≤ 5000) by unfold Mur.be8 at hV; omega)], rfl⟩
  · refine Wk.rPure 1 (some 10) (.bool false) rfl rfl (by kernel_rfl) (Wk.boolF (b := decide (((0 + (E.getD 0 0).toNat : Nat) : Int) > (1099511627776 : Int))) (decide_eq_false (by first | exact hx1 | omega)) (by kernel_rfl)) ?_
    refine Wk.rEnd 2 rfl ?_
    refine Wk.nxt ?_
    refine wp_cond_false (by kernel_rfl) ?_
    refine wp_skip ?_
    refine Wk.nxt ?_
    refine Wk.reg ?_
    refine Wk.rPure 0 (some 11) (.int .i64 ((0 + (E.getD 0 0).toNat : Nat) : Int)) rfl rfl (by kernel_rfl) (by kernel_rfl) ?_
    refine Wk.rPure 1 (some 12) (.int .i64 (((0 + (E.getD 0 0).toNat) * 256 : Nat) : Int)) rfl rfl (by kernel_rfl) (Wk.int64 (n := ((0 + (E.getD 0 0).toNat : Nat) : Int) * 256) (z := (((0 + (E.getD 0 0).toNat) * 256 : Nat) : Int)) (by omega) (by omega) (by omega) (by kernel_rfl)) ?_
    refine Wk.rPure 2 (some 13) (.slice (some ⟨gb, ob, none⟩) 104 c) rfl rfl (by kernel_rfl) (by kernel_rfl) ?_
    refine Wk.rPure 3 (some 14) (.int .i64 65) rfl rfl (by kernel_rfl) (by kernel_rfl) ?_
    refine Wk.rPure 4 (some 15) (.pointer (some ⟨gb, ob + 65 * 1, none⟩)) rfl rfl (by kernel_rfl) (Wk.index_sl 22 5 (.tmp 13) (.tmp 14) rfl Tryd.underlying22 1 (by kernel_rfl) gb ob 104 c 65 .i64 (by kernel_rfl) (by kernel_rfl) (by omega)) ?_
    refine Wk.rPure 5 (some 16) (.int .u8 (((E.getD 1 0).toNat : Nat) : Int)) rfl rfl (by kernel_rfl) (Wk.load1 5 (.tmp 15) rfl (by kernel_rfl) ⟨gb, ob + 65 * 1, none⟩ (by kernel_rfl) (.int .u8 (((E.getD 1 0).toNat : Nat) : Int)) (by rw [show ob + 65 * 1 = ob + 64 + 1 * 1 by omega]; exact Mur.byt_cell hb64 1 (by omega))) ?_
    refine Wk.rPure 6 (some 17) (.int .i64 (((E.getD 1 0).toNat : Nat) : Int)) rfl rfl (by kernel_rfl) (Mur.conv_int 5 3 (.tmp 16) rfl (by kernel_rfl) .i64 Tryd.underlying3 .u8 (((E.getD 1 0).toNat : Nat) : Int) (by kernel_rfl) (Mur.i64_nat (by omega))) ?_
    refine Wk.rPure 7 (some 18) (.int .i64 (((0 + (E.getD 0 0).toNat) * 256 + (E.getD 1 0).toNat : Nat) : Int)) rfl rfl (by kernel_rfl) (Wk.int64 (n := (((0 + (E.getD 0 0).toNat) * 256 : Nat) : Int) + (((E.getD 1 0).toNat : Nat) : Int)) (z := (((0 + (E.getD 0 0).toNat) * 256 + (E.getD 1 0).toNat : Nat) : Int)) (by omega) (by omega) (by omega) (by kernel_rfl)) ?_
    refine Wk.rPure 8 (some 3) (.int .i64 (((0 + (E.getD 0 0).toNat) * 256 + (E.getD 1 0).toNat : Nat) : Int)) rfl rfl (by kernel_rfl) (by kernel_rfl) ?_
    refine Wk.rEnd 9 rfl ?_
    refine Wk.inN ?_
    refine Wk.nxt ?_
    refine Wk.reg ?_
    refine Wk.rPure 0 (some 7) (.int .i64 65) rfl rfl (by kernel_rfl) (by kernel_rfl) ?_
    refine Wk.rPure 1 (some 8) (.int .i64 66) rfl rfl (by kernel_rfl) (Wk.int64 (n := 65 + 1) (z := 66) (by omega) (by omega) (by omega) (by kernel_rfl)) ?_
    refine Wk.rPure 2 (some 4) (.int .i64 66) rfl rfl (by kernel_rfl) (by kernel_rfl) ?_
    refine Wk.rEnd 3 rfl ?_
    refine Wk.nxt ?_
    refine Wk.rdS ?_
    refine wp_seq ?_
    refine wp_seq ?_
    refine Wk.reg ?_
    refine Wk.rPure 0 (some 5) (.int .i64 66) rfl rfl (by kernel_rfl) (by kernel_rfl) ?_
    refine Wk.rPure 1 (some 6) (.bool true) rfl rfl (by kernel_rfl) (Wk.boolT (b := decide ((66 : Int) < (72 : Int))) (decide_eq_true (by decide)) (by kernel_rfl)) ?_
    refine Wk.rEnd 2 rfl ?_
    refine Wk.nxt ?_
    refine wp_cond_true (by kernel_rfl) ?_
    refine wp_skip ?_
    refine Wk.nxt ?_
    refine wp_seq ?_
    refine wp_block ?_
    refine wp_seq ?_
    refine wp_seq ?_
    refine Wk.reg ?_
    refine Wk.rPure 0 (some 9) (.int .i64 (((0 + (E.getD 0 0).toNat) * 256 + (E.getD 1 0).toNat : Nat) : Int)) rfl rfl (by kernel_rfl) (by kernel_rfl) ?_
    by_cases hx2 : (((0 + (E.getD 0 0).toNat) * 256 + (E.getD 1 0).toNat : Nat) : Int) > (1099511627776 : Int)
    · refine Wk.rPure 1 (some 10) (.bool true) rfl rfl (by kernel_rfl) (Wk.boolT (b := decide ((((0 + (E.getD 0 0).toNat) * 256 + (E.getD 1 0).toNat : Nat) : Int) > (1099511627776 : Int))) (decide_eq_true (by first | exact hx2 | omega)) (by kernel_rfl)) ?_
      refine Wk.rEnd 2 rfl ?_
      refine Wk.nxt ?_
      refine wp_cond_true (by kernel_rfl) ?_
      refine wp_seq ?_
      refine Wk.reg ?_
      refine Wk.rPure 0 (some 2) (.bool false) rfl rfl (by kernel_rfl) (by kernel_rfl) ?_
      refine Wk.rEnd 1 rfl ?_
      refine Wk.nxt ?_
      refine wp_ret ?_
      refine Wk.thR ?_
      refine Wk.inR ?_
      refine Wk.thR ?_
      refine Wk.thR ?_
      refine Wk.inR ?_
      refine Wk.thR ?_
      refine Wk.ret (.bool false) rfl (by kernel_rfl) ?_
      exact ⟨by rw [decide_eq_false (show ¬ (1 ≤ V ∧ V ≤ 5000) by unfold Mur.be8 at hV; omega)], rfl⟩
    · refine Wk.rPure 1 (some 10) (.bool false) rfl rfl (by kernel_rfl) (Wk.boolF (b := decide ((((0 + (E.getD 0 0).toNat) * 256 + (E.getD 1 0).toNat : Nat) : Int) > (1099511627776 : Int))) (decide_eq_false (by first | exact hx2 | omega)) (by kernel_rfl)) ?_
      refine Wk.rEnd 2 rfl ?_
      refine Wk.nxt ?_
      refine wp_cond_false (by kernel_rfl) ?_
      refine wp_skip ?_
      refine Wk.nxt ?_
      refine Wk.reg ?_
      refine Wk.rPure 0 (some 11) (.int .i64 (((0 + (E.getD 0 0).toNat) * 256 + (E.getD 1 0).toNat : Nat) : Int)) rfl rfl (by kernel_rfl) (by kernel_rfl) ?_
      refine Wk.rPure 1 (some 12) (.int .i64 ((((0 + (E.getD 0 0).toNat) * 256 + (E.getD 1 0).toNat) * 256 : Nat) : Int)) rfl rfl (by kernel_rfl) (Wk.int64 (n := (((0 + (E.getD 0 0).toNat) * 256 + (E.getD 1 0).toNat : Nat) : Int) * 256) (z := ((((0 + (E.getD 0 0).toNat) * 256 + (E.getD 1 0).toNat) * 256 : Nat) : Int)) (by omega) (by omega) (by omega) (by kernel_rfl)) ?_
      refine Wk.rPure 2 (some 13) (.slice (some ⟨gb, ob, none⟩) 104 c) rfl rfl (by kernel_rfl) (by kernel_rfl) ?_
      refine Wk.rPure 3 (some 14) (.int .i64 66) rfl rfl (by kernel_rfl) (by kernel_rfl) ?_
      refine Wk.rPure 4 (some 15) (.pointer (some ⟨gb, ob + 66 * 1, none⟩)) rfl rfl (by kernel_rfl) (Wk.index_sl 22 5 (.tmp 13) (.tmp 14) rfl Tryd.underlying22 1 (by kernel_rfl) gb ob 104 c 66 .i64 (by kernel_rfl) (by kernel_rfl) (by omega)) ?_
      refine Wk.rPure 5 (some 16) (.int .u8 (((E.getD 2 0).toNat : Nat) : Int)) rfl rfl (by kernel_rfl) (Wk.load1 5 (.tmp 15) rfl (by kernel_rfl) ⟨gb, ob + 66 * 1, none⟩ (by kernel_rfl) (.int .u8 (((E.getD 2 0).toNat : Nat) : Int)) (by rw [show ob + 66 * 1 = ob + 64 + 2 * 1 by omega]; exact Mur.byt_cell hb64 2 (by omega))) ?_
      refine Wk.rPure 6 (some 17) (.int .i64 (((E.getD 2 0).toNat : Nat) : Int)) rfl rfl (by kernel_rfl) (Mur.conv_int 5 3 (.tmp 16) rfl (by kernel_rfl) .i64 Tryd.underlying3 .u8 (((E.getD 2 0).toNat : Nat) : Int) (by kernel_rfl) (Mur.i64_nat (by omega))) ?_
      refine Wk.rPure 7 (some 18) (.int .i64 ((((0 + (E.getD 0 0).toNat) * 256 + (E.getD 1 0).toNat) * 256 + (E.getD 2 0).toNat : Nat) : Int)) rfl rfl (by kernel_rfl) (Wk.int64 (n := ((((0 + (E.getD 0 0).toNat) * 256 + (E.getD 1 0).toNat) * 256 : Nat) : Int) + (((E.getD 2 0).toNat : Nat) : Int)) (z := ((((0 + (E.getD 0 0).toNat) * 256 + (E.getD 1 0).toNat) * 256 + (E.getD 2 0).toNat : Nat) : Int)) (by omega) (by omega) (by omega) (by kernel_rfl)) ?_
      refine Wk.rPure 8 (some 3) (.int .i64 ((((0 + (E.getD 0 0).toNat) * 256 + (E.getD 1 0).toNat) * 256 + (E.getD 2 0).toNat : Nat) : Int)) rfl rfl (by kernel_rfl) (by kernel_rfl) ?_
      refine Wk.rEnd 9 rfl ?_
      refine Wk.inN ?_
      refine Wk.nxt ?_
      refine Wk.reg ?_
      refine Wk.rPure 0 (some 7) (.int .i64 66) rfl rfl (by kernel_rfl) (by kernel_rfl) ?_
      refine Wk.rPure 1 (some 8) (.int .i64 67) rfl rfl (by kernel_rfl) (Wk.int64 (n := 66 + 1) (z := 67) (by omega) (by omega) (by omega) (by kernel_rfl)) ?_
      refine Wk.rPure 2 (some 4) (.int .i64 67) rfl rfl (by kernel_rfl) (by kernel_rfl) ?_
      refine Wk.rEnd 3 rfl ?_
      refine Wk.nxt ?_
      refine Wk.rdS ?_
      refine wp_seq ?_
      refine wp_seq ?_
      refine Wk.reg ?_
      refine Wk.rPure 0 (some 5) (.int .i64 67) rfl rfl (by kernel_rfl) (by kernel_rfl) ?_
      refine Wk.rPure 1 (some 6) (.bool true) rfl rfl (by kernel_rfl) (Wk.boolT (b := decide ((67 : Int) < (72 : Int))) (decide_eq_true (by decide)) (by kernel_rfl)) ?_
      refine Wk.rEnd 2 rfl ?_
      refine Wk.nxt ?_
      refine wp_cond_true (by kernel_rfl) ?_
      refine wp_skip ?_
      refine Wk.nxt ?_
      refine wp_seq ?_
      refine wp_block ?_
      refine wp_seq ?_
      refine wp_seq ?_
      refine Wk.reg ?_
      refine Wk.rPure 0 (some 9) (.int .i64 ((((0 + (E.getD 0 0).toNat) * 256 + (E.getD 1 0).toNat) * 256 + (E.getD 2 0).toNat : Nat) : Int)) rfl rfl (by kernel_rfl) (by kernel_rfl) ?_
      by_cases hx3 : ((((0 + (E.getD 0 0).toNat) * 256 + (E.getD 1 0).toNat) * 256 + (E.getD 2 0).toNat : Nat) : Int) > (1099511627776 : Int)
      · refine Wk.rPure 1 (some 10) (.bool true) rfl rfl (by kernel_rfl) (Wk.boolT (b := decide (((((0 + (E.getD 0 0).toNat) * 256 + (E.getD 1 0).toNat) * 256 + (E.getD 2 0).toNat : Nat) : Int) > (1099511627776 : Int))) (decide_eq_true (by first | exact hx3 | omega)) (by kernel_rfl)) ?_
        refine Wk.rEnd 2 rfl ?_
        refine Wk.nxt ?_
        refine wp_cond_true (by kernel_rfl) ?_
        refine wp_seq ?_
        refine Wk.reg ?_
        refine Wk.rPure 0 (some 2) (.bool false) rfl rfl (by kernel_rfl) (by kernel_rfl) ?_
        refine Wk.rEnd 1 rfl ?_
        refine Wk.nxt ?_
        refine wp_ret ?_
        refine Wk.thR ?_
        refine Wk.inR ?_
        refine Wk.thR ?_
        refine Wk.thR ?_
        refine Wk.inR ?_
        refine Wk.thR ?_
        refine Wk.ret (.bool false) rfl (by kernel_rfl) ?_
        exact ⟨by rw [decide_eq_false (show ¬ (1 ≤ V ∧ V ≤ 5000) by unfold Mur.be8 at hV; omega)], rfl⟩
      · refine Wk.rPure 1 (some 10) (.bool false) rfl rfl (by kernel_rfl) (Wk.boolF (b := decide (((((0 + (E.getD 0 0).toNat) * 256 + (E.getD 1 0).toNat) * 256 + (E.getD 2 0).toNat : Nat) : Int) > (1099511627776 : Int))) (decide_eq_false (by first | exact hx3 | omega)) (by kernel_rfl)) ?_
        refine Wk.rEnd 2 rfl ?_
        refine Wk.nxt ?_
        refine wp_cond_false (by kernel_rfl) ?_
        refine wp_skip ?_
        refine Wk.nxt ?_
        refine Wk.reg ?_
        refine Wk.rPure 0 (some 11) (.int .i64 ((((0 + (E.getD 0 0).toNat) * 256 + (E.getD 1 0).toNat) * 256 + (E.getD 2 0).toNat : Nat) : Int)) rfl rfl (by kernel_rfl) (by kernel_rfl) ?_
        refine Wk.rPure 1 (some 12) (.int .i64 (((((0 + (E.getD 0 0).toNat) * 256 + (E.getD 1 0).toNat) * 256 + (E.getD 2 0).toNat) * 256 : Nat) : Int)) rfl rfl (by kernel_rfl) (Wk.int64 (n := ((((0 + (E.getD 0 0).toNat) * 256 + (E.getD 1 0).toNat) * 256 + (E.getD 2 0).toNat : Nat) : Int) * 256) (z := (((((0 + (E.getD 0 0).toNat) * 256 + (E.getD 1 0).toNat) * 256 + (E.getD 2 0).toNat) * 256 : Nat) : Int)) (by omega) (by omega) (by omega) (by kernel_rfl)) ?_
        refine Wk.rPure 2 (some 13) (.slice (some ⟨gb, ob, none⟩) 104 c) rfl rfl (by kernel_rfl) (by kernel_rfl) ?_
        refine Wk.rPure 3 (some 14) (.int .i64 67) rfl rfl (by kernel_rfl) (by kernel_rfl) ?_
        refine Wk.rPure 4 (some 15) (.pointer (some ⟨gb, ob + 67 * 1, none⟩)) rfl rfl (by kernel_rfl) (Wk.index_sl 22 5 (.tmp 13) (.tmp 14) rfl Tryd.underlying22 1 (by kernel_rfl) gb ob 104 c 67 .i64 (by kernel_rfl) (by kernel_rfl) (by omega)) ?_
        refine Wk.rPure 5 (some 16) (.int .u8 (((E.getD 3 0).toNat : Nat) : Int)) rfl rfl (by kernel_rfl) (Wk.load1 5 (.tmp 15) rfl (by kernel_rfl) ⟨gb, ob + 67 * 1, none⟩ (by kernel_rfl) (.int .u8 (((E.getD 3 0).toNat : Nat) : Int)) (by rw [show ob + 67 * 1 = ob + 64 + 3 * 1 by omega]; exact Mur.byt_cell hb64 3 (by omega))) ?_
        refine Wk.rPure 6 (some 17) (.int .i64 (((E.getD 3 0).toNat : Nat) : Int)) rfl rfl (by kernel_rfl) (Mur.conv_int 5 3 (.tmp 16) rfl (by kernel_rfl) .i64 Tryd.underlying3 .u8 (((E.getD 3 0).toNat : Nat) : Int) (by kernel_rfl) (Mur.i64_nat (by omega))) ?_
        refine Wk.rPure 7 (some 18) (.int .i64 (((((0 + (E.getD 0 0).toNat) * 256 + (E.getD 1 0).toNat) * 256 + (E.getD 2 0).toNat) * 256 + (E.getD 3 0).toNat : Nat) : Int)) rfl rfl (by kernel_rfl) (Wk.int64 (n := (((((0 + (E.getD 0 0).toNat) * 256 + (E.getD 1 0).toNat) * 256 + (E.getD 2 0).toNat) * 256 : Nat) : Int) + (((E.getD 3 0).toNat : Nat) : Int)) (z := (((((0 + (E.getD 0 0).toNat) * 256 + (E.getD 1 0).toNat) * 256 + (E.getD 2 0).toNat) * 256 + (E.getD 3 0).toNat : Nat) : Int)) (by omega) (by omega) (by omega) (by kernel_rfl)) ?_
        refine Wk.rPure 8 (some 3) (.int .i64 (((((0 + (E.getD 0 0).toNat) * 256 + (E.getD 1 0).toNat) * 256 + (E.getD 2 0).toNat) * 256 + (E.getD 3 0).toNat : Nat) : Int)) rfl rfl (by kernel_rfl) (by kernel_rfl) ?_
        refine Wk.rEnd 9 rfl ?_
        refine Wk.inN ?_
        refine Wk.nxt ?_
        refine Wk.reg ?_
        refine Wk.rPure 0 (some 7) (.int .i64 67) rfl rfl (by kernel_rfl) (by kernel_rfl) ?_
        refine Wk.rPure 1 (some 8) (.int .i64 68) rfl rfl (by kernel_rfl) (Wk.int64 (n := 67 + 1) (z := 68) (by omega) (by omega) (by omega) (by kernel_rfl)) ?_
        refine Wk.rPure 2 (some 4) (.int .i64 68) rfl rfl (by kernel_rfl) (by kernel_rfl) ?_
        refine Wk.rEnd 3 rfl ?_
        refine Wk.nxt ?_
        refine Wk.rdS ?_
        refine wp_seq ?_
        refine wp_seq ?_
        refine Wk.reg ?_
        refine Wk.rPure 0 (some 5) (.int .i64 68) rfl rfl (by kernel_rfl) (by kernel_rfl) ?_
        refine Wk.rPure 1 (some 6) (.bool true) rfl rfl (by kernel_rfl) (Wk.boolT (b := decide ((68 : Int) < (72 : Int))) (decide_eq_true (by decide)) (by kernel_rfl)) ?_
        refine Wk.rEnd 2 rfl ?_
        refine Wk.nxt ?_
        refine wp_cond_true (by kernel_rfl) ?_
        refine wp_skip ?_
        refine Wk.nxt ?_
        refine wp_seq ?_
        refine wp_block ?_
        refine wp_seq ?_
        refine wp_seq ?_
        refine Wk.reg ?_
        refine Wk.rPure 0 (some 9) (.int .i64 (((((0 + (E.getD 0 0).toNat) * 256 + (E.getD 1 0).toNat) * 256 + (E.getD 2 0).toNat) * 256 + (E.getD 3 0).toNat : Nat) : Int)) rfl rfl (by kernel_rfl) (by kernel_rfl) ?_
        by_cases hx4 : (((((0 + (E.getD 0 0).toNat) * 256 + (E.getD 1 0).toNat) * 256 + (E.getD 2 0).toNat) * 256 + (E.getD 3 0).toNat : Nat) : Int) > (1099511627776 : Int)
        · refine Wk.rPure 1 (some 10) (.bool true) rfl rfl (by kernel_rfl) (Wk.boolT (b := decide ((((((0 + (E.getD 0 0).toNat) * 256 + (E.getD 1 0).toNat) * 256 + (E.getD 2 0).toNat) * 256 + (E.getD 3 0).toNat : Nat) : Int) > (1099511627776 : Int))) (decide_eq_true (by first | exact hx4 | omega)) (by kernel_rfl)) ?_
          refine Wk.rEnd 2 rfl ?_
          refine Wk.nxt ?_
          refine wp_cond_true (by kernel_rfl) ?_
          refine wp_seq ?_
          refine Wk.reg ?_
          refine Wk.rPure 0 (some 2) (.bool false) rfl rfl (by kernel_rfl) (by kernel_rfl) ?_
          refine Wk.rEnd 1 rfl ?_
          refine Wk.nxt ?_
          refine wp_ret ?_
          refine Wk.thR ?_
          refine Wk.inR ?_
          refine Wk.thR ?_
          refine Wk.thR ?_
          refine Wk.inR ?_
          refine Wk.thR ?_
          refine Wk.ret (.bool false) rfl (by kernel_rfl) ?_
          exact ⟨by rw [decide_eq_false (show ¬ (1 ≤ V ∧ V ≤ 5000) by unfold Mur.be8 at hV; omega)], rfl⟩
        · refine Wk.rPure 1 (some 10) (.bool false) rfl rfl (by kernel_rfl) (Wk.boolF (b := decide ((((((0 + (E.getD 0 0).toNat) * 256 + (E.getD 1 0).toNat) * 256 + (E.getD 2 0).toNat) * 256 + (E.getD 3 0).toNat : Nat) : Int) > (1099511627776 : Int))) (decide_eq_false (by first | exact hx4 | omega)) (by kernel_rfl)) ?_
          refine Wk.rEnd 2 rfl ?_
          refine Wk.nxt ?_
          refine wp_cond_false (by kernel_rfl) ?_
          refine wp_skip ?_
          refine Wk.nxt ?_
          refine Wk.reg ?_
          refine Wk.rPure 0 (some 11) (.int .i64 (((((0 + (E.getD 0 0).toNat) * 256 + (E.getD 1 0).toNat) * 256 + (E.getD 2 0).toNat) * 256 + (E.getD 3 0).toNat : Nat) : Int)) rfl rfl (by kernel_rfl) (by kernel_rfl) ?_
          refine Wk.rPure 1 (some 12) (.int .i64 ((((((0 + (E.getD 0 0).toNat) * 256 + (E.getD 1 0).toNat) * 256 + (E.getD 2 0).toNat) * 256 + (E.getD 3 0).toNat) * 256 : Nat) : Int)) rfl rfl (by kernel_rfl) (Wk.int64 (n := (((((0 + (E.getD 0 0).toNat) * 256 + (E.getD 1 0).toNat) * 256 + (E.getD 2 0).toNat) * 256 + (E.getD 3 0).toNat : Nat) : Int) * 256) (z := ((((((0 + (E.getD 0 0).toNat) * 256 + (E.getD 1 0).toNat) * 256 + (E.getD 2 0).toNat) * 256 + (E.getD 3 0).toNat) * 256 : Nat) : Int)) (by omega) (by omega) (by omega) (by kernel_rfl)) ?_
          refine Wk.rPure 2 (some 13) (.slice (some ⟨gb, ob, none⟩) 104 c) rfl rfl (by kernel_rfl) (by kernel_rfl) ?_
          refine Wk.rPure 3 (some 14) (.int .i64 68) rfl rfl (by kernel_rfl) (by kernel_rfl) ?_
          refine Wk.rPure 4 (some 15) (.pointer (some ⟨gb, ob + 68 * 1, none⟩)) rfl rfl (by kernel_rfl) (Wk.index_sl 22 5 (.tmp 13) (.tmp 14) rfl Tryd.underlying22 1 (by kernel_rfl) gb ob 104 c 68 .i64 (by kernel_rfl) (by kernel_rfl) (by omega)) ?_
          refine Wk.rPure 5 (some 16) (.int .u8 (((E.getD 4 0).toNat : Nat) : Int)) rfl rfl (by kernel_rfl) (Wk.load1 5 (.tmp 15) rfl (by kernel_rfl) ⟨gb, ob + 68 * 1, none⟩ (by kernel_rfl) (.int .u8 (((E.getD 4 0).toNat : Nat) : Int)) (by rw [show ob + 68 * 1 = ob + 64 + 4 * 1 by omega]; exact Mur.byt_cell hb64 4 (by omega))) ?_
          refine Wk.rPure 6 (some 17) (.int .i64 (((E.getD 4 0).toNat : Nat) : Int)) rfl rfl (by kernel_rfl) (Mur.conv_int 5 3 (.tmp 16) rfl (by kernel_rfl) .i64 Tryd.underlying3 .u8 (((E.getD 4 0).toNat : Nat) : Int) (by kernel_rfl) (Mur.i64_nat (by omega))) ?_
          refine Wk.rPure 7 (some 18) (.int .i64 ((((((0 + (E.getD 0 0).toNat) * 256 + (E.getD 1 0).toNat) * 256 + (E.getD 2 0).toNat) * 256 + (E.getD 3 0).toNat) * 256 + (E.getD 4 0).toNat : Nat) : Int)) rfl rfl (by kernel_rfl) (Wk.int64 (n := ((((((0 + (E.getD 0 0).toNat) * 256 + (E.getD 1 0).toNat) * 256 + (E.getD 2 0).toNat) * 256 + (E.getD 3 0).toNat) * 256 : Nat) : Int) + (((E.getD 4 0).toNat : Nat) : Int)) (z := ((((((0 + (E.getD 0 0).toNat) * 256 + (E.getD 1 0).toNat) * 256 + (E.getD 2 0).toNat) * 256 + (E.getD 3 0).toNat) * 256 + (E.getD 4 0).toNat : Nat) : Int)) (by omega) (by omega) (by omega) (by kernel_rfl)) ?_
          refine Wk.rPure 8 (some 3) (.int .i64 ((((((0 + (E.getD 0 0).toNat) * 256 + (E.getD 1 0).toNat) * 256 + (E.getD 2 0).toNat) * 256 + (E.getD 3 0).toNat) * 256 + (E.getD 4 0).toNat : Nat) : Int)) rfl rfl (by kernel_rfl) (by kernel_rfl) ?_
          refine Wk.rEnd 9 rfl ?_
          refine Wk.inN ?_
          refine Wk.nxt ?_
          refine Wk.reg ?_
          refine Wk.rPure 0 (some 7) (.int .i64 68) rfl rfl (by kernel_rfl) (by kernel_rfl) ?_
          refine Wk.rPure 1 (some 8) (.int .i64 69) rfl rfl (by kernel_rfl) (Wk.int64 (n := 68 + 1) (z := 69) (by omega) (by omega) (by omega) (by kernel_rfl)) ?_
          refine Wk.rPure 2 (some 4) (.int .i64 69) rfl rfl (by kernel_rfl) (by kernel_rfl) ?_
          refine Wk.rEnd 3 rfl ?_
          refine Wk.nxt ?_
          refine Wk.rdS ?_
          refine wp_seq ?_
          refine wp_seq ?_
          refine Wk.reg ?_
          refine Wk.rPure 0 (some 5) (.int .i64 69) rfl rfl (by kernel_rfl) (by kernel_rfl) ?_
          refine Wk.rPure 1 (some 6) (.bool true) rfl rfl (by kernel_rfl) (Wk.boolT (b := decide ((69 : Int) < (72 : Int))) (decide_eq_true (by decide)) (by kernel_rfl)) ?_
          refine Wk.rEnd 2 rfl ?_
          refine Wk.nxt ?_
          refine wp_cond_true (by kernel_rfl) ?_
          refine wp_skip ?_
          refine Wk.nxt ?_
          refine wp_seq ?_
          refine wp_block ?_
          refine wp_seq ?_
          refine wp_seq ?_
          refine Wk.reg ?_
          refine Wk.rPure 0 (some 9) (.int .i64 ((((((0 + (E.getD 0 0).toNat) * 256 + (E.getD 1 0).toNat) * 256 + (E.getD 2 0).toNat) * 256 + (E.getD 3 0).toNat) * 256 + (E.getD 4 0).toNat : Nat) : Int)) rfl rfl (by kernel_rfl) (by kernel_rfl) ?_
          by_cases hx5 : ((((((0 + (E.getD 0 0).toNat) * 256 + (E.getD 1 0).toNat) * 256 + (E.getD 2 0).toNat) * 256 + (E.getD 3 0).toNat) * 256 + (E.getD 4 0).toNat : Nat) : Int) > (1099511627776 : Int)
          · refine Wk.rPure 1 (some 10) (.bool true) rfl rfl (by kernel_rfl) (Wk.boolT (b := decide (((((((0 + (E.getD 0 0).toNat) * 256 + (E.getD 1 0).toNat) * 256 + (E.getD 2 0).toNat) * 256 + (E.getD 3 0).toNat) * 256 + (E.getD 4 0).toNat : Nat) : Int) > (1099511627776 : Int))) (decide_eq_true (by first | exact hx5 | omega)) (by kernel_rfl)) ?_
            refine Wk.rEnd 2 rfl ?_
            refine Wk.nxt ?_
            refine wp_cond_true (by kernel_rfl) ?_
            refine wp_seq ?_
            refine Wk.reg ?_
            refine Wk.rPure 0 (some 2) (.bool false) rfl rfl (by kernel_rfl) (by kernel_rfl) ?_
            refine Wk.rEnd 1 rfl ?_
            refine Wk.nxt ?_
            refine wp_ret ?_
            refine Wk.thR ?_
            refine Wk.inR ?_
            refine Wk.thR ?_
            refine Wk.thR ?_
            refine Wk.inR ?_
            refine Wk.thR ?_
            refine Wk.ret (.bool false) rfl (by kernel_rfl) ?_
            exact ⟨by rw [decide_eq_false (show ¬ (1 ≤ V ∧ V ≤ 5000) by unfold Mur.be8 at hV; omega)], rfl⟩
          · refine Wk.rPure 1 (some 10) (.bool false) rfl rfl (by kernel_rfl) (Wk.boolF (b := decide (((((((0 + (E.getD 0 0).toNat) * 256 + (E.getD 1 0).toNat) * 256 + (E.getD 2 0).toNat) * 256 + (E.getD 3 0).toNat) * 256 + (E.getD 4 0).toNat : Nat) : Int) > (1099511627776 : Int))) (decide_eq_false (by first | exact hx5 | omega)) (by kernel_rfl)) ?_
            refine Wk.rEnd 2 rfl ?_
            refine Wk.nxt ?_
            refine wp_cond_false (by kernel_rfl) ?_
            refine wp_skip ?_
            refine Wk.nxt ?_
            refine Wk.reg ?_
            refine Wk.rPure 0 (some 11) (.int .i64 ((((((0 + (E.getD 0 0).toNat) * 256 + (E.getD 1 0).toNat) * 256 + (E.getD 2 0).toNat) * 256 + (E.getD 3 0).toNat) * 256 + (E.getD 4 0).toNat : Nat) : Int)) rfl rfl (by kernel_rfl) (by kernel_rfl) ?_
            refine Wk.rPure 1 (some 12) (.int .i64 (((((((0 + (E.getD 0 0).toNat) * 256 + (E.getD 1 0).toNat) * 256 + (E.getD 2 0).toNat) * 256 + (E.getD 3 0).toNat) * 256 + (E.getD 4 0).toNat) * 256 : Nat) : Int)) rfl rfl (by kernel_rfl) (Wk.int64 (n := ((((((0 + (E.getD 0 0).toNat) * 256 + (E.getD 1 0).toNat) * 256 + (E.getD 2 0).toNat) * 256 + (E.getD 3 0).toNat) * 256 + (E.getD 4 0).toNat : Nat) : Int) * 256) (z := (((((((0 + (E.getD 0 0).toNat) * 256 + (E.getD 1 0).toNat) * 256 + (E.getD 2 0).toNat) * 256 + (E.getD 3 0).toNat) * 256 + (E.getD 4 0).toNat) * 256 : Nat) : Int)) (by omega) (by omega) (by omega) (by kernel_rfl)) ?_
            refine Wk.rPure 2 (some 13) (.slice (some ⟨gb, ob, none⟩) 104 c) rfl rfl (by kernel_rfl) (by kernel_rfl) ?_
            refine Wk.rPure 3 (some 14) (.int .i64 69) rfl rfl (by kernel_rfl) (by kernel_rfl) ?_
            refine Wk.rPure 4 (some 15) (.pointer (some ⟨gb, ob + 69 * 1, none⟩)) rfl rfl (by kernel_rfl) (Wk.index_sl 22 5 (.tmp 13) (.tmp 14) rfl Tryd.underlying22 1 (by kernel_rfl) gb ob 104 c 69 .i64 (by kernel_rfl) (by kernel_rfl) (by omega)) ?_
            refine Wk.rPure 5 (some 16) (.int .u8 (((E.getD 5 0).toNat : Nat) : Int)) rfl rfl (by kernel_rfl) (Wk.load1 5 (.tmp 15) rfl (by kernel_rfl) ⟨gb, ob + 69 * 1, none⟩ (by kernel_rfl) (.int .u8 (((E.getD 5 0).toNat : Nat) : Int)) (by rw [show ob + 69 * 1 = ob + 64 + 5 * 1 by omega]; exact Mur.byt_cell hb64 5 (by omega))) ?_
            refine Wk.rPure 6 (some 17) (.int .i64 (((E.getD 5 0).toNat : Nat) : Int)) rfl rfl (by kernel_rfl) (Mur.conv_int 5 3 (.tmp 16) rfl (by kernel_rfl) .i64 Tryd.underlying3 .u8 (((E.getD 5 0).toNat : Nat) : Int) (by kernel_rfl) (Mur.i64_nat (by omega))) ?_
            refine Wk.rPure 7 (some 18) (.int .i64 (((((((0 + (E.getD 0 0).toNat) * 256 + (E.getD 1 0).toNat) * 256 + (E.getD 2 0).toNat) * 256 + (E.getD 3 0).toNat) * 256 + (E.getD 4 0).toNat) * 256 + (E.getD 5 0).toNat : Nat) : Int)) rfl rfl (by kernel_rfl) (Wk.int64 (n := (((((((0 + (E.getD 0 0).toNat) * 256 + (E.getD 1 0).toNat) * 256 + (E.getD 2 0).toNat) * 256 + (E.getD 3 0).toNat) * 256 + (E.getD 4 0).toNat) * 256 : Nat) : Int) + (((E.getD 5 0).toNat : Nat) : Int)) (z := (((((((0 + (E.getD 0 0).toNat) * 256 + (E.getD 1 0).toNat) * 256 + (E.getD 2 0).toNat) * 256 + (E.getD 3 0).toNat) * 256 + (E.getD 4 0).toNat) * 256 + (E.getD 5 0).toNat : Nat) : Int)) (by omega) (by omega) (by omega) (by kernel_rfl)) ?_
            refine Wk.rPure 8 (some 3) (.int .i64 (((((((0 + (E.getD 0 0).toNat) * 256 + (E.getD 1 0).toNat) * 256 + (E.getD 2 0).toNat) * 256 + (E.getD 3 0).toNat) * 256 + (E.getD 4 0).toNat) * 256 + (E.getD 5 0).toNat : Nat) : Int)) rfl rfl (by kernel_rfl) (by kernel_rfl) ?_
            refine Wk.rEnd 9 rfl ?_
            refine Wk.inN ?_
            refine Wk.nxt ?_
            refine Wk.reg ?_
            refine Wk.rPure 0 (some 7) (.int .i64 69) rfl rfl (by kernel_rfl) (by kernel_rfl) ?_
            refine Wk.rPure 1 (some 8) (.int .i64 70) rfl rfl (by kernel_rfl) (Wk.int64 (n := 69 + 1) (z := 70) (by omega) (by omega) (by omega) (by kernel_rfl)) ?_
            refine Wk.rPure 2 (some 4) (.int .i64 70) rfl rfl (by kernel_rfl) (by kernel_rfl) ?_
            refine Wk.rEnd 3 rfl ?_
            refine Wk.nxt ?_
            refine Wk.rdS ?_
            refine wp_seq ?_
            refine wp_seq ?_
            refine Wk.reg ?_
            refine Wk.rPure 0 (some 5) (.int .i64 70) rfl rfl (by kernel_rfl) (by kernel_rfl) ?_
            refine Wk.rPure 1 (some 6) (.bool true) rfl rfl (by kernel_rfl) (Wk.boolT (b := decide ((70 : Int) < (72 : Int))) (decide_eq_true (by decide)) (by kernel_rfl)) ?_
            refine Wk.rEnd 2 rfl ?_
            refine Wk.nxt ?_
            refine wp_cond_true (by kernel_rfl) ?_
            refine wp_skip ?_
            refine Wk.nxt ?_
            refine wp_seq ?_
            refine wp_block ?_
            refine wp_seq ?_
            refine wp_seq ?_
            refine Wk.reg ?_
            refine Wk.rPure 0 (some 9) (.int .i64 (((((((0 + (E.getD 0 0).toNat) * 256 + (E.getD 1 0).toNat) * 256 + (E.getD 2 0).toNat) * 256 + (E.getD 3 0).toNat) * 256 + (E.getD 4 0).toNat) * 256 + (E.getD 5 0).toNat : Nat) : Int)) rfl rfl (by kernel_rfl) (by kernel_rfl) ?_
            by_cases hx6 : (((((((0 + (E.getD 0 0).toNat) * 256 + (E.getD 1 0).toNat) * 256 + (E.getD 2 0).toNat) * 256 + (E.getD 3 0).toNat) * 256 + (E.getD 4 0).toNat) * 256 + (E.getD 5 0).toNat : Nat) : Int) > (1099511627776 : Int)
            · refine Wk.rPure 1 (some 10) (.bool true) rfl rfl (by kernel_rfl) (Wk.boolT (b := decide ((((((((0 + (E.getD 0 0).toNat) * 256 + (E.getD 1 0).toNat) * 256 + (E.getD 2 0).toNat) * 256 + (E.getD 3 0).toNat) * 256 + (E.getD 4 0).toNat) * 256 + (E.getD 5 0).toNat : Nat) : Int) > (1099511627776 : Int))) (decide_eq_true (by first | exact hx6 | omega)) (by kernel_rfl)) ?_
              refine Wk.rEnd 2 rfl ?_
              refine Wk.nxt ?_
              refine wp_cond_true (by kernel_rfl) ?_
              refine wp_seq ?_
              refine Wk.reg ?_
              refine Wk.rPure 0 (some 2) (.bool false) rfl rfl (by kernel_rfl) (by kernel_rfl) ?_
              refine Wk.rEnd 1 rfl ?_
              refine Wk.nxt ?_
              refine wp_ret ?_
              refine Wk.thR ?_
              refine Wk.inR ?_
              refine Wk.thR ?_
              refine Wk.thR ?_
              refine Wk.inR ?_
              refine Wk.thR ?_
              refine Wk.ret (.bool false) rfl (by kernel_rfl) ?_
              exact ⟨by rw [decide_eq_false (show ¬ (1 ≤ V ∧ V ≤ 5000) by unfold Mur.be8 at hV; omega)], rfl⟩
            · refine Wk.rPure 1 (some 10) (.bool false) rfl rfl (by kernel_rfl) (Wk.boolF (b := decide ((((((((0 + (E.getD 0 0).toNat) * 256 + (E.getD 1 0).toNat) * 256 + (E.getD 2 0).toNat) * 256 + (E.getD 3 0).toNat) * 256 + (E.getD 4 0).toNat) * 256 + (E.getD 5 0).toNat : Nat) : Int) > (1099511627776 : Int))) (decide_eq_false (by first | exact hx6 | omega)) (by kernel_rfl)) ?_
              refine Wk.rEnd 2 rfl ?_
              refine Wk.nxt ?_
              refine wp_cond_false (by kernel_rfl) ?_
              refine wp_skip ?_
              refine Wk.nxt ?_
              refine Wk.reg ?_
              refine Wk.rPure 0 (some 11) (.int .i64 (((((((0 + (E.getD 0 0).toNat) * 256 + (E.getD 1 0).toNat) * 256 + (E.getD 2 0).toNat) * 256 + (E.getD 3 0).toNat) * 256 + (E.getD 4 0).toNat) * 256 + (E.getD 5 0).toNat : Nat) : Int)) rfl rfl (by kernel_rfl) (by kernel_rfl) ?_
              refine Wk.rPure 1 (some 12) (.int .i64 ((((((((0 + (E.getD 0 0).toNat) * 256 + (E.getD 1 0).toNat) * 256 + (E.getD 2 0).toNat) * 256 + (E.getD 3 0).toNat) * 256 + (E.getD 4 0).toNat) * 256 + (E.getD 5 0).toNat) * 256 : Nat) : Int)) rfl rfl (by kernel_rfl) (Wk.int64 (n := (((((((0 + (E.getD 0 0).toNat) * 256 + (E.getD 1 0).toNat) * 256 + (E.getD 2 0).toNat) * 256 + (E.getD 3 0).toNat) * 256 + (E.getD 4 0).toNat) * 256 + (E.getD 5 0).toNat : Nat) : Int) * 256) (z := ((((((((0 + (E.getD 0 0).toNat) * 256 + (E.getD 1 0).toNat) * 256 + (E.getD 2 0).toNat) * 256 + (E.getD 3 0).toNat) * 256 + (E.getD 4 0).toNat) * 256 + (E.getD 5 0).toNat) * 256 : Nat) : Int)) (by omega) (by omega) (by omega) (by kernel_rfl)) ?_
              refine Wk.rPure 2 (some 13) (.slice (some ⟨gb, ob, none⟩) 104 c) rfl rfl (by kernel_rfl) (by kernel_rfl) ?_
              refine Wk.rPure 3 (some 14) (.int .i64 70) rfl rfl (by kernel_rfl) (by kernel_rfl) ?_
              refine Wk.rPure 4 (some 15) (.pointer (some ⟨gb, ob + 70 * 1, none⟩)) rfl rfl (by kernel_rfl) (Wk.index_sl 22 5 (.tmp 13) (.tmp 14) rfl Tryd.underlying22 1 (by kernel_rfl) gb ob 104 c 70 .i64 (by kernel_rfl) (by kernel_rfl) (by omega)) ?_
              refine Wk.rPure 5 (some 16) (.int .u8 (((E.getD 6 0).toNat : Nat) : Int)) rfl rfl (by kernel_rfl) (Wk.load1 5 (.tmp 15) rfl (by kernel_rfl) ⟨gb, ob + 70 * 1, none⟩ (by kernel_rfl) (.int .u8 (((E.getD 6 0).toNat : Nat) : Int)) (by rw [show ob + 70 * 1 = ob + 64 + 6 * 1 by omega]; exact Mur.byt_cell hb64 6 (by omega))) ?_
              refine Wk.rPure 6 (some 17) (.int .i64 (((E.getD 6 0).toNat : Nat) : Int)) rfl rfl (by kernel_rfl) (Mur.conv_int 5 3 (.tmp 16) rfl (by kernel_rfl) .i64 Tryd.underlying3 .u8 (((E.getD 6 0).toNat : Nat) : Int) (by kernel_rfl) (Mur.i64_nat (by omega))) ?_
              refine Wk.rPure 7 (some 18) (.int .i64 ((((((((0 + (E.getD 0 0).toNat) * 256 + (E.getD 1 0).toNat) * 256 + (E.getD 2 0).toNat) * 256 + (E.getD 3 0).toNat) * 256 + (E.getD 4 0).toNat) * 256 + (E.getD 5 0).toNat) * 256 + (E.getD 6 0).toNat : Nat) : Int)) rfl rfl (by kernel_rfl) (Wk.int64 (n := ((((((((0 + (E.getD 0 0).toNat) * 256 + (E.getD 1 0).toNat) * 256 + (E.getD 2 0).toNat) * 256 + (E.getD 3 0).toNat) * 256 + (E.getD 4 0).toNat) * 256 + (E.getD 5 0).toNat) * 256 : Nat) : Int) + (((E.getD 6 0).toNat : Nat) : Int)) (z := ((((((((0 + (E.getD 0 0).toNat) * 256 + (E.getD 1 0).toNat) * 256 + (E.getD 2 0).toNat) * 256 + (E.getD 3 0).toNat) * 256 + (E.getD 4 0).toNat) * 256 + (E.getD 5 0).toNat) * 256 + (E.getD 6 0).toNat : Nat) : Int)) (by omega) (by omega) (by omega) (by kernel_rfl)) ?_
              refine Wk.rPure 8 (some 3) (.int .i64 ((((((((0 + (E.getD 0 0).toNat) * 256 + (E.getD 1 0).toNat) * 256 + (E.getD 2 0).toNat) * 256 + (E.getD 3 0).toNat) * 256 + (E.getD 4 0).toNat) * 256 + (E.getD 5 0).toNat) * 256 + (E.getD 6 0).toNat : Nat) : Int)) rfl rfl (by kernel_rfl) (by kernel_rfl) ?_
              refine Wk.rEnd 9 rfl ?_
              refine Wk.inN ?_
              refine Wk.nxt ?_
              refine Wk.reg ?_
              refine Wk.rPure 0 (some 7) (.int .i64 70) rfl rfl (by kernel_rfl) (by kernel_rfl) ?_
              refine Wk.rPure 1 (some 8) (.int .i64 71) rfl rfl (by kernel_rfl) (Wk.int64 (n := 70 + 1) (z := 71) (by omega) (by omega) (by omega) (by kernel_rfl)) ?_
              refine Wk.rPure 2 (some 4) (.int .i64 71) rfl rfl (by kernel_rfl) (by kernel_rfl) ?_
              refine Wk.rEnd 3 rfl ?_
              refine Wk.nxt ?_
              refine Wk.rdS ?_
              refine wp_seq ?_
              refine wp_seq ?_
              refine Wk.reg ?_
              refine Wk.rPure 0 (some 5) (.int .i64 71) rfl rfl (by kernel_rfl) (by kernel_rfl) ?_
              refine Wk.rPure 1 (some 6) (.bool true) rfl rfl (by kernel_rfl) (Wk.boolT (b := decide ((71 : Int) < (72 : Int))) (decide_eq_true (by decide)) (by kernel_rfl)) ?_
              refine Wk.rEnd 2 rfl ?_
              refine Wk.nxt ?_
              refine wp_cond_true (by kernel_rfl) ?_
              refine wp_skip ?_
              refine Wk.nxt ?_
              refine wp_seq ?_
              refine wp_block ?_
              refine wp_seq ?_
              refine wp_seq ?_
              refine Wk.reg ?_
              refine Wk.rPure 0 (some 9) (.int .i64 ((((((((0 + (E.getD 0 0).toNat) * 256 + (E.getD 1 0).toNat) * 256 + (E.getD 2 0).toNat) * 256 + (E.getD 3 0).toNat) * 256 + (E.getD 4 0).toNat) * 256 + (E.getD 5 0).toNat) * 256 + (E.getD 6 0).toNat : Nat) : Int)) rfl rfl (by kernel_rfl) (by kernel_rfl) ?_
              by_cases hx7 : ((((((((0 + (E.getD 0 0).toNat) * 256 + (E.getD 1 0).toNat) * 256 + (E.getD 2 0).toNat) * 256 + (E.getD 3 0).toNat) * 256 + (E.getD 4 0).toNat) * 256 + (E.getD 5 0).toNat) * 256 + (E.getD 6 0).toNat : Nat) : Int) > (1099511627776 : Int)
              · refine Wk.rPure 1 (some 10) (.bool true) rfl rfl (by kernel_rfl) (Wk.boolT (b := decide (((((((((0 + (E.getD 0 0).toNat) * 256 + (E.getD 1 0).toNat) * 256 + (E.getD 2 0).toNat) * 256 + (E.getD 3 0).toNat) * 256 + (E.getD 4 0).toNat) * 256 + (E.getD 5 0).toNat) * 256 + (E.getD 6 0).toNat : Nat) : Int) > (1099511627776 : Int))) (decide_eq_true (by first | exact hx7 | omega)) (by kernel_rfl)) ?_
                refine Wk.rEnd 2 rfl ?_
                refine Wk.nxt ?_
                refine wp_cond_true (by kernel_rfl) ?_
                refine wp_seq ?_
                refine Wk.reg ?_
                refine Wk.rPure 0 (some 2) (.bool false) rfl rfl (by kernel_rfl) (by kernel_rfl) ?_
                refine Wk.rEnd 1 rfl ?_
                refine Wk.nxt ?_
                refine wp_ret ?_
                refine Wk.thR ?_
                refine Wk.inR ?_
                refine Wk.thR ?_
                refine Wk.thR ?_
                refine Wk.inR ?_
                refine Wk.thR ?_
                refine Wk.ret (.bool false) rfl (by kernel_rfl) ?_
                exact ⟨by rw [decide_eq_false (show ¬ (1 ≤ V ∧ V ≤ 5000) by unfold Mur.be8 at hV; omega)], rfl⟩
              · refine Wk.rPure 1 (some 10) (.bool false) rfl rfl (by kernel_rfl) (Wk.boolF (b := decide (((((((((0 + (E.getD 0 0).toNat) * 256 + (E.getD 1 0).toNat) * 256 + (E.getD 2 0).toNat) * 256 + (E.getD 3 0).toNat) * 256 + (E.getD 4 0).toNat) * 256 + (E.getD 5 0).toNat) * 256 + (E.getD 6 0).toNat : Nat) : Int) > (1099511627776 : Int))) (decide_eq_false (by first | exact hx7 | omega)) (by kernel_rfl)) ?_
                refine Wk.rEnd 2 rfl ?_
                refine Wk.nxt ?_
                refine wp_cond_false (by kernel_rfl) ?_
                refine wp_skip ?_
                refine Wk.nxt ?_
                refine Wk.reg ?_
                refine Wk.rPure 0 (some 11) (.int .i64 ((((((((0 + (E.getD 0 0).toNat) * 256 + (E.getD 1 0).toNat) * 256 + (E.getD 2 0).toNat) * 256 + (E.getD 3 0).toNat) * 256 + (E.getD 4 0).toNat) * 256 + (E.getD 5 0).toNat) * 256 + (E.getD 6 0).toNat : Nat) : Int)) rfl rfl (by kernel_rfl) (by kernel_rfl) ?_
                refine Wk.rPure 1 (some 12) (.int .i64 (((((((((0 + (E.getD 0 0).toNat) * 256 + (E.getD 1 0).toNat) * 256 + (E.getD 2 0).toNat) * 256 + (E.getD 3 0).toNat) * 256 + (E.getD 4 0).toNat) * 256 + (E.getD 5 0).toNat) * 256 + (E.getD 6 0).toNat) * 256 : Nat) : Int)) rfl rfl (by kernel_rfl) (Wk.int64 (n := ((((((((0 + (E.getD 0 0).toNat) * 256 + (E.getD 1 0).toNat) * 256 + (E.getD 2 0).toNat) * 256 + (E.getD 3 0).toNat) * 256 + (E.getD 4 0).toNat) * 256 + (E.getD 5 0).toNat) * 256 + (E.getD 6 0).toNat : Nat) : Int) * 256) (z := (((((((((0 + (E.getD 0 0).toNat) * 256 + (E.getD 1 0).toNat) * 256 + (E.getD 2 0).toNat) * 256 + (E.getD 3 0).toNat) * 256 + (E.getD 4 0).toNat) * 256 + (E.getD 5 0).toNat) * 256 + (E.getD 6 0).toNat) * 256 : Nat) : Int)) (by omega) (by omega) (by omega) (by kernel_rfl)) ?_
                refine Wk.rPure 2 (some 13) (.slice (some ⟨gb, ob, none⟩) 104 c) rfl rfl (by kernel_rfl) (by kernel_rfl) ?_
                refine Wk.rPure 3 (some 14) (.int .i64 71) rfl rfl (by kernel_rfl) (by kernel_rfl) ?_
                refine Wk.rPure 4 (some 15) (.pointer (some ⟨gb, ob + 71 * 1, none⟩)) rfl rfl (by kernel_rfl) (Wk.index_sl 22 5 (.tmp 13) (.tmp 14) rfl Tryd.underlying22 1 (by kernel_rfl) gb ob 104 c 71 .i64 (by kernel_rfl) (by kernel_rfl) (by omega)) ?_
                refine Wk.rPure 5 (some 16) (.int .u8 (((E.getD 7 0).toNat : Nat) : Int)) rfl rfl (by kernel_rfl) (Wk.load1 5 (.tmp 15) rfl (by kernel_rfl) ⟨gb, ob + 71 * 1, none⟩ (by kernel_rfl) (.int .u8 (((E.getD 7 0).toNat : Nat) : Int)) (by rw [show ob + 71 * 1 = ob + 64 + 7 * 1 by omega]; exact Mur.byt_cell hb64 7 (by omega))) ?_
                refine Wk.rPure 6 (some 17) (.int .i64 (((E.getD 7 0).toNat : Nat) : Int)) rfl rfl (by kernel_rfl) (Mur.conv_int 5 3 (.tmp 16) rfl (by kernel_rfl) .i64 Tryd.underlying3 .u8 (((E.getD 7 0).toNat : Nat) : Int) (by kernel_rfl) (Mur.i64_nat (by omega))) ?_
                refine Wk.rPure 7 (some 18) (.int .i64 (((((((((0 + (E.getD 0 0).toNat) * 256 + (E.getD 1 0).toNat) * 256 + (E.getD 2 0).toNat) * 256 + (E.getD 3 0).toNat) * 256 + (E.getD 4 0).toNat) * 256 + (E.getD 5 0).toNat) * 256 + (E.getD 6 0).toNat) * 256 + (E.getD 7 0).toNat : Nat) : Int)) rfl rfl (by kernel_rfl) (Wk.int64 (n := (((((((((0 + (E.getD 0 0).toNat) * 256 + (E.getD 1 0).toNat) * 256 + (E.getD 2 0).toNat) * 256 + (E.getD 3 0).toNat) * 256 + (E.getD 4 0).toNat) * 256 + (E.getD 5 0).toNat) * 256 + (E.getD 6 0).toNat) * 256 : Nat) : Int) + (((E.getD 7 0).toNat : Nat) : Int)) (z := (((((((((0 + (E.getD 0 0).toNat) * 256 + (E.getD 1 0).toNat) * 256 + (E.getD 2 0).toNat) * 256 + (E.getD 3 0).toNat) * 256 + (E.getD 4 0).toNat) * 256 + (E.getD 5 0).toNat) * 256 + (E.getD 6 0).toNat) * 256 + (E.getD 7 0).toNat : Nat) : Int)) (by omega) (by omega) (by omega) (by kernel_rfl)) ?_
                refine Wk.rPure 8 (some 3) (.int .i64 (((((((((0 + (E.getD 0 0).toNat) * 256 + (E.getD 1 0).toNat) * 256 + (E.getD 2 0).toNat) * 256 + (E.getD 3 0).toNat) * 256 + (E.getD 4 0).toNat) * 256 + (E.getD 5 0).toNat) * 256 + (E.getD 6 0).toNat) * 256 + (E.getD 7 0).toNat : Nat) : Int)) rfl rfl (by kernel_rfl) (by kernel_rfl) ?_
                refine Wk.rEnd 9 rfl ?_
                refine Wk.inN ?_
                refine Wk.nxt ?_
                refine Wk.reg ?_
                refine Wk.rPure 0 (some 7) (.int .i64 71) rfl rfl (by kernel_rfl) (by kernel_rfl) ?_
                refine Wk.rPure 1 (some 8) (.int .i64 72) rfl rfl (by kernel_rfl) (Wk.int64 (n := 71 + 1) (z := 72) (by omega) (by omega) (by omega) (by kernel_rfl)) ?_
                refine Wk.rPure 2 (some 4) (.int .i64 72) rfl rfl (by kernel_rfl) (by kernel_rfl) ?_
                refine Wk.rEnd 3 rfl ?_
                refine Wk.nxt ?_
                refine Wk.rdS ?_
                refine wp_seq ?_
                refine wp_seq ?_
                refine Wk.reg ?_
                refine Wk.rPure 0 (some 5) (.int .i64 72) rfl rfl (by kernel_rfl) (by kernel_rfl) ?_
                refine Wk.rPure 1 (some 6) (.bool false) rfl rfl (by kernel_rfl) (Wk.boolF (b := decide ((72 : Int) < (72 : Int))) (decide_eq_false (by decide)) (by kernel_rfl)) ?_
                refine Wk.rEnd 2 rfl ?_
                refine Wk.nxt ?_
                refine wp_cond_false (by kernel_rfl) ?_
                refine wp_exit ?_
                refine Wk.thX ?_
                refine Wk.thX ?_
                refine Wk.inX ?_
                refine Wk.nxt ?_
                refine wp_seq ?_
                refine Wk.reg ?_
                refine Wk.rPure 0 (some 19) (.int .i64 (((((((((0 + (E.getD 0 0).toNat) * 256 + (E.getD 1 0).toNat) * 256 + (E.getD 2 0).toNat) * 256 + (E.getD 3 0).toNat) * 256 + (E.getD 4 0).toNat) * 256 + (E.getD 5 0).toNat) * 256 + (E.getD 6 0).toNat) * 256 + (E.getD 7 0).toNat : Nat) : Int)) rfl rfl (by kernel_rfl) (by kernel_rfl) ?_
                by_cases hx8 : (((((((((0 + (E.getD 0 0).toNat) * 256 + (E.getD 1 0).toNat) * 256 + (E.getD 2 0).toNat) * 256 + (E.getD 3 0).toNat) * 256 + (E.getD 4 0).toNat) * 256 + (E.getD 5 0).toNat) * 256 + (E.getD 6 0).toNat) * 256 + (E.getD 7 0).toNat : Nat) : Int) ≥ (1 : Int)
                · refine Wk.rPure 1 (some 20) (.bool true) rfl rfl (by kernel_rfl) (Wk.boolT (b := decide ((((((((((0 + (E.getD 0 0).toNat) * 256 + (E.getD 1 0).toNat) * 256 + (E.getD 2 0).toNat) * 256 + (E.getD 3 0).toNat) * 256 + (E.getD 4 0).toNat) * 256 + (E.getD 5 0).toNat) * 256 + (E.getD 6 0).toNat) * 256 + (E.getD 7 0).toNat : Nat) : Int) ≥ (1 : Int))) (decide_eq_true (by first | exact hx8 | omega)) (by kernel_rfl)) ?_
                  refine Wk.rPure 2 (some 21) (.bool true) rfl rfl (by kernel_rfl) (by kernel_rfl) ?_
                  refine Wk.rPure 3 (some 22) (.int .i64 (((((((((0 + (E.getD 0 0).toNat) * 256 + (E.getD 1 0).toNat) * 256 + (E.getD 2 0).toNat) * 256 + (E.getD 3 0).toNat) * 256 + (E.getD 4 0).toNat) * 256 + (E.getD 5 0).toNat) * 256 + (E.getD 6 0).toNat) * 256 + (E.getD 7 0).toNat : Nat) : Int)) rfl rfl (by kernel_rfl) (by kernel_rfl) ?_
                  by_cases hx9 : (((((((((0 + (E.getD 0 0).toNat) * 256 + (E.getD 1 0).toNat) * 256 + (E.getD 2 0).toNat) * 256 + (E.getD 3 0).toNat) * 256 + (E.getD 4 0).toNat) * 256 + (E.getD 5 0).toNat) * 256 + (E.getD 6 0).toNat) * 256 + (E.getD 7 0).toNat : Nat) : Int) ≤ (5000 : Int)
                  · refine Wk.rPure 4 (some 23) (.bool true) rfl rfl (by kernel_rfl) (Wk.boolT (b := decide ((((((((((0 + (E.getD 0 0).toNat) * 256 + (E.getD 1 0).toNat) * 256 + (E.getD 2 0).toNat) * 256 + (E.getD 3 0).toNat) * 256 + (E.getD 4 0).toNat) * 256 + (E.getD 5 0).toNat) * 256 + (E.getD 6 0).toNat) * 256 + (E.getD 7 0).toNat : Nat) : Int) ≤ (5000 : Int))) (decide_eq_true (by first | exact hx9 | omega)) (by kernel_rfl)) ?_
                    refine Wk.rPure 5 (some 24) (.bool true) rfl rfl (by kernel_rfl) (by kernel_rfl) ?_
                    refine Wk.rPure 6 (some 2) (.bool true) rfl rfl (by kernel_rfl) (by kernel_rfl) ?_
                    refine Wk.rEnd 7 rfl ?_
                    refine Wk.nxt ?_
                    refine wp_ret ?_
                    refine Wk.ret (.bool true) rfl (by kernel_rfl) ?_
                    exact ⟨by rw [decide_eq_true (show (1 ≤ V ∧ V ≤ 5000) by unfold Mur.be8 at hV; omega)], rfl⟩
                  · refine Wk.rPure 4 (some 23) (.bool false) rfl rfl (by kernel_rfl) (Wk.boolF (b := decide ((((((((((0 + (E.getD 0 0).toNat) * 256 + (E.getD 1 0).toNat) * 256 + (E.getD 2 0).toNat) * 256 + (E.getD 3 0).toNat) * 256 + (E.getD 4 0).toNat) * 256 + (E.getD 5 0).toNat) * 256 + (E.getD 6 0).toNat) * 256 + (E.getD 7 0).toNat : Nat) : Int) ≤ (5000 : Int))) (decide_eq_false (by first | exact hx9 | omega)) (by kernel_rfl)) ?_
                    refine Wk.rPure 5 (some 24) (.bool false) rfl rfl (by kernel_rfl) (by kernel_rfl) ?_
                    refine Wk.rPure 6 (some 2) (.bool false) rfl rfl (by kernel_rfl) (by kernel_rfl) ?_
                    refine Wk.rEnd 7 rfl ?_
                    refine Wk.nxt ?_
                    refine wp_ret ?_
                    refine Wk.ret (.bool false) rfl (by kernel_rfl) ?_
                    exact ⟨by rw [decide_eq_false (show ¬ (1 ≤ V ∧ V ≤ 5000) by unfold Mur.be8 at hV; omega)], rfl⟩
                · refine Wk.rPure 1 (some 20) (.bool false) rfl rfl (by kernel_rfl) (Wk.boolF (b := decide ((((((((((0 + (E.getD 0 0).toNat) * 256 + (E.getD 1 0).toNat) * 256 + (E.getD 2 0).toNat) * 256 + (E.getD 3 0).toNat) * 256 + (E.getD 4 0).toNat) * 256 + (E.getD 5 0).toNat) * 256 + (E.getD 6 0).toNat) * 256 + (E.getD 7 0).toNat : Nat) : Int) ≥ (1 : Int))) (decide_eq_false (by first | exact hx8 | omega)) (by kernel_rfl)) ?_
                  refine Wk.rPure 2 (some 21) (.bool false) rfl rfl (by kernel_rfl) (by kernel_rfl) ?_
                  refine Wk.rPass 3 (some 22) rfl rfl (by kernel_rfl) ?_
                  refine Wk.rPass 4 (some 23) rfl rfl (by kernel_rfl) ?_
                  refine Wk.rPure 5 (some 24) (.bool false) rfl rfl (by kernel_rfl) (by kernel_rfl) ?_
                  refine Wk.rPure 6 (some 2) (.bool false) rfl rfl (by kernel_rfl) (by kernel_rfl) ?_
                  refine Wk.rEnd 7 rfl ?_
                  refine Wk.nxt ?_
                  refine wp_ret ?_
                  refine Wk.ret (.bool false) rfl (by kernel_rfl) ?_
                  exact ⟨by rw [decide_eq_false (show ¬ (1 ≤ V ∧ V ≤ 5000) by unfold Mur.be8 at hV; omega)], rfl⟩
end Go.Proofs.YtljfjjofhclhiaaDoor
