/- HmacSame, walked. -/
import Derived.Test.YtljfjjofhclhiaaDoorHmS
namespace Go.Proofs.YtljfjjofhclhiaaDoor
open Go.RowKit
open Mur (b8s Byt Own8 Seg Segs flat cutA)
set_option maxRecDepth 100000
set_option maxHeartbeats 4000000
def Same_F1 (b : Array Value) (u2 : Value) (u3 : Value) (u5 : Value) (u7 : Value) : Act := ⟨#[b.getD 0 undef, b.getD 1 undef, u2, u3, b.getD 4 undef, u5, b.getD 6 undef, u7, b.getD 8 undef, b.getD 9 undef, b.getD 10 undef, b.getD 11 undef, b.getD 12 undef, b.getD 13 undef, b.getD 14 undef, b.getD 15 undef, b.getD 16 undef, b.getD 17 undef, b.getD 18 undef, b.getD 19 undef, b.getD 20 undef, b.getD 21 undef], []⟩
theorem Same_any (d d' : List UInt8) (hd : d.length = 32) (hd2 : d'.length = 32) (w : World) : Calls Tryd.prog 16 #[.agg (b8s d).toArray, .agg (b8s d').toArray] w fun e w' => e = .returned (.bool (decide (d = d'))) ∧ Wk.Chg [] w w' := by
  refine calls_of_wp Tryd.func16 rfl ?_
  refine wp_seq ?_
  refine Wk.reg ?_
  refine Wk.rEx 0 (some 2) _ rfl rfl (by kernel_rfl) (Wk.new_ex (.pointer (some ⟨w.heap.size, 0, none⟩)) ((b8s d).toArray) 25 (by kernel_rfl)) ?_
  rintro _ W1 ⟨rfl, hb1, ch1, sz1⟩
  have zz1 := ch1.size
  refine Wk.rEx 1 (some 3) _ rfl rfl (by kernel_rfl) (Wk.new_ex (.pointer (some ⟨W1.heap.size, 0, none⟩)) ((b8s d').toArray) 25 (by kernel_rfl)) ?_
  rintro _ W2 ⟨rfl, hb2, ch2, sz2⟩
  have zz2 := ch2.size
  refine Wk.rPure 2 (some 4) (.bool false) rfl rfl (by kernel_rfl) (by kernel_rfl) ?_
  refine Wk.rEnd 3 rfl ?_
  refine Wk.nxt ?_
  refine wp_seq ?_
  refine Wk.reg ?_
  refine Wk.rPure 0 (some 5) (.int .u8 0) rfl rfl (by kernel_rfl) (by kernel_rfl) ?_
  refine Wk.rEnd 1 rfl ?_
  refine Wk.nxt ?_
  refine wp_seq ?_
  refine wp_seq ?_
  refine Wk.reg ?_
  refine Wk.rPure 0 (some 7) (.int .i64 0) rfl rfl (by kernel_rfl) (by kernel_rfl) ?_
  refine Wk.rEnd 1 rfl ?_
  refine Wk.nxt ?_
  refine wp_block ?_
  refine Wk.loop (fun m_ a wr => ∃ (i : Nat) (u : UInt8), m_ = 32 - i ∧ a = Same_F1 a.tmps (.pointer (some ⟨w.heap.size, 0, none⟩)) (.pointer (some ⟨W1.heap.size, 0, none⟩)) (.int .u8 ((u.toNat : Nat) : Int)) (.int .i64 ((i : Nat) : Int)) ∧ i ≤ 32 ∧ (u = 0 ↔ d.take i = d'.take i) ∧ wr.heap[w.heap.size]? = some (.cells (b8s d).toArray 25 (0, 0)) ∧ wr.heap[W1.heap.size]? = some (.cells (b8s d').toArray 25 (0, 0)) ∧ Wk.Chg [] w wr) (32 - 0) ?_ ?_
  · have kk1 : Wk.Chg [] w W1 := Wk.Chg.step ((Wk.Chg.refl _).more (by simp)) ch1 trivial
    have kk2 := Wk.Chg.step kk1 ch2 trivial
    refine ⟨0, (0 : UInt8), rfl, by kernel_rfl, by omega, by simp, (Wk.Chg.hp ch2 hb1 trivial), hb2, kk2⟩
  · rintro mm1 aa1 W3 ⟨i, u, hmm1, hF1, hi, hu, hG2, hG3, HB⟩
    generalize aa1.tmps = bb1 at hF1
    subst hF1
    by_cases hlt : i < 32
    · refine wp_seq ?_
      refine Wk.reg ?_
      refine Wk.rPure 0 (some 8) (.bool true) rfl rfl (by kernel_rfl) (Wk.boolT (b := decide (((i : Nat) : Int) < (32 : Int))) (decide_eq_true (by omega)) (by kernel_rfl)) ?_
      refine Wk.rEnd 1 rfl ?_
      refine Wk.nxt ?_
      refine wp_seq ?_
      refine wp_cond_true (by kernel_rfl) ?_
      refine wp_skip ?_
      refine Wk.nxt ?_
      refine wp_seq ?_
      refine wp_block ?_
      refine wp_seq ?_
      refine Wk.reg ?_
      refine Wk.rPure 0 (some 9) (.int .i64 ((i : Nat) : Int)) rfl rfl (by kernel_rfl) (by kernel_rfl) ?_
      refine Wk.rPure 1 (some 6) (.int .i64 ((i : Nat) : Int)) rfl rfl (by kernel_rfl) (by kernel_rfl) ?_
      refine Wk.rEnd 2 rfl ?_
      refine Wk.nxt ?_
      refine Wk.dReg ([]) (by kernel_rfl) ?_
      intro W4 ch3 sz3
      have zz3 := ch3.size
      have sS1 : Wk.Chg ([]) W4 W4 := (Wk.Chg.refl _).more (by simp)
      refine Wk.dVal 0 (some 10) (.int .u8 ((u.toNat : Nat) : Int)) rfl rfl (by kernel_rfl) (by kernel_rfl) (by kernel_rfl) (fun _ _ _ h => h) (by kernel_rfl) (fun w' hw' => by kernel_rfl) sS1 ?_
      refine Wk.dVal 1 (some 11) (.int .i64 ((i : Nat) : Int)) rfl rfl (by kernel_rfl) (by kernel_rfl) (by kernel_rfl) (fun _ _ _ h => h) (by kernel_rfl) (fun w' hw' => by kernel_rfl) sS1 ?_
      refine Wk.dVal 2 (some 12) (.pointer (some ⟨w.heap.size, 0 + i * 1, none⟩)) rfl rfl (by kernel_rfl) (by kernel_rfl) (by kernel_rfl) (fun _ _ _ h => h) (by kernel_rfl) (fun w' hw' => (Wk.index_arr 25 5 (.tmp 2) (.tmp 11) rfl 32 Tryd.underlying25 1 (by kernel_rfl) w.heap.size 0 i .i64 (by kernel_rfl) (by kernel_rfl) (by omega))) sS1 ?_
      refine Wk.dVal 3 (some 13) (.int .u8 (((d.getD i 0).toNat : Nat) : Int)) rfl rfl (by kernel_rfl) (by kernel_rfl) (by kernel_rfl) (fun _ _ _ h => h) (by kernel_rfl) (fun w' hw' => (Wk.load1 5 (.tmp 12) rfl (by kernel_rfl) ⟨w.heap.size, 0 + i * 1, none⟩ (by kernel_rfl) (.int .u8 (((d.getD i 0).toNat : Nat) : Int)) (Mur.blk_cell d (Wk.Chg.hp hw' (Wk.Chg.hp ch3 hG2 trivial) trivial) i (by rw [hd]; omega)))) sS1 ?_
      refine Wk.dVal 4 (some 14) (.int .i64 ((i : Nat) : Int)) rfl rfl (by kernel_rfl) (by kernel_rfl) (by kernel_rfl) (fun _ _ _ h => h) (by kernel_rfl) (fun w' hw' => by kernel_rfl) sS1 ?_
      refine Wk.dVal 5 (some 15) (.pointer (some ⟨W1.heap.size, 0 + i * 1, none⟩)) rfl rfl (by kernel_rfl) (by kernel_rfl) (by kernel_rfl) (fun _ _ _ h => h) (by kernel_rfl) (fun w' hw' => (Wk.index_arr 25 5 (.tmp 3) (.tmp 14) rfl 32 Tryd.underlying25 1 (by kernel_rfl) W1.heap.size 0 i .i64 (by kernel_rfl) (by kernel_rfl) (by omega))) sS1 ?_
      refine Wk.dVal 6 (some 16) (.int .u8 (((d'.getD i 0).toNat : Nat) : Int)) rfl rfl (by kernel_rfl) (by kernel_rfl) (by kernel_rfl) (fun _ _ _ h => h) (by kernel_rfl) (fun w' hw' => (Wk.load1 5 (.tmp 15) rfl (by kernel_rfl) ⟨W1.heap.size, 0 + i * 1, none⟩ (by kernel_rfl) (.int .u8 (((d'.getD i 0).toNat : Nat) : Int)) (Mur.blk_cell d' (Wk.Chg.hp hw' (Wk.Chg.hp ch3 hG3 trivial) trivial) i (by rw [hd2]; omega)))) sS1 ?_
      refine Wk.dVal 7 (some 17) (.int .u8 ((((d.getD i 0) ^^^ (d'.getD i 0)).toNat : Nat) : Int)) rfl rfl (by kernel_rfl) (by kernel_rfl) (by kernel_rfl) (fun _ _ _ h => h) (by kernel_rfl) (fun w' hw' => (Mur.xor8 5 5 (.tmp 13) (.tmp 16) rfl (d.getD i 0) (d'.getD i 0) (by kernel_rfl) (by kernel_rfl))) sS1 ?_
      refine Wk.dVal 8 (some 18) (.int .u8 (((u ||| ((d.getD i 0) ^^^ (d'.getD i 0))).toNat : Nat) : Int)) rfl rfl (by kernel_rfl) (by kernel_rfl) (by kernel_rfl) (fun _ _ _ h => h) (by kernel_rfl) (fun w' hw' => (Mur.or8 5 5 (.tmp 10) (.tmp 17) rfl u ((d.getD i 0) ^^^ (d'.getD i 0)) (by kernel_rfl) (by kernel_rfl))) sS1 ?_
      refine Wk.dVal 9 (some 5) (.int .u8 (((u ||| ((d.getD i 0) ^^^ (d'.getD i 0))).toNat : Nat) : Int)) rfl rfl (by kernel_rfl) (by kernel_rfl) (by kernel_rfl) (fun _ _ _ h => h) (by kernel_rfl) (fun w' hw' => by kernel_rfl) sS1 ?_
      refine Wk.dEnd (by kernel_rfl) ?_
      refine Wk.inN ?_
      refine Wk.nxt ?_
      refine Wk.reg ?_
      refine Wk.rPure 0 (some 19) (.int .i64 ((i + 1 : Nat) : Int)) rfl rfl (by kernel_rfl) (Wk.int64 (n := ((i : Nat) : Int) + 1) (z := ((i + 1 : Nat) : Int)) (by omega) (by omega) (by omega) (by kernel_rfl)) ?_
      refine Wk.rPure 1 (some 7) (.int .i64 ((i + 1 : Nat) : Int)) rfl rfl (by kernel_rfl) (by kernel_rfl) ?_
      refine Wk.rEnd 2 rfl ?_
      refine Wk.nxt ?_
      have kk3 := Wk.Chg.step HB ch3 trivial
      refine ⟨_, ?_, i + 1, (u ||| ((d.getD i 0) ^^^ (d'.getD i 0))), rfl, by kernel_rfl, (by omega), Mur.same_step hd hd2 hlt hu, (Wk.Chg.hp ch3 hG2 trivial), (Wk.Chg.hp ch3 hG3 trivial), kk3⟩
      · omega
    · obtain rfl : i = 32 := by omega
      have hf := Mur.same_fin hd hd2 hu
      refine wp_seq ?_
      refine Wk.reg ?_
      refine Wk.rPure 0 (some 8) (.bool false) rfl rfl (by kernel_rfl) (Wk.boolF (b := decide (((32 : Nat) : Int) < (32 : Int))) (decide_eq_false (by omega)) (by kernel_rfl)) ?_
      refine Wk.rEnd 1 rfl ?_
      refine Wk.nxt ?_
      refine wp_seq ?_
      refine wp_cond_false (by kernel_rfl) ?_
      refine wp_exit ?_
      refine Wk.thX ?_
      refine Wk.thX ?_
      refine Wk.inX ?_
      refine Wk.nxt ?_
      refine wp_seq ?_
      refine Wk.reg ?_
      refine Wk.rPure 0 (some 20) (.int .u8 ((u.toNat : Nat) : Int)) rfl rfl (by kernel_rfl) (by kernel_rfl) ?_
      by_cases hx1 : ((u.toNat : Nat) : Int) = (0 : Int)
      · refine Wk.rPure 1 (some 21) (.bool true) rfl rfl (by kernel_rfl) (Wk.boolT (b := (((u.toNat : Nat) : Int) == (0 : Int))) (beq_iff_eq.2 (by first | exact hx1 | omega)) (by kernel_rfl)) ?_
        refine Wk.rPure 2 (some 4) (.bool true) rfl rfl (by kernel_rfl) (by kernel_rfl) ?_
        refine Wk.rEnd 3 rfl ?_
        refine Wk.nxt ?_
        refine wp_ret ?_
        refine Wk.ret (.bool true) rfl (by kernel_rfl) ?_
        exact ⟨by rw [decide_eq_true (hf.1 (Mur.u8_zero (by assumption)))], HB⟩
      · refine Wk.rPure 1 (some 21) (.bool false) rfl rfl (by kernel_rfl) (Wk.boolF (b := (((u.toNat : Nat) : Int) == (0 : Int))) (beq_eq_false_iff_ne.2 (by first | exact hx1 | omega)) (by kernel_rfl)) ?_
        refine Wk.rPure 2 (some 4) (.bool false) rfl rfl (by kernel_rfl) (by kernel_rfl) ?_
        refine Wk.rEnd 3 rfl ?_
        refine Wk.nxt ?_
        refine wp_ret ?_
        refine Wk.ret (.bool false) rfl (by kernel_rfl) ?_
        exact ⟨by rw [decide_eq_false (fun q => by have h0 := hf.2 q; subst h0; exact absurd rfl (by assumption))], HB⟩
theorem hsame_any (da : List UInt8) (hda : da.length = 32) (at_ : Int) (turn : UInt8) (w : World) (hv : ShaVars w) : Calls Tryd.prog 5 #[.agg (b8s da).toArray, .int .i64 at_, .int .u8 ((turn.toNat : Nat) : Int)] w fun e w' => e = .returned (.bool true) ∧ Below w.heap.size w w' := by
  have HV := Go.Lib.hid hv
  clear hv
  by_cases ht : turn = 0
  · refine calls_of_wp Tryd.func5 rfl ?_
    refine wp_seq ?_
    refine Wk.reg ?_
    refine Wk.rEx 0 (some 3) _ rfl rfl (by kernel_rfl) (Wk.new_ex (.pointer (some ⟨w.heap.size, 0, none⟩)) ((b8s da).toArray) 25 (by kernel_rfl)) ?_
    rintro _ W1 ⟨rfl, hb1, ch1, sz1⟩
    have zz1 := ch1.size
    refine Wk.rPure 1 (some 6) (.bool false) rfl rfl (by kernel_rfl) (by kernel_rfl) ?_
    refine Wk.rEnd 2 rfl ?_
    refine Wk.nxt ?_
    refine wp_seq ?_
    refine Wk.reg ?_
    refine Wk.rPure 0 (some 8) (.agg ((b8s da).toArray)) rfl rfl (by kernel_rfl) (Mur.loadAll 25 (.tmp 3) rfl _ Tryd.underlying25 rfl w.heap.size (by kernel_rfl) da 32 hda (by kernel_rfl) 25 (0, 0) hb1) ?_
    refine Wk.rEx 1 (some 7) _ rfl rfl (by kernel_rfl) (Wk.new_ex (.pointer (some ⟨W1.heap.size, 0, none⟩)) #[.int .u8 0, .int .u8 0, .int .u8 0, .int .u8 0, .int .u8 0, .int .u8 0, .int .u8 0, .int .u8 0, .int .u8 0, .int .u8 0, .int .u8 0, .int .u8 0, .int .u8 0, .int .u8 0, .int .u8 0, .int .u8 0, .int .u8 0, .int .u8 0, .int .u8 0, .int .u8 0, .int .u8 0, .int .u8 0, .int .u8 0, .int .u8 0, .int .u8 0, .int .u8 0, .int .u8 0, .int .u8 0, .int .u8 0, .int .u8 0, .int .u8 0, .int .u8 0] 25 (by kernel_rfl)) ?_
    rintro _ W2 ⟨rfl, hb2, ch2, sz2⟩
    have zz2 := ch2.size
    refine Wk.rExS 2 none _ rfl rfl (by kernel_rfl) (Mur.storeAll 25 (.tmp 7) (.tmp 8) rfl W1.heap.size (by kernel_rfl) da 32 hda (by kernel_rfl) (by kernel_rfl) 25 #[.int .u8 0, .int .u8 0, .int .u8 0, .int .u8 0, .int .u8 0, .int .u8 0, .int .u8 0, .int .u8 0, .int .u8 0, .int .u8 0, .int .u8 0, .int .u8 0, .int .u8 0, .int .u8 0, .int .u8 0, .int .u8 0, .int .u8 0, .int .u8 0, .int .u8 0, .int .u8 0, .int .u8 0, .int .u8 0, .int .u8 0, .int .u8 0, .int .u8 0, .int .u8 0, .int .u8 0, .int .u8 0, .int .u8 0, .int .u8 0, .int .u8 0, .int .u8 0] hb2 rfl) ?_
    rintro W3 ⟨hb3, ch3⟩
    have zz3 := ch3.size
    refine Wk.rEnd 3 rfl ?_
    refine Wk.nxt ?_
    refine wp_seq ?_
    refine Wk.reg ?_
    refine Wk.rPure 0 (some 9) (.int .i64 at_) rfl rfl (by kernel_rfl) (by kernel_rfl) ?_
    refine Wk.rEx 1 (some 10) _ rfl rfl (by kernel_rfl) (Mur.to_u64 3 32 (.tmp 9) rfl (by kernel_rfl) Tryd.underlying32 .i64 at_ (by kernel_rfl)) ?_
    rintro _ _ ⟨u1, rfl, rfl, hu1⟩
    refine Wk.rPure 2 (some 11) (.int .u64 ((u1 % 32 : Nat) : Int)) rfl rfl (by kernel_rfl) (Mur.rem_u64 32 32 (.tmp 10) (.const (.int .u64 32)) rfl u1 32 (by kernel_rfl) (by kernel_rfl) (by omega)) ?_
    refine Wk.rPure 3 (some 12) (.pointer (some ⟨W1.heap.size, 0 + (u1 % 32) * 1, none⟩)) rfl rfl (by kernel_rfl) (Wk.index_arr 25 5 (.tmp 7) (.tmp 11) rfl 32 Tryd.underlying25 1 (by kernel_rfl) W1.heap.size 0 (u1 % 32) .u64 (by kernel_rfl) (by kernel_rfl) (by omega)) ?_
    refine Wk.rPure 4 (some 13) (.int .u8 (((da.getD (u1 % 32) 0).toNat : Nat) : Int)) rfl rfl (by kernel_rfl) (Wk.load1 5 (.tmp 12) rfl (by kernel_rfl) ⟨W1.heap.size, 0 + (u1 % 32) * 1, none⟩ (by kernel_rfl) (.int .u8 (((da.getD (u1 % 32) 0).toNat : Nat) : Int)) (Mur.blk_cell da hb3 (u1 % 32) (by rw [hda]; omega))) ?_
    refine Wk.rPure 5 (some 14) (.int .u8 ((turn.toNat : Nat) : Int)) rfl rfl (by kernel_rfl) (by kernel_rfl) ?_
    refine Wk.rPure 6 (some 15) (.int .u8 ((((da.getD (u1 % 32) 0) ^^^ turn).toNat : Nat) : Int)) rfl rfl (by kernel_rfl) (Mur.xor8 5 5 (.tmp 13) (.tmp 14) rfl (da.getD (u1 % 32) 0) turn (by kernel_rfl) (by kernel_rfl)) ?_
    refine Wk.rPure 7 (some 16) (.pointer (some ⟨W1.heap.size, 0 + (u1 % 32) * 1, none⟩)) rfl rfl (by kernel_rfl) (Wk.index_arr 25 5 (.tmp 7) (.tmp 11) rfl 32 Tryd.underlying25 1 (by kernel_rfl) W1.heap.size 0 (u1 % 32) .u64 (by kernel_rfl) (by kernel_rfl) (by omega)) ?_
    refine Wk.rExS 8 none _ rfl rfl (by kernel_rfl) (Mur.store8 5 (.tmp 16) (.tmp 15) rfl (by kernel_rfl) W1.heap.size (u1 % 32) (by kernel_rfl) ((da.getD (u1 % 32) 0) ^^^ turn) (by kernel_rfl) 25 da hb3 (by rw [hda]; omega)) ?_
    rintro W4 ⟨hb4, ch4⟩
    have zz4 := ch4.size
    refine Wk.rEnd 9 rfl ?_
    refine Wk.nxt ?_
    refine wp_seq ?_
    refine Wk.dReg ([]) (by kernel_rfl) ?_
    intro W5 ch5 sz3
    have zz5 := ch5.size
    have sS1 : Wk.Chg ([]) W5 W5 := (Wk.Chg.refl _).more (by simp)
    refine Wk.dVal 0 (some 17) (.agg ((b8s da).toArray)) rfl rfl (by kernel_rfl) (by kernel_rfl) (by kernel_rfl) (fun _ _ _ h => h) (by kernel_rfl) (fun w' hw' => (Mur.loadAll 25 (.tmp 3) rfl _ Tryd.underlying25 rfl w.heap.size (by kernel_rfl) da 32 hda (by kernel_rfl) 25 (0, 0) (Wk.Chg.hp hw' (Wk.Chg.hp ch5 (Wk.Chg.hp ch4 (Wk.Chg.hp ch3 (Wk.Chg.hp ch2 hb1 trivial) ⟨by omega, trivial⟩) ⟨by omega, trivial⟩) trivial) trivial))) sS1 ?_
    refine Wk.dVal 1 (some 18) (.agg ((b8s da).toArray)) rfl rfl (by kernel_rfl) (by kernel_rfl) (by kernel_rfl) (fun _ _ _ h => h) (by kernel_rfl) (fun w' hw' => (Mur.loadAll 25 (.tmp 3) rfl _ Tryd.underlying25 rfl w.heap.size (by kernel_rfl) da 32 hda (by kernel_rfl) 25 (0, 0) (Wk.Chg.hp hw' (Wk.Chg.hp ch5 (Wk.Chg.hp ch4 (Wk.Chg.hp ch3 (Wk.Chg.hp ch2 hb1 trivial) ⟨by omega, trivial⟩) ⟨by omega, trivial⟩) trivial) trivial))) sS1 ?_
    refine Wk.dOp 2 (by kernel_rfl) ?_
    refine Wk.oCall (some 19) 16 [.tmp 17, .tmp 18] #[25, 25] [.agg ((b8s da).toArray), .agg ((b8s da).toArray)] rfl rfl (by kernel_rfl) rfl (by kernel_rfl) (by kernel_rfl) ?_
    refine (Same_any da da hda hda W5).mono ?_
    rw [decide_eq_true (rfl : da = da)]
    rintro _ W6 ⟨rfl, ch6⟩
    have zz6 := ch6.size
    have sS2 := Wk.Chg.step sS1 ch6 trivial
    refine ⟨_, rfl, sS2, ?_⟩
    refine Wk.dVal 3 (some 20) (.bool true) rfl rfl (by kernel_rfl) (by kernel_rfl) (by kernel_rfl) (fun _ _ _ h => h) (by kernel_rfl) (fun w' hw' => by kernel_rfl) sS2 ?_
    refine Wk.dVal 4 (some 21) (.agg ((b8s da).toArray)) rfl rfl (by kernel_rfl) (by kernel_rfl) (by kernel_rfl) (fun _ _ _ h => h) (by kernel_rfl) (fun w' hw' => (Mur.loadAll 25 (.tmp 3) rfl _ Tryd.underlying25 rfl w.heap.size (by kernel_rfl) da 32 hda (by kernel_rfl) 25 (0, 0) (Wk.Chg.hp hw' (Wk.Chg.hp ch5 (Wk.Chg.hp ch4 (Wk.Chg.hp ch3 (Wk.Chg.hp ch2 hb1 trivial) ⟨by omega, trivial⟩) ⟨by omega, trivial⟩) trivial) trivial))) sS2 ?_
    refine Wk.dVal 5 (some 22) (.agg ((b8s (da.set (u1 % 32) ((da.getD (u1 % 32) 0) ^^^ turn))).toArray)) rfl rfl (by kernel_rfl) (by kernel_rfl) (by kernel_rfl) (fun _ _ _ h => h) (by kernel_rfl) (fun w' hw' => (Mur.loadAll 25 (.tmp 7) rfl _ Tryd.underlying25 rfl W1.heap.size (by kernel_rfl) (da.set (u1 % 32) ((da.getD (u1 % 32) 0) ^^^ turn)) 32 (by rw [List.length_set, hda]) (by kernel_rfl) 25 (0, 0) (Wk.Chg.hp hw' (Wk.Chg.hp ch5 hb4 trivial) trivial))) sS2 ?_
    refine Wk.dVal 7 (some 24) (.int .u8 ((turn.toNat : Nat) : Int)) rfl rfl (by kernel_rfl) (by kernel_rfl) (by kernel_rfl) (fun _ _ _ h => h) (by kernel_rfl) (fun w' hw' => by kernel_rfl) sS2 ?_
    refine Wk.dVal 8 (some 25) (.bool true) rfl rfl (by kernel_rfl) (by kernel_rfl) (by kernel_rfl) (fun _ _ _ h => h) (by kernel_rfl) (fun w' hw' => (Wk.boolT (b := (((turn.toNat : Nat) : Int) == (0 : Int))) (beq_iff_eq.2 (by rw [ht]; rfl)) (by kernel_rfl))) sS2 ?_
    refine Wk.dOp 6 (by kernel_rfl) ?_
    refine Wk.oCall (some 23) 16 [.tmp 21, .tmp 22] #[25, 25] [.agg ((b8s da).toArray), .agg ((b8s (da.set (u1 % 32) ((da.getD (u1 % 32) 0) ^^^ turn))).toArray)] rfl rfl (by kernel_rfl) rfl (by kernel_rfl) (by kernel_rfl) ?_
    refine (Same_any da (da.set (u1 % 32) ((da.getD (u1 % 32) 0) ^^^ turn)) hda (by rw [List.length_set, hda]) W6).mono ?_
    rw [decide_eq_true ((Mur.set_same ht).symm : da = (da.set (u1 % 32) ((da.getD (u1 % 32) 0) ^^^ turn)))]
    rintro _ W7 ⟨rfl, ch7⟩
    have zz7 := ch7.size
    have sS3 := Wk.Chg.step sS2 ch7 trivial
    refine ⟨_, rfl, sS3, ?_⟩
    refine Wk.dVal 9 (some 26) (.bool true) rfl rfl (by kernel_rfl) (by kernel_rfl) (by kernel_rfl) (fun _ _ _ h => h) (by kernel_rfl) (fun w' hw' => by kernel_rfl) sS3 ?_
    refine Wk.dVal 10 (some 27) (.bool true) rfl rfl (by kernel_rfl) (by kernel_rfl) (by kernel_rfl) (fun _ _ _ h => h) (by kernel_rfl) (fun w' hw' => by kernel_rfl) sS3 ?_
    refine Wk.dVal 11 (some 28) (.bool true) rfl rfl (by kernel_rfl) (by kernel_rfl) (by kernel_rfl) (fun _ _ _ h => h) (by kernel_rfl) (fun w' hw' => by kernel_rfl) sS3 ?_
    refine Wk.dVal 12 (some 29) (.agg ((b8s (da.set (u1 % 32) ((da.getD (u1 % 32) 0) ^^^ turn))).toArray)) rfl rfl (by kernel_rfl) (by kernel_rfl) (by kernel_rfl) (fun _ _ _ h => h) (by kernel_rfl) (fun w' hw' => (Mur.loadAll 25 (.tmp 7) rfl _ Tryd.underlying25 rfl W1.heap.size (by kernel_rfl) (da.set (u1 % 32) ((da.getD (u1 % 32) 0) ^^^ turn)) 32 (by rw [List.length_set, hda]) (by kernel_rfl) 25 (0, 0) (Wk.Chg.hp hw' (Wk.Chg.hp ch5 hb4 trivial) trivial))) sS3 ?_
    refine Wk.dVal 13 (some 30) (.agg ((b8s da).toArray)) rfl rfl (by kernel_rfl) (by kernel_rfl) (by kernel_rfl) (fun _ _ _ h => h) (by kernel_rfl) (fun w' hw' => (Mur.loadAll 25 (.tmp 3) rfl _ Tryd.underlying25 rfl w.heap.size (by kernel_rfl) da 32 hda (by kernel_rfl) 25 (0, 0) (Wk.Chg.hp hw' (Wk.Chg.hp ch5 (Wk.Chg.hp ch4 (Wk.Chg.hp ch3 (Wk.Chg.hp ch2 hb1 trivial) ⟨by omega, trivial⟩) ⟨by omega, trivial⟩) trivial) trivial))) sS3 ?_
    refine Wk.dVal 15 (some 32) (.agg ((b8s da).toArray)) rfl rfl (by kernel_rfl) (by kernel_rfl) (by kernel_rfl) (fun _ _ _ h => h) (by kernel_rfl) (fun w' hw' => (Mur.loadAll 25 (.tmp 3) rfl _ Tryd.underlying25 rfl w.heap.size (by kernel_rfl) da 32 hda (by kernel_rfl) 25 (0, 0) (Wk.Chg.hp hw' (Wk.Chg.hp ch5 (Wk.Chg.hp ch4 (Wk.Chg.hp ch3 (Wk.Chg.hp ch2 hb1 trivial) ⟨by omega, trivial⟩) ⟨by omega, trivial⟩) trivial) trivial))) sS3 ?_
    refine Wk.dVal 16 (some 33) (.agg ((b8s (da.set (u1 % 32) ((da.getD (u1 % 32) 0) ^^^ turn))).toArray)) rfl rfl (by kernel_rfl) (by kernel_rfl) (by kernel_rfl) (fun _ _ _ h => h) (by kernel_rfl) (fun w' hw' => (Mur.loadAll 25 (.tmp 7) rfl _ Tryd.underlying25 rfl W1.heap.size (by kernel_rfl) (da.set (u1 % 32) ((da.getD (u1 % 32) 0) ^^^ turn)) 32 (by rw [List.length_set, hda]) (by kernel_rfl) 25 (0, 0) (Wk.Chg.hp hw' (Wk.Chg.hp ch5 hb4 trivial) trivial))) sS3 ?_
    refine Wk.dVal 17 (some 34) (.bool true) rfl rfl (by kernel_rfl) (by kernel_rfl) (by kernel_rfl) (fun _ _ _ h => h) (by kernel_rfl) (fun w' hw' => (Mur.run_eql_yes digT da (da.set (u1 % 32) ((da.getD (u1 % 32) 0) ^^^ turn)) hda (by rw [List.length_set, hda]) ((Mur.set_same ht).symm) w' (.tmp 32) (.tmp 33) 25 rfl (by kernel_rfl) (by kernel_rfl))) sS3 ?_
    refine Wk.dOp 14 (by kernel_rfl) ?_
    refine Wk.oCall (some 31) 16 [.tmp 29, .tmp 30] #[25, 25] [.agg ((b8s (da.set (u1 % 32) ((da.getD (u1 % 32) 0) ^^^ turn))).toArray), .agg ((b8s da).toArray)] rfl rfl (by kernel_rfl) rfl (by kernel_rfl) (by kernel_rfl) ?_
    refine (Same_any (da.set (u1 % 32) ((da.getD (u1 % 32) 0) ^^^ turn)) da (by rw [List.length_set, hda]) hda W7).mono ?_
    rw [decide_eq_true (Mur.set_same ht : (da.set (u1 % 32) ((da.getD (u1 % 32) 0) ^^^ turn)) = da)]
    rintro _ W8 ⟨rfl, ch8⟩
    have zz8 := ch8.size
    have sS4 := Wk.Chg.step sS3 ch8 trivial
    refine ⟨_, rfl, sS4, ?_⟩
    refine Wk.dVal 18 (some 35) (.bool true) rfl rfl (by kernel_rfl) (by kernel_rfl) (by kernel_rfl) (fun _ _ _ h => h) (by kernel_rfl) (fun w' hw' => by kernel_rfl) sS4 ?_
    refine Wk.dVal 19 (some 36) (.bool true) rfl rfl (by kernel_rfl) (by kernel_rfl) (by kernel_rfl) (fun _ _ _ h => h) (by kernel_rfl) (fun w' hw' => by kernel_rfl) sS4 ?_
    refine Wk.dVal 20 (some 37) (.bool true) rfl rfl (by kernel_rfl) (by kernel_rfl) (by kernel_rfl) (fun _ _ _ h => h) (by kernel_rfl) (fun w' hw' => by kernel_rfl) sS4 ?_
    refine Wk.dOp 21 (by kernel_rfl) ?_
    refine Wk.oCall (some 38) 12 [] #[] [] rfl rfl (by kernel_rfl) rfl (by kernel_rfl) (by kernel_rfl) ?_
    have kk1 : Wk.Chg [] w W1 := Wk.Chg.step ((Wk.Chg.refl _).more (by simp)) ch1 trivial
    have kk2 := Wk.Chg.step kk1 ch2 trivial
    have kk3 := Wk.Chg.step kk2 ch3 ⟨.inr (by omega), trivial⟩
    have kk4 := Wk.Chg.step kk3 ch4 ⟨.inr (by omega), trivial⟩
    have kk5 := Wk.Chg.step kk4 ch5 trivial
    have kk6 := Wk.Chg.step kk5 ch6 trivial
    have kk7 := Wk.Chg.step kk6 ch7 trivial
    have kk8 := Wk.Chg.step kk7 ch8 trivial
    refine (known_any W8 (HV.out.below (Wk.Chg.below0 kk8))).mono ?_
    rintro _ W9 ⟨rfl, ch9⟩
    have zz9 := ch9.size
    have sS5 := Wk.Chg.step sS4 ch9 trivial
    refine ⟨_, rfl, sS5, ?_⟩
    refine Wk.dVal 22 (some 39) (.bool true) rfl rfl (by kernel_rfl) (by kernel_rfl) (by kernel_rfl) (fun _ _ _ h => h) (by kernel_rfl) (fun w' hw' => by kernel_rfl) sS5 ?_
    refine Wk.dVal 23 (some 6) (.bool true) rfl rfl (by kernel_rfl) (by kernel_rfl) (by kernel_rfl) (fun _ _ _ h => h) (by kernel_rfl) (fun w' hw' => by kernel_rfl) sS5 ?_
    refine Wk.dEnd (by kernel_rfl) ?_
    refine Wk.nxt ?_
    refine wp_ret ?_
    have kk9 := Wk.Chg.step kk8 ch9 trivial
    refine Wk.ret (.bool true) rfl (by kernel_rfl) ?_
    exact ⟨rfl, Wk.Chg.below0 kk9⟩
  · refine calls_of_wp Tryd.func5 rfl ?_
    refine wp_seq ?_
    refine Wk.reg ?_
    refine Wk.rEx 0 (some 3) _ rfl rfl (by kernel_rfl) (Wk.new_ex (.pointer (some ⟨w.heap.size, 0, none⟩)) ((b8s da).toArray) 25 (by kernel_rfl)) ?_
    rintro _ W10 ⟨rfl, hb5, ch10, sz4⟩
    have zz10 := ch10.size
    refine Wk.rPure 1 (some 6) (.bool false) rfl rfl (by kernel_rfl) (by kernel_rfl) ?_
    refine Wk.rEnd 2 rfl ?_
    refine Wk.nxt ?_
    refine wp_seq ?_
    refine Wk.reg ?_
    refine Wk.rPure 0 (some 8) (.agg ((b8s da).toArray)) rfl rfl (by kernel_rfl) (Mur.loadAll 25 (.tmp 3) rfl _ Tryd.underlying25 rfl w.heap.size (by kernel_rfl) da 32 hda (by kernel_rfl) 25 (0, 0) hb5) ?_
    refine Wk.rEx 1 (some 7) _ rfl rfl (by kernel_rfl) (Wk.new_ex (.pointer (some ⟨W10.heap.size, 0, none⟩)) #[.int .u8 0, .int .u8 0, .int .u8 0, .int .u8 0, .int .u8 0, .int .u8 0, .int .u8 0, .int .u8 0, .int .u8 0, .int .u8 0, .int .u8 0, .int .u8 0, .int .u8 0, .int .u8 0, .int .u8 0, .int .u8 0, .int .u8 0, .int .u8 0, .int .u8 0, .int .u8 0, .int .u8 0, .int .u8 0, .int .u8 0, .int .u8 0, .int .u8 0, .int .u8 0, .int .u8 0, .int .u8 0, .int .u8 0, .int .u8 0, .int .u8 0, .int .u8 0] 25 (by kernel_rfl)) ?_
    rintro _ W11 ⟨rfl, hb6, ch11, sz5⟩
    have zz11 := ch11.size
    refine Wk.rExS 2 none _ rfl rfl (by kernel_rfl) (Mur.storeAll 25 (.tmp 7) (.tmp 8) rfl W10.heap.size (by kernel_rfl) da 32 hda (by kernel_rfl) (by kernel_rfl) 25 #[.int .u8 0, .int .u8 0, .int .u8 0, .int .u8 0, .int .u8 0, .int .u8 0, .int .u8 0, .int .u8 0, .int .u8 0, .int .u8 0, .int .u8 0, .int .u8 0, .int .u8 0, .int .u8 0, .int .u8 0, .int .u8 0, .int .u8 0, .int .u8 0, .int .u8 0, .int .u8 0, .int .u8 0, .int .u8 0, .int .u8 0, .int .u8 0, .int .u8 0, .int .u8 0, .int .u8 0, .int .u8 0, .int .u8 0, .int .u8 0, .int .u8 0, .int .u8 0] hb6 rfl) ?_
    rintro W12 ⟨hb7, ch12⟩
    have zz12 := ch12.size
    refine Wk.rEnd 3 rfl ?_
    refine Wk.nxt ?_
    refine wp_seq ?_
    refine Wk.reg ?_
    refine Wk.rPure 0 (some 9) (.int .i64 at_) rfl rfl (by kernel_rfl) (by kernel_rfl) ?_
    refine Wk.rEx 1 (some 10) _ rfl rfl (by kernel_rfl) (Mur.to_u64 3 32 (.tmp 9) rfl (by kernel_rfl) Tryd.underlying32 .i64 at_ (by kernel_rfl)) ?_
    rintro _ _ ⟨u1, rfl, rfl, hu1⟩
    refine Wk.rPure 2 (some 11) (.int .u64 ((u1 % 32 : Nat) : Int)) rfl rfl (by kernel_rfl) (Mur.rem_u64 32 32 (.tmp 10) (.const (.int .u64 32)) rfl u1 32 (by kernel_rfl) (by kernel_rfl) (by omega)) ?_
    refine Wk.rPure 3 (some 12) (.pointer (some ⟨W10.heap.size, 0 + (u1 % 32) * 1, none⟩)) rfl rfl (by kernel_rfl) (Wk.index_arr 25 5 (.tmp 7) (.tmp 11) rfl 32 Tryd.underlying25 1 (by kernel_rfl) W10.heap.size 0 (u1 % 32) .u64 (by kernel_rfl) (by kernel_rfl) (by omega)) ?_
    refine Wk.rPure 4 (some 13) (.int .u8 (((da.getD (u1 % 32) 0).toNat : Nat) : Int)) rfl rfl (by kernel_rfl) (Wk.load1 5 (.tmp 12) rfl (by kernel_rfl) ⟨W10.heap.size, 0 + (u1 % 32) * 1, none⟩ (by kernel_rfl) (.int .u8 (((da.getD (u1 % 32) 0).toNat : Nat) : Int)) (Mur.blk_cell da hb7 (u1 % 32) (by rw [hda]; omega))) ?_
    refine Wk.rPure 5 (some 14) (.int .u8 ((turn.toNat : Nat) : Int)) rfl rfl (by kernel_rfl) (by kernel_rfl) ?_
    refine Wk.rPure 6 (some 15) (.int .u8 ((((da.getD (u1 % 32) 0) ^^^ turn).toNat : Nat) : Int)) rfl rfl (by kernel_rfl) (Mur.xor8 5 5 (.tmp 13) (.tmp 14) rfl (da.getD (u1 % 32) 0) turn (by kernel_rfl) (by kernel_rfl)) ?_
    refine Wk.rPure 7 (some 16) (.pointer (some ⟨W10.heap.size, 0 + (u1 % 32) * 1, none⟩)) rfl rfl (by kernel_rfl) (Wk.index_arr 25 5 (.tmp 7) (.tmp 11) rfl 32 Tryd.underlying25 1 (by kernel_rfl) W10.heap.size 0 (u1 % 32) .u64 (by kernel_rfl) (by kernel_rfl) (by omega)) ?_
    refine Wk.rExS 8 none _ rfl rfl (by kernel_rfl) (Mur.store8 5 (.tmp 16) (.tmp 15) rfl (by kernel_rfl) W10.heap.size (u1 % 32) (by kernel_rfl) ((da.getD (u1 % 32) 0) ^^^ turn) (by kernel_rfl) 25 da hb7 (by rw [hda]; omega)) ?_
    rintro W13 ⟨hb8, ch13⟩
    have zz13 := ch13.size
    refine Wk.rEnd 9 rfl ?_
    refine Wk.nxt ?_
    refine wp_seq ?_
    refine Wk.dReg ([]) (by kernel_rfl) ?_
    intro W14 ch14 sz6
    have zz14 := ch14.size
    have sS6 : Wk.Chg ([]) W14 W14 := (Wk.Chg.refl _).more (by simp)
    refine Wk.dVal 0 (some 17) (.agg ((b8s da).toArray)) rfl rfl (by kernel_rfl) (by kernel_rfl) (by kernel_rfl) (fun _ _ _ h => h) (by kernel_rfl) (fun w' hw' => (Mur.loadAll 25 (.tmp 3) rfl _ Tryd.underlying25 rfl w.heap.size (by kernel_rfl) da 32 hda (by kernel_rfl) 25 (0, 0) (Wk.Chg.hp hw' (Wk.Chg.hp ch14 (Wk.Chg.hp ch13 (Wk.Chg.hp ch12 (Wk.Chg.hp ch11 hb5 trivial) ⟨by omega, trivial⟩) ⟨by omega, trivial⟩) trivial) trivial))) sS6 ?_
    refine Wk.dVal 1 (some 18) (.agg ((b8s da).toArray)) rfl rfl (by kernel_rfl) (by kernel_rfl) (by kernel_rfl) (fun _ _ _ h => h) (by kernel_rfl) (fun w' hw' => (Mur.loadAll 25 (.tmp 3) rfl _ Tryd.underlying25 rfl w.heap.size (by kernel_rfl) da 32 hda (by kernel_rfl) 25 (0, 0) (Wk.Chg.hp hw' (Wk.Chg.hp ch14 (Wk.Chg.hp ch13 (Wk.Chg.hp ch12 (Wk.Chg.hp ch11 hb5 trivial) ⟨by omega, trivial⟩) ⟨by omega, trivial⟩) trivial) trivial))) sS6 ?_
    refine Wk.dOp 2 (by kernel_rfl) ?_
    refine Wk.oCall (some 19) 16 [.tmp 17, .tmp 18] #[25, 25] [.agg ((b8s da).toArray), .agg ((b8s da).toArray)] rfl rfl (by kernel_rfl) rfl (by kernel_rfl) (by kernel_rfl) ?_
    refine (Same_any da da hda hda W14).mono ?_
    rw [decide_eq_true (rfl : da = da)]
    rintro _ W15 ⟨rfl, ch15⟩
    have zz15 := ch15.size
    have sS7 := Wk.Chg.step sS6 ch15 trivial
    refine ⟨_, rfl, sS7, ?_⟩
    refine Wk.dVal 3 (some 20) (.bool true) rfl rfl (by kernel_rfl) (by kernel_rfl) (by kernel_rfl) (fun _ _ _ h => h) (by kernel_rfl) (fun w' hw' => by kernel_rfl) sS7 ?_
    refine Wk.dVal 4 (some 21) (.agg ((b8s da).toArray)) rfl rfl (by kernel_rfl) (by kernel_rfl) (by kernel_rfl) (fun _ _ _ h => h) (by kernel_rfl) (fun w' hw' => (Mur.loadAll 25 (.tmp 3) rfl _ Tryd.underlying25 rfl w.heap.size (by kernel_rfl) da 32 hda (by kernel_rfl) 25 (0, 0) (Wk.Chg.hp hw' (Wk.Chg.hp ch14 (Wk.Chg.hp ch13 (Wk.Chg.hp ch12 (Wk.Chg.hp ch11 hb5 trivial) ⟨by omega, trivial⟩) ⟨by omega, trivial⟩) trivial) trivial))) sS7 ?_
    refine Wk.dVal 5 (some 22) (.agg ((b8s (da.set (u1 % 32) ((da.getD (u1 % 32) 0) ^^^ turn))).toArray)) rfl rfl (by kernel_rfl) (by kernel_rfl) (by kernel_rfl) (fun _ _ _ h => h) (by kernel_rfl) (fun w' hw' => (Mur.loadAll 25 (.tmp 7) rfl _ Tryd.underlying25 rfl W10.heap.size (by kernel_rfl) (da.set (u1 % 32) ((da.getD (u1 % 32) 0) ^^^ turn)) 32 (by rw [List.length_set, hda]) (by kernel_rfl) 25 (0, 0) (Wk.Chg.hp hw' (Wk.Chg.hp ch14 hb8 trivial) trivial))) sS7 ?_
    refine Wk.dVal 7 (some 24) (.int .u8 ((turn.toNat : Nat) : Int)) rfl rfl (by kernel_rfl) (by kernel_rfl) (by kernel_rfl) (fun _ _ _ h => h) (by kernel_rfl) (fun w' hw' => by kernel_rfl) sS7 ?_
    refine Wk.dVal 8 (some 25) (.bool false) rfl rfl (by kernel_rfl) (by kernel_rfl) (by kernel_rfl) (fun _ _ _ h => h) (by kernel_rfl) (fun w' hw' => (Wk.boolF (b := (((turn.toNat : Nat) : Int) == (0 : Int))) (beq_eq_false_iff_ne.2 (fun h => ht (Mur.u8_zero h))) (by kernel_rfl))) sS7 ?_
    refine Wk.dOp 6 (by kernel_rfl) ?_
    refine Wk.oCall (some 23) 16 [.tmp 21, .tmp 22] #[25, 25] [.agg ((b8s da).toArray), .agg ((b8s (da.set (u1 % 32) ((da.getD (u1 % 32) 0) ^^^ turn))).toArray)] rfl rfl (by kernel_rfl) rfl (by kernel_rfl) (by kernel_rfl) ?_
    refine (Same_any da (da.set (u1 % 32) ((da.getD (u1 % 32) 0) ^^^ turn)) hda (by rw [List.length_set, hda]) W15).mono ?_
    rw [decide_eq_false (Mur.set_other (by rw [hda]; omega) ht : ¬ da = (da.set (u1 % 32) ((da.getD (u1 % 32) 0) ^^^ turn)))]
    rintro _ W16 ⟨rfl, ch16⟩
    have zz16 := ch16.size
    have sS8 := Wk.Chg.step sS7 ch16 trivial
    refine ⟨_, rfl, sS8, ?_⟩
    refine Wk.dVal 9 (some 26) (.bool true) rfl rfl (by kernel_rfl) (by kernel_rfl) (by kernel_rfl) (fun _ _ _ h => h) (by kernel_rfl) (fun w' hw' => by kernel_rfl) sS8 ?_
    refine Wk.dVal 10 (some 27) (.bool true) rfl rfl (by kernel_rfl) (by kernel_rfl) (by kernel_rfl) (fun _ _ _ h => h) (by kernel_rfl) (fun w' hw' => by kernel_rfl) sS8 ?_
    refine Wk.dVal 11 (some 28) (.bool true) rfl rfl (by kernel_rfl) (by kernel_rfl) (by kernel_rfl) (fun _ _ _ h => h) (by kernel_rfl) (fun w' hw' => by kernel_rfl) sS8 ?_
    refine Wk.dVal 12 (some 29) (.agg ((b8s (da.set (u1 % 32) ((da.getD (u1 % 32) 0) ^^^ turn))).toArray)) rfl rfl (by kernel_rfl) (by kernel_rfl) (by kernel_rfl) (fun _ _ _ h => h) (by kernel_rfl) (fun w' hw' => (Mur.loadAll 25 (.tmp 7) rfl _ Tryd.underlying25 rfl W10.heap.size (by kernel_rfl) (da.set (u1 % 32) ((da.getD (u1 % 32) 0) ^^^ turn)) 32 (by rw [List.length_set, hda]) (by kernel_rfl) 25 (0, 0) (Wk.Chg.hp hw' (Wk.Chg.hp ch14 hb8 trivial) trivial))) sS8 ?_
    refine Wk.dVal 13 (some 30) (.agg ((b8s da).toArray)) rfl rfl (by kernel_rfl) (by kernel_rfl) (by kernel_rfl) (fun _ _ _ h => h) (by kernel_rfl) (fun w' hw' => (Mur.loadAll 25 (.tmp 3) rfl _ Tryd.underlying25 rfl w.heap.size (by kernel_rfl) da 32 hda (by kernel_rfl) 25 (0, 0) (Wk.Chg.hp hw' (Wk.Chg.hp ch14 (Wk.Chg.hp ch13 (Wk.Chg.hp ch12 (Wk.Chg.hp ch11 hb5 trivial) ⟨by omega, trivial⟩) ⟨by omega, trivial⟩) trivial) trivial))) sS8 ?_
    refine Wk.dVal 15 (some 32) (.agg ((b8s da).toArray)) rfl rfl (by kernel_rfl) (by kernel_rfl) (by kernel_rfl) (fun _ _ _ h => h) (by kernel_rfl) (fun w' hw' => (Mur.loadAll 25 (.tmp 3) rfl _ Tryd.underlying25 rfl w.heap.size (by kernel_rfl) da 32 hda (by kernel_rfl) 25 (0, 0) (Wk.Chg.hp hw' (Wk.Chg.hp ch14 (Wk.Chg.hp ch13 (Wk.Chg.hp ch12 (Wk.Chg.hp ch11 hb5 trivial) ⟨by omega, trivial⟩) ⟨by omega, trivial⟩) trivial) trivial))) sS8 ?_
    refine Wk.dVal 16 (some 33) (.agg ((b8s (da.set (u1 % 32) ((da.getD (u1 % 32) 0) ^^^ turn))).toArray)) rfl rfl (by kernel_rfl) (by kernel_rfl) (by kernel_rfl) (fun _ _ _ h => h) (by kernel_rfl) (fun w' hw' => (Mur.loadAll 25 (.tmp 7) rfl _ Tryd.underlying25 rfl W10.heap.size (by kernel_rfl) (da.set (u1 % 32) ((da.getD (u1 % 32) 0) ^^^ turn)) 32 (by rw [List.length_set, hda]) (by kernel_rfl) 25 (0, 0) (Wk.Chg.hp hw' (Wk.Chg.hp ch14 hb8 trivial) trivial))) sS8 ?_
    refine Wk.dVal 17 (some 34) (.bool false) rfl rfl (by kernel_rfl) (by kernel_rfl) (by kernel_rfl) (fun _ _ _ h => h) (by kernel_rfl) (fun w' hw' => (Mur.run_eql_no digT da (da.set (u1 % 32) ((da.getD (u1 % 32) 0) ^^^ turn)) hda (by rw [List.length_set, hda]) (Mur.set_other (by rw [hda]; omega) ht) w' (.tmp 32) (.tmp 33) 25 rfl (by kernel_rfl) (by kernel_rfl))) sS8 ?_
    refine Wk.dOp 14 (by kernel_rfl) ?_
    refine Wk.oCall (some 31) 16 [.tmp 29, .tmp 30] #[25, 25] [.agg ((b8s (da.set (u1 % 32) ((da.getD (u1 % 32) 0) ^^^ turn))).toArray), .agg ((b8s da).toArray)] rfl rfl (by kernel_rfl) rfl (by kernel_rfl) (by kernel_rfl) ?_
    refine (Same_any (da.set (u1 % 32) ((da.getD (u1 % 32) 0) ^^^ turn)) da (by rw [List.length_set, hda]) hda W16).mono ?_
    rw [decide_eq_false (fun q => Mur.set_other (by rw [hda]; omega) ht q.symm : ¬ (da.set (u1 % 32) ((da.getD (u1 % 32) 0) ^^^ turn)) = da)]
    rintro _ W17 ⟨rfl, ch17⟩
    have zz17 := ch17.size
    have sS9 := Wk.Chg.step sS8 ch17 trivial
    refine ⟨_, rfl, sS9, ?_⟩
    refine Wk.dVal 18 (some 35) (.bool true) rfl rfl (by kernel_rfl) (by kernel_rfl) (by kernel_rfl) (fun _ _ _ h => h) (by kernel_rfl) (fun w' hw' => by kernel_rfl) sS9 ?_
    refine Wk.dVal 19 (some 36) (.bool true) rfl rfl (by kernel_rfl) (by kernel_rfl) (by kernel_rfl) (fun _ _ _ h => h) (by kernel_rfl) (fun w' hw' => by kernel_rfl) sS9 ?_
    refine Wk.dVal 20 (some 37) (.bool true) rfl rfl (by kernel_rfl) (by kernel_rfl) (by kernel_rfl) (fun _ _ _ h => h) (by kernel_rfl) (fun w' hw' => by kernel_rfl) sS9 ?_
    refine Wk.dOp 21 (by kernel_rfl) ?_
    refine Wk.oCall (some 38) 12 [] #[] [] rfl rfl (by kernel_rfl) rfl (by kernel_rfl) (by kernel_rfl) ?_
    have kk10 : Wk.Chg [] w W10 := Wk.Chg.step ((Wk.Chg.refl _).more (by simp)) ch10 trivial
    have kk11 := Wk.Chg.step kk10 ch11 trivial
    have kk12 := Wk.Chg.step kk11 ch12 ⟨.inr (by omega), trivial⟩
    have kk13 := Wk.Chg.step kk12 ch13 ⟨.inr (by omega), trivial⟩
    have kk14 := Wk.Chg.step kk13 ch14 trivial
    have kk15 := Wk.Chg.step kk14 ch15 trivial
    have kk16 := Wk.Chg.step kk15 ch16 trivial
    have kk17 := Wk.Chg.step kk16 ch17 trivial
    refine (known_any W17 (HV.out.below (Wk.Chg.below0 kk17))).mono ?_
    rintro _ W18 ⟨rfl, ch18⟩
    have zz18 := ch18.size
    have sS10 := Wk.Chg.step sS9 ch18 trivial
    refine ⟨_, rfl, sS10, ?_⟩
    refine Wk.dVal 22 (some 39) (.bool true) rfl rfl (by kernel_rfl) (by kernel_rfl) (by kernel_rfl) (fun _ _ _ h => h) (by kernel_rfl) (fun w' hw' => by kernel_rfl) sS10 ?_
    refine Wk.dVal 23 (some 6) (.bool true) rfl rfl (by kernel_rfl) (by kernel_rfl) (by kernel_rfl) (fun _ _ _ h => h) (by kernel_rfl) (fun w' hw' => by kernel_rfl) sS10 ?_
    refine Wk.dEnd (by kernel_rfl) ?_
    refine Wk.nxt ?_
    refine wp_ret ?_
    have kk18 := Wk.Chg.step kk17 ch18 trivial
    refine Wk.ret (.bool true) rfl (by kernel_rfl) ?_
    exact ⟨rfl, Wk.Chg.below0 kk18⟩
end Go.Proofs.YtljfjjofhclhiaaDoor
