/- attest.Read, walked. -/
import Derived.Test.YtljfjjofhclhiaaDoorAtR
namespace Go.Proofs.YtljfjjofhclhiaaDoor
open Go.RowKit
open Mur (b8s Byt Own8 Seg Segs flat cutA attC)
set_option maxRecDepth 100000
set_option maxHeartbeats 4000000
theorem Read_len (A : Option Addr) (n c : Nat) (w : World) (hn : ¬ n = 104) : Calls Tryd.prog 26 #[.slice A n c] w fun e w' => e = .returned (.tuple #[.agg (attC Mur.z32 Mur.z32 0 Mur.z32).toArray, .int .i64 5]) ∧ Wk.Chg [] w w' := by
  refine calls_of_wp Tryd.func26 rfl ?_
  refine wp_seq ?_
  refine Wk.reg ?_
  refine Wk.rEx 0 (some 2) _ rfl rfl (by kernel_rfl) (Wk.new_ex (.pointer (some ⟨w.heap.size, 0, none⟩)) #[.int .u8 0, .int .u8 0, .int .u8 0, .int .u8 0, .int .u8 0, .int .u8 0, .int .u8 0, .int .u8 0, .int .u8 0, .int .u8 0, .int .u8 0, .int .u8 0, .int .u8 0, .int .u8 0, .int .u8 0, .int .u8 0, .int .u8 0, .int .u8 0, .int .u8 0, .int .u8 0, .int .u8 0, .int .u8 0, .int .u8 0, .int .u8 0, .int .u8 0, .int .u8 0, .int .u8 0, .int .u8 0, .int .u8 0, .int .u8 0, .int .u8 0, .int .u8 0, .int .u8 0, .int .u8 0, .int .u8 0, .int .u8 0, .int .u8 0, .int .u8 0, .int .u8 0, .int .u8 0, .int .u8 0, .int .u8 0, .int .u8 0, .int .u8 0, .int .u8 0, .int .u8 0, .int .u8 0, .int .u8 0, .int .u8 0, .int .u8 0, .int .u8 0, .int .u8 0, .int .u8 0, .int .u8 0, .int .u8 0, .int .u8 0, .int .u8 0, .int .u8 0, .int .u8 0, .int .u8 0, .int .u8 0, .int .u8 0, .int .u8 0, .int .u8 0, .int .i64 0, .int .u8 0, .int .u8 0, .int .u8 0, .int .u8 0, .int .u8 0, .int .u8 0, .int .u8 0, .int .u8 0, .int .u8 0, .int .u8 0, .int .u8 0, .int .u8 0, .int .u8 0, .int .u8 0, .int .u8 0, .int .u8 0, .int .u8 0, .int .u8 0, .int .u8 0, .int .u8 0, .int .u8 0, .int .u8 0, .int .u8 0, .int .u8 0, .int .u8 0, .int .u8 0, .int .u8 0, .int .u8 0, .int .u8 0, .int .u8 0, .int .u8 0, .int .u8 0] 36 (by kernel_rfl)) ?_
  rintro _ W1 ⟨rfl, hb1, ch1, sz1⟩
  have zz1 := ch1.size
  rw [← Mur.attC_zero] at hb1
  refine Wk.rPure 1 (some 3) (.int .i64 0) rfl rfl (by kernel_rfl) (by kernel_rfl) ?_
  refine Wk.rEnd 2 rfl ?_
  refine Wk.nxt ?_
  refine wp_seq ?_
  refine wp_seq ?_
  refine Wk.reg ?_
  refine Wk.rPure 0 (some 7) (.slice A n c) rfl rfl (by kernel_rfl) (by kernel_rfl) ?_
  refine Wk.rPure 1 (some 8) (.int .i64 ((n : Nat) : Int)) rfl rfl (by kernel_rfl) (by kernel_rfl) ?_
  refine Wk.rPure 2 (some 9) (.bool true) rfl rfl (by kernel_rfl) (Wk.boolT (b := (((n : Nat) : Int) != (104 : Int))) (bne_iff_ne.2 (by omega)) (by kernel_rfl)) ?_
  refine Wk.rEnd 3 rfl ?_
  refine Wk.nxt ?_
  refine wp_cond_true (by kernel_rfl) ?_
  refine wp_seq ?_
  refine Wk.reg ?_
  refine Wk.rPure 0 (some 10) (.agg ((Mur.attC Mur.z32 Mur.z32 0 Mur.z32).toArray)) rfl rfl (by kernel_rfl) (Mur.loadArr 36 (.tmp 2) rfl _ Tryd.underlying36 rfl w.heap.size (by kernel_rfl) (Mur.attC Mur.z32 Mur.z32 0 Mur.z32).toArray 97 (Mur.attC_size rfl rfl rfl) (by kernel_rfl) 36 (0, 0) hb1) ?_
  refine Wk.rExS 1 none _ rfl rfl (by kernel_rfl) (Mur.storeArr 36 (.tmp 2) (.tmp 10) rfl w.heap.size (by kernel_rfl) (Mur.attC Mur.z32 Mur.z32 0 Mur.z32).toArray 97 (Mur.attC_size rfl rfl rfl) Mur.attC_all (by kernel_rfl) (by kernel_rfl) 36 ((Mur.attC Mur.z32 Mur.z32 0 Mur.z32).toArray) hb1 (Mur.attC_size rfl rfl rfl)) ?_
  rintro W2 ⟨hb2, ch2⟩
  have zz2 := ch2.size
  refine Wk.rPure 2 (some 3) (.int .i64 5) rfl rfl (by kernel_rfl) (by kernel_rfl) ?_
  refine Wk.rEnd 3 rfl ?_
  refine Wk.nxt ?_
  refine wp_ret ?_
  refine Wk.thR ?_
  have kk1 : Wk.Chg [] w W1 := Wk.Chg.step ((Wk.Chg.refl _).more (by simp)) ch1 trivial
  have kk2 := Wk.Chg.step kk1 ch2 ⟨.inr (by omega), trivial⟩
  refine Wk.ret (.tuple #[.agg (Mur.attC Mur.z32 Mur.z32 0 Mur.z32).toArray, .int .i64 5]) rfl (results_att rfl _ _ w.heap.size (Mur.attC Mur.z32 Mur.z32 0 Mur.z32).toArray (0, 0) (.int .i64 5) (by kernel_rfl) hb2 (Mur.attC_size rfl rfl rfl) (by kernel_rfl)) ?_
  exact ⟨rfl, kk2⟩
theorem Read_no (g off c : Nat) (b K R E T : List UInt8) (V : Nat) (w : World) (hb : Byt w (some ⟨g, off, none⟩) 104 b) (hc : 104 ≤ c) (hK : (b.take 32).drop 0 = K) (hR : (b.take 64).drop 32 = R) (hE : (b.take 72).drop 64 = E) (hT : (b.take 104).drop 72 = T) (hV : Mur.be8 E = V) (hm : ¬ (1 ≤ V ∧ V ≤ 5000)) : Calls Tryd.prog 26 #[.slice (some ⟨g, off, none⟩) 104 c] w fun e w' => e = .returned (.tuple #[.agg (attC Mur.z32 Mur.z32 0 Mur.z32).toArray, .int .i64 5]) ∧ Wk.Chg [] w w' := by
  have hb0 : Byt w (some ⟨g, off + 0, none⟩) 32 K := by have := Mur.byt_sub hb 0 32 32 rfl (by omega); rw [hK] at this; exact this
  have hb32 : Byt w (some ⟨g, off + 32, none⟩) 32 R := by have := Mur.byt_sub hb 32 64 32 rfl (by omega); rw [hR] at this; exact this
  have hb64 : Byt w (some ⟨g, off + 64, none⟩) 8 E := by have := Mur.byt_sub hb 64 72 8 rfl (by omega); rw [hE] at this; exact this
  have hb72 : Byt w (some ⟨g, off + 72, none⟩) 32 T := by have := Mur.byt_sub hb 72 104 32 rfl (by omega); rw [hT] at this; exact this
  have hx0_ := (E.getD 0 0).toNat_lt
  have hx1_ := (E.getD 1 0).toNat_lt
  have hx2_ := (E.getD 2 0).toNat_lt
  have hx3_ := (E.getD 3 0).toNat_lt
  have hx4_ := (E.getD 4 0).toNat_lt
  have hx5_ := (E.getD 5 0).toNat_lt
  have hx6_ := (E.getD 6 0).toNat_lt
  have hx7_ := (E.getD 7 0).toNat_lt
  refine calls_of_wp Tryd.func26 rfl ?_
  refine wp_seq ?_
  refine Wk.reg ?_
  refine Wk.rEx 0 (some 2) _ rfl rfl (by kernel_rfl) (Wk.new_ex (.pointer (some ⟨w.heap.size, 0, none⟩)) #[.int .u8 0, .int .u8 0, .int .u8 0, .int .u8 0, .int .u8 0, .int .u8 0, .int .u8 0, .int .u8 0, .int .u8 0, .int .u8 0, .int .u8 0, .int .u8 0, .int .u8 0, .int .u8 0, .int .u8 0, .int .u8 0, .int .u8 0, .int .u8 0, .int .u8 0, .int .u8 0, .int .u8 0, .int .u8 0, .int .u8 0, .int .u8 0, .int .u8 0, .int .u8 0, .int .u8 0, .int .u8 0, .int .u8 0, .int .u8 0, .int .u8 0, .int .u8 0, .int .u8 0, .int .u8 0, .int .u8 0, .int .u8 0, .int .u8 0, .int .u8 0, .int .u8 0, .int .u8 0, .int .u8 0, .int .u8 0, .int .u8 0, .int .u8 0, .int .u8 0, .int .u8 0, .int .u8 0, .int .u8 0, .int .u8 0, .int .u8 0, .int .u8 0, .int .u8 0, .int .u8 0, .int .u8 0, .int .u8 0, .int .u8 0, .int .u8 0, .int .u8 0, .int .u8 0, .int .u8 0, .int .u8 0, .int .u8 0, .int .u8 0, .int .u8 0, .int .i64 0, .int .u8 0, .int .u8 0, .int .u8 0, .int .u8 0, .int .u8 0, .int .u8 0, .int .u8 0, .int .u8 0, .int .u8 0, .int .u8 0, .int .u8 0, .int .u8 0, .int .u8 0, .int .u8 0, .int .u8 0, .int .u8 0, .int .u8 0, .int .u8 0, .int .u8 0, .int .u8 0, .int .u8 0, .int .u8 0, .int .u8 0, .int .u8 0, .int .u8 0, .int .u8 0, .int .u8 0, .int .u8 0, .int .u8 0, .int .u8 0, .int .u8 0, .int .u8 0] 36 (by kernel_rfl)) ?_
  rintro _ W1 ⟨rfl, hb1, ch1, sz1⟩
  have zz1 := ch1.size
  rw [← Mur.attC_zero] at hb1
  refine Wk.rPure 1 (some 3) (.int .i64 0) rfl rfl (by kernel_rfl) (by kernel_rfl) ?_
  refine Wk.rEnd 2 rfl ?_
  refine Wk.nxt ?_
  refine wp_seq ?_
  refine wp_seq ?_
  refine Wk.reg ?_
  refine Wk.rPure 0 (some 7) (.slice (some ⟨g, off, none⟩) 104 c) rfl rfl (by kernel_rfl) (by kernel_rfl) ?_
  refine Wk.rPure 1 (some 8) (.int .i64 104) rfl rfl (by kernel_rfl) (by kernel_rfl) ?_
  refine Wk.rPure 2 (some 9) (.bool false) rfl rfl (by kernel_rfl) (Wk.boolF (b := ((104 : Int) != (104 : Int))) (bne_eq_false_iff_eq.2 (by decide)) (by kernel_rfl)) ?_
  refine Wk.rEnd 3 rfl ?_
  refine Wk.nxt ?_
  refine wp_cond_false (by kernel_rfl) ?_
  refine wp_skip ?_
  refine Wk.nxt ?_
  refine wp_seq ?_
  refine Wk.dReg ([w.heap.size]) (by kernel_rfl) ?_
  intro W2 ch2 sz2
  have zz2 := ch2.size
  have sS1 : Wk.Chg ([w.heap.size]) W2 W2 := (Wk.Chg.refl _).more (by simp)
  refine Wk.dVal 0 (some 11) (.pointer (some ⟨w.heap.size, 0, none⟩)) rfl rfl (by kernel_rfl) (by kernel_rfl) (by kernel_rfl) (fun _ _ _ h => h) (by kernel_rfl) (fun w' hw' => by kernel_rfl) sS1 ?_
  refine Wk.dVal 1 (some 12) (.slice (some ⟨w.heap.size, 0, none⟩) 32 32) rfl rfl (by kernel_rfl) (by kernel_rfl) (by kernel_rfl) (fun _ _ _ h => h) (by kernel_rfl) (fun w' hw' => (Mur.arr_slice 25 5 (.tmp 11) 32 rfl Tryd.underlying25 (by kernel_rfl) w.heap.size (by kernel_rfl))) sS1 ?_
  refine Wk.dVal 2 (some 13) (.slice (some ⟨g, off, none⟩) 104 c) rfl rfl (by kernel_rfl) (by kernel_rfl) (by kernel_rfl) (fun _ _ _ h => h) (by kernel_rfl) (fun w' hw' => by kernel_rfl) sS1 ?_
  refine Wk.dVal 3 (some 14) (.slice (some ⟨g, off + 0, none⟩) 32 32) rfl rfl (by kernel_rfl) (by kernel_rfl) (by kernel_rfl) (fun _ _ _ h => h) (by kernel_rfl) (fun w' hw' => (Mur.run_cut3 22 (.tmp 13) none (.const (.int .i64 32)) (.const (.int .i64 32)) rfl 5 Tryd.underlying22 (by kernel_rfl) g off 104 c 0 32 32 32 (by kernel_rfl) (.inr ⟨rfl, rfl⟩) (by kernel_rfl) (by kernel_rfl) rfl rfl (by omega) (by omega))) sS1 ?_
  refine Wk.dOp 4 (by kernel_rfl) ?_
  have kk1 : Wk.Chg [] w W1 := Wk.Chg.step ((Wk.Chg.refl _).more (by simp)) ch1 trivial
  have kk2 := Wk.Chg.step kk1 ch2 trivial
  refine Wk.oEx (some 15) _ rfl rfl (by kernel_rfl) (Mur.copy_mid (.tmp 12) (.tmp 14) 22 22 rfl 5 Tryd.underlying22 (by kernel_rfl) w.heap.size 0 32 32 (by kernel_rfl) (some ⟨g, off + 0, none⟩) 32 32 (by kernel_rfl) 36 (Mur.attC Mur.z32 Mur.z32 0 Mur.z32) K (Wk.Chg.hp ch2 hb1 trivial) (Mur.byt_chg hb0 kk2 (fun g off e hl => trivial)) (by omega) (by omega) (by rw [Mur.attC_length rfl rfl rfl]; omega) _ (Mur.att_sp0 rfl hb0.1)) ?_
  rintro _ W3 ⟨rfl, hb2, ch3⟩
  have zz3 := ch3.size
  have sS2 := Wk.Chg.step sS1 ch3 ⟨.inl (by simp), trivial⟩
  refine ⟨sS2, ?_⟩
  refine Wk.dEnd (by kernel_rfl) ?_
  refine Wk.nxt ?_
  refine wp_seq ?_
  refine Wk.dReg ([w.heap.size]) (by kernel_rfl) ?_
  intro W4 ch4 sz3
  have zz4 := ch4.size
  have sS3 : Wk.Chg ([w.heap.size]) W4 W4 := (Wk.Chg.refl _).more (by simp)
  refine Wk.dVal 0 (some 16) (.pointer (some ⟨w.heap.size, 32, none⟩)) rfl rfl (by kernel_rfl) (by kernel_rfl) (by kernel_rfl) (fun _ _ _ h => h) (by kernel_rfl) (fun w' hw' => by kernel_rfl) sS3 ?_
  refine Wk.dVal 1 (some 17) (.slice (some ⟨w.heap.size, 32, none⟩) 32 32) rfl rfl (by kernel_rfl) (by kernel_rfl) (by kernel_rfl) (fun _ _ _ h => h) (by kernel_rfl) (fun w' hw' => (Mur.arr_slice_at 25 5 (.tmp 16) 32 rfl Tryd.underlying25 (by kernel_rfl) w.heap.size 32 (by kernel_rfl))) sS3 ?_
  refine Wk.dVal 2 (some 18) (.slice (some ⟨g, off, none⟩) 104 c) rfl rfl (by kernel_rfl) (by kernel_rfl) (by kernel_rfl) (fun _ _ _ h => h) (by kernel_rfl) (fun w' hw' => by kernel_rfl) sS3 ?_
  refine Wk.dVal 3 (some 19) (.slice (some ⟨g, off + 32, none⟩) 32 32) rfl rfl (by kernel_rfl) (by kernel_rfl) (by kernel_rfl) (fun _ _ _ h => h) (by kernel_rfl) (fun w' hw' => (Mur.run_cut3 22 (.tmp 18) (some (.const (.int .i64 32))) (.const (.int .i64 64)) (.const (.int .i64 64)) rfl 5 Tryd.underlying22 (by kernel_rfl) g off 104 c 32 64 64 32 (by kernel_rfl) (.inl (by kernel_rfl)) (by kernel_rfl) (by kernel_rfl) rfl rfl (by omega) (by omega))) sS3 ?_
  refine Wk.dOp 4 (by kernel_rfl) ?_
  have kk3 := Wk.Chg.step kk2 ch3 ⟨.inr (by omega), trivial⟩
  have kk4 := Wk.Chg.step kk3 ch4 trivial
  refine Wk.oEx (some 20) _ rfl rfl (by kernel_rfl) (Mur.copy_mid (.tmp 17) (.tmp 19) 22 22 rfl 5 Tryd.underlying22 (by kernel_rfl) w.heap.size 32 32 32 (by kernel_rfl) (some ⟨g, off + 32, none⟩) 32 32 (by kernel_rfl) 36 (Mur.attC K Mur.z32 0 Mur.z32) R (Wk.Chg.hp ch4 hb2 trivial) (Mur.byt_chg hb32 kk4 (fun g off e hl => trivial)) (by omega) (by omega) (by rw [Mur.attC_length hb0.1 rfl rfl]; omega) _ (Mur.att_sp32 hb0.1 rfl hb32.1)) ?_
  rintro _ W5 ⟨rfl, hb3, ch5⟩
  have zz5 := ch5.size
  have sS4 := Wk.Chg.step sS3 ch5 ⟨.inl (by simp), trivial⟩
  refine ⟨sS4, ?_⟩
  refine Wk.dEnd (by kernel_rfl) ?_
  refine Wk.nxt ?_
  refine wp_seq ?_
  refine Wk.reg ?_
  refine Wk.rPure 0 (some 4) (.int .u64 0) rfl rfl (by kernel_rfl) (by kernel_rfl) ?_
  refine Wk.rEnd 1 rfl ?_
  refine Wk.nxt ?_
  refine wp_seq ?_
  refine wp_seq ?_
  refine Wk.reg ?_
  refine Wk.rPure 0 (some 21) (.slice (some ⟨g, off, none⟩) 104 c) rfl rfl (by kernel_rfl) (by kernel_rfl) ?_
  refine Wk.rPure 1 (some 22) (.slice (some ⟨g, off + 64, none⟩) 8 8) rfl rfl (by kernel_rfl) (Mur.run_cut3 22 (.tmp 21) (some (.const (.int .i64 64))) (.const (.int .i64 72)) (.const (.int .i64 72)) rfl 5 Tryd.underlying22 (by kernel_rfl) g off 104 c 64 72 72 8 (by kernel_rfl) (.inl (by kernel_rfl)) (by kernel_rfl) (by kernel_rfl) rfl rfl (by omega) (by omega)) ?_
  refine Wk.rPure 2 (some 23) (.int .i64 8) rfl rfl (by kernel_rfl) (by kernel_rfl) ?_
  refine Wk.rPure 3 (some 24) (.int .i64 0) rfl rfl (by kernel_rfl) (by kernel_rfl) ?_
  refine Wk.rEnd 4 rfl ?_
  refine Wk.nxt ?_
  refine wp_block ?_
  refine Wk.loopN 9 ?_
  refine Wk.rdS ?_
  refine wp_seq ?_
  refine Wk.reg ?_
  refine Wk.rPure 0 (some 25) (.bool true) rfl rfl (by kernel_rfl) (Wk.boolT (b := decide ((0 : Int) < (8 : Int))) (decide_eq_true (by decide)) (by kernel_rfl)) ?_
  refine Wk.rEnd 1 rfl ?_
  refine Wk.nxt ?_
  refine wp_seq ?_
  refine wp_cond_true (by kernel_rfl) ?_
  refine wp_skip ?_
  refine Wk.nxt ?_
  refine wp_seq ?_
  refine wp_block ?_
  refine wp_seq ?_
  refine Wk.reg ?_
  refine Wk.rPure 0 (some 26) (.pointer (some ⟨g, off + 64 + 0 * 1, none⟩)) rfl rfl (by kernel_rfl) (Wk.index_sl 22 5 (.tmp 22) (.tmp 24) rfl Tryd.underlying22 1 (by kernel_rfl) g (off + 64) 8 8 0 .i64 (by kernel_rfl) (by kernel_rfl) (by omega)) ?_
  have kk5 := Wk.Chg.step kk4 ch5 ⟨.inr (by omega), trivial⟩
  refine Wk.rPure 1 (some 27) (.int .u8 (((E.getD 0 0).toNat : Nat) : Int)) rfl rfl (by kernel_rfl) (Wk.load1 5 (.tmp 26) rfl (by kernel_rfl) ⟨g, off + 64 + 0 * 1, none⟩ (by kernel_rfl) (.int .u8 (((E.getD 0 0).toNat : Nat) : Int)) (Mur.byt_cell (Mur.byt_chg hb64 kk5 (fun g off e hl => trivial)) 0 (by omega))) ?_
  refine Wk.rPure 2 (some 6) (.int .u8 (((E.getD 0 0).toNat : Nat) : Int)) rfl rfl (by kernel_rfl) (by kernel_rfl) ?_
  refine Wk.rEnd 3 rfl ?_
  refine Wk.nxt ?_
  refine Wk.reg ?_
  refine Wk.rPure 0 (some 28) (.int .u64 0) rfl rfl (by kernel_rfl) (by kernel_rfl) ?_
  refine Wk.rPure 1 (some 29) (.int .u64 ((0 * 256 : Nat) : Int)) rfl rfl (by kernel_rfl) (Mur.shl8_64 32 68 (.tmp 28) (.const (.int .u64 8)) rfl 0 .u64 (by kernel_rfl) (by kernel_rfl) (by omega)) ?_
  refine Wk.rPure 2 (some 30) (.int .u8 (((E.getD 0 0).toNat : Nat) : Int)) rfl rfl (by kernel_rfl) (by kernel_rfl) ?_
  refine Wk.rPure 3 (some 31) (.int .u64 (((E.getD 0 0).toNat : Nat) : Int)) rfl rfl (by kernel_rfl) (Mur.conv_int 5 32 (.tmp 30) rfl (by kernel_rfl) .u64 Tryd.underlying32 .u8 (((E.getD 0 0).toNat : Nat) : Int) (by kernel_rfl) (Mur.u64_nat (by omega))) ?_
  refine Wk.rPure 4 (some 32) (.int .u64 ((0 * 256 + (E.getD 0 0).toNat : Nat) : Int)) rfl rfl (by kernel_rfl) (Mur.or64 32 32 (.tmp 29) (.tmp 31) rfl 0 (E.getD 0 0).toNat (by kernel_rfl) (by kernel_rfl) (by omega) (by omega)) ?_
  refine Wk.rPure 5 (some 4) (.int .u64 ((0 * 256 + (E.getD 0 0).toNat : Nat) : Int)) rfl rfl (by kernel_rfl) (by kernel_rfl) ?_
  refine Wk.rEnd 6 rfl ?_
  refine Wk.inN ?_
  refine Wk.nxt ?_
  refine Wk.reg ?_
  refine Wk.rPure 0 (some 33) (.int .i64 1) rfl rfl (by kernel_rfl) (Wk.int64 (n := 0 + 1) (z := 1) (by omega) (by omega) (by omega) (by kernel_rfl)) ?_
  refine Wk.rPure 1 (some 24) (.int .i64 1) rfl rfl (by kernel_rfl) (by kernel_rfl) ?_
  refine Wk.rEnd 2 rfl ?_
  refine Wk.nxt ?_
  refine Wk.rdS ?_
  refine wp_seq ?_
  refine Wk.reg ?_
  refine Wk.rPure 0 (some 25) (.bool true) rfl rfl (by kernel_rfl) (Wk.boolT (b := decide ((1 : Int) < (8 : Int))) (decide_eq_true (by decide)) (by kernel_rfl)) ?_
  refine Wk.rEnd 1 rfl ?_
  refine Wk.nxt ?_
  refine wp_seq ?_
  refine wp_cond_true (by kernel_rfl) ?_
  refine wp_skip ?_
  refine Wk.nxt ?_
  refine wp_seq ?_
  refine wp_block ?_
  refine wp_seq ?_
  refine Wk.reg ?_
  refine Wk.rPure 0 (some 26) (.pointer (some ⟨g, off + 64 + 1 * 1, none⟩)) rfl rfl (by kernel_rfl) (Wk.index_sl 22 5 (.tmp 22) (.tmp 24) rfl Tryd.underlying22 1 (by kernel_rfl) g (off + 64) 8 8 1 .i64 (by kernel_rfl) (by kernel_rfl) (by omega)) ?_
  refine Wk.rPure 1 (some 27) (.int .u8 (((E.getD 1 0).toNat : Nat) : Int)) rfl rfl (by kernel_rfl) (Wk.load1 5 (.tmp 26) rfl (by kernel_rfl) ⟨g, off + 64 + 1 * 1, none⟩ (by kernel_rfl) (.int .u8 (((E.getD 1 0).toNat : Nat) : Int)) (Mur.byt_cell (Mur.byt_chg hb64 kk5 (fun g off e hl => trivial)) 1 (by omega))) ?_
  refine Wk.rPure 2 (some 6) (.int .u8 (((E.getD 1 0).toNat : Nat) : Int)) rfl rfl (by kernel_rfl) (by kernel_rfl) ?_
  refine Wk.rEnd 3 rfl ?_
  refine Wk.nxt ?_
  refine Wk.reg ?_
  refine Wk.rPure 0 (some 28) (.int .u64 ((0 * 256 + (E.getD 0 0).toNat : Nat) : Int)) rfl rfl (by kernel_rfl) (by kernel_rfl) ?_
  refine Wk.rPure 1 (some 29) (.int .u64 (((0 * 256 + (E.getD 0 0).toNat) * 256 : Nat) : Int)) rfl rfl (by kernel_rfl) (Mur.shl8_64 32 68 (.tmp 28) (.const (.int .u64 8)) rfl (0 * 256 + (E.getD 0 0).toNat) .u64 (by kernel_rfl) (by kernel_rfl) (by omega)) ?_
  refine Wk.rPure 2 (some 30) (.int .u8 (((E.getD 1 0).toNat : Nat) : Int)) rfl rfl (by kernel_rfl) (by kernel_rfl) ?_
  refine Wk.rPure 3 (some 31) (.int .u64 (((E.getD 1 0).toNat : Nat) : Int)) rfl rfl (by kernel_rfl) (Mur.conv_int 5 32 (.tmp 30) rfl (by kernel_rfl) .u64 Tryd.underlying32 .u8 (((E.getD 1 0).toNat : Nat) : Int) (by kernel_rfl) (Mur.u64_nat (by omega))) ?_
  refine Wk.rPure 4 (some 32) (.int .u64 (((0 * 256 + (E.getD 0 0).toNat) * 256 + (E.getD 1 0).toNat : Nat) : Int)) rfl rfl (by kernel_rfl) (Mur.or64 32 32 (.tmp 29) (.tmp 31) rfl (0 * 256 + (E.getD 0 0).toNat) (E.getD 1 0).toNat (by kernel_rfl) (by kernel_rfl) (by omega) (by omega)) ?_
  refine Wk.rPure 5 (some 4) (.int .u64 (((0 * 256 + (E.getD 0 0).toNat) * 256 + (E.getD 1 0).toNat : Nat) : Int)) rfl rfl (by kernel_rfl) (by kernel_rfl) ?_
  refine Wk.rEnd 6 rfl ?_
  refine Wk.inN ?_
  refine Wk.nxt ?_
  refine Wk.reg ?_
  refine Wk.rPure 0 (some 33) (.int .i64 2) rfl rfl (by kernel_rfl) (Wk.int64 (n := 1 + 1) (z := 2) (by omega) (by omega) (by omega) (by kernel_rfl)) ?_
  refine Wk.rPure 1 (some 24) (.int .i64 2) rfl rfl (by kernel_rfl) (by kernel_rfl) ?_
  refine Wk.rEnd 2 rfl ?_
  refine Wk.nxt ?_
  refine Wk.rdS ?_
  refine wp_seq ?_
  refine Wk.reg ?_
  refine Wk.rPure 0 (some 25) (.bool true) rfl rfl (by kernel_rfl) (Wk.boolT (b := decide ((2 : Int) < (8 : Int))) (decide_eq_true (by decide)) (by kernel_rfl)) ?_
  refine Wk.rEnd 1 rfl ?_
  refine Wk.nxt ?_
  refine wp_seq ?_
  refine wp_cond_true (by kernel_rfl) ?_
  refine wp_skip ?_
  refine Wk.nxt ?_
  refine wp_seq ?_
  refine wp_block ?_
  refine wp_seq ?_
  refine Wk.reg ?_
  refine Wk.rPure 0 (some 26) (.pointer (some ⟨g, off + 64 + 2 * 1, none⟩)) rfl rfl (by kernel_rfl) (Wk.index_sl 22 5 (.tmp 22) (.tmp 24) rfl Tryd.underlying22 1 (by kernel_rfl) g (off + 64) 8 8 2 .i64 (by kernel_rfl) (by kernel_rfl) (by omega)) ?_
  refine Wk.rPure 1 (some 27) (.int .u8 (((E.getD 2 0).toNat : Nat) : Int)) rfl rfl (by kernel_rfl) (Wk.load1 5 (.tmp 26) rfl (by kernel_rfl) ⟨g, off + 64 + 2 * 1, none⟩ (by kernel_rfl) (.int .u8 (((E.getD 2 0).toNat : Nat) : Int)) (Mur.byt_cell (Mur.byt_chg hb64 kk5 (fun g off e hl => trivial)) 2 (by omega))) ?_
  refine Wk.rPure 2 (some 6) (.int .u8 (((E.getD 2 0).toNat : Nat) : Int)) rfl rfl (by kernel_rfl) (by kernel_rfl) ?_
  refine Wk.rEnd 3 rfl ?_
  refine Wk.nxt ?_
  refine Wk.reg ?_
  refine Wk.rPure 0 (some 28) (.int .u64 (((0 * 256 + (E.getD 0 0).toNat) * 256 + (E.getD 1 0).toNat : Nat) : Int)) rfl rfl (by kernel_rfl) (by kernel_rfl) ?_
  refine Wk.rPure 1 (some 29) (.int .u64 ((((0 * 256 + (E.getD 0 0).toNat) * 256 + (E.getD 1 0).toNat) * 256 : Nat) : Int)) rfl rfl (by kernel_rfl) (Mur.shl8_64 32 68 (.tmp 28) (.const (.int .u64 8)) rfl ((0 * 256 + (E.getD 0 0).toNat) * 256 + (E.getD 1 0).toNat) .u64 (by kernel_rfl) (by kernel_rfl) (by omega)) ?_
  refine Wk.rPure 2 (some 30) (.int .u8 (((E.getD 2 0).toNat : Nat) : Int)) rfl rfl (by kernel_rfl) (by kernel_rfl) ?_
  refine Wk.rPure 3 (some 31) (.int .u64 (((E.getD 2 0).toNat : Nat) : Int)) rfl rfl (by kernel_rfl) (Mur.conv_int 5 32 (.tmp 30) rfl (by kernel_rfl) .u64 Tryd.underlying32 .u8 (((E.getD 2 0).toNat : Nat) : Int) (by kernel_rfl) (Mur.u64_nat (by omega))) ?_
  refine Wk.rPure 4 (some 32) (.int .u64 ((((0 * 256 + (E.getD 0 0).toNat) * 256 + (E.getD 1 0).toNat) * 256 + (E.getD 2 0).toNat : Nat) : Int)) rfl rfl (by kernel_rfl) (Mur.or64 32 32 (.tmp 29) (.tmp 31) rfl ((0 * 256 + (E.getD 0 0).toNat) * 256 + (E.getD 1 0).toNat) (E.getD 2 0).toNat (by kernel_rfl) (by kernel_rfl) (by omega) (by omega)) ?_
  refine Wk.rPure 5 (some 4) (.int .u64 ((((0 * 256 + (E.getD 0 0).toNat) * 256 + (E.getD 1 0).toNat) * 256 + (E.getD 2 0).toNat : Nat) : Int)) rfl rfl (by kernel_rfl) (by kernel_rfl) ?_
  refine Wk.rEnd 6 rfl ?_
  refine Wk.inN ?_
  refine Wk.nxt ?_
  refine Wk.reg ?_
  refine Wk.rPure 0 (some 33) (.int .i64 3) rfl rfl (by kernel_rfl) (Wk.int64 (n := 2 + 1) (z := 3) (by omega) (by omega) (by omega) (by kernel_rfl)) ?_
  refine Wk.rPure 1 (some 24) (.int .i64 3) rfl rfl (by kernel_rfl) (by kernel_rfl) ?_
  refine Wk.rEnd 2 rfl ?_
  refine Wk.nxt ?_
  refine Wk.rdS ?_
  refine wp_seq ?_
  refine Wk.reg ?_
  refine Wk.rPure 0 (some 25) (.bool true) rfl rfl (by kernel_rfl) (Wk.boolT (b := decide ((3 : Int) < (8 : Int))) (decide_eq_true (by decide)) (by kernel_rfl)) ?_
  refine Wk.rEnd 1 rfl ?_
  refine Wk.nxt ?_
  refine wp_seq ?_
  refine wp_cond_true (by kernel_rfl) ?_
  refine wp_skip ?_
  refine Wk.nxt ?_
  refine wp_seq ?_
  refine wp_block ?_
  refine wp_seq ?_
  refine Wk.reg ?_
  refine Wk.rPure 0 (some 26) (.pointer (some ⟨g, off + 64 + 3 * 1, none⟩)) rfl rfl (by kernel_rfl) (Wk.index_sl 22 5 (.tmp 22) (.tmp 24) rfl Tryd.underlying22 1 (by kernel_rfl) g (off + 64) 8 8 3 .i64 (by kernel_rfl) (by kernel_rfl) (by omega)) ?_
  refine Wk.rPure 1 (some 27) (.int .u8 (((E.getD 3 0).toNat : Nat) : Int)) rfl rfl (by kernel_rfl) (Wk.load1 5 (.tmp 26) rfl (by kernel_rfl) ⟨g, off + 64 + 3 * 1, none⟩ (by kernel_rfl) (.int .u8 (((E.getD 3 0).toNat : Nat) : Int)) (Mur.byt_cell (Mur.byt_chg hb64 kk5 (fun g off e hl => trivial)) 3 (by omega))) ?_
  refine Wk.rPure 2 (some 6) (.int .u8 (((E.getD 3 0).toNat : Nat) : Int)) rfl rfl (by kernel_rfl) (by kernel_rfl) ?_
  refine Wk.rEnd 3 rfl ?_
  refine Wk.nxt ?_
  refine Wk.reg ?_
  refine Wk.rPure 0 (some 28) (.int .u64 ((((0 * 256 + (E.getD 0 0).toNat) * 256 + (E.getD 1 0).toNat) * 256 + (E.getD 2 0).toNat : Nat) : Int)) rfl rfl (by kernel_rfl) (by kernel_rfl) ?_
  refine Wk.rPure 1 (some 29) (.int .u64 (((((0 * 256 + (E.getD 0 0).toNat) * 256 + (E.getD 1 0).toNat) * 256 + (E.getD 2 0).toNat) * 256 : Nat) : Int)) rfl rfl (by kernel_rfl) (Mur.shl8_64 32 68 (.tmp 28) (.const (.int .u64 8)) rfl (((0 * 256 + (E.getD 0 0).toNat) * 256 + (E.getD 1 0).toNat) * 256 + (E.getD 2 0).toNat) .u64 (by kernel_rfl) (by kernel_rfl) (by omega)) ?_
  refine Wk.rPure 2 (some 30) (.int .u8 (((E.getD 3 0).toNat : Nat) : Int)) rfl rfl (by kernel_rfl) (by kernel_rfl) ?_
  refine Wk.rPure 3 (some 31) (.int .u64 (((E.getD 3 0).toNat : Nat) : Int)) rfl rfl (by kernel_rfl) (Mur.conv_int 5 32 (.tmp 30) rfl (by kernel_rfl) .u64 Tryd.underlying32 .u8 (((E.getD 3 0).toNat : Nat) : Int) (by kernel_rfl) (Mur.u64_nat (by omega))) ?_
  refine Wk.rPure 4 (some 32) (.int .u64 (((((0 * 256 + (E.getD 0 0).toNat) * 256 + (E.getD 1 0).toNat) * 256 + (E.getD 2 0).toNat) * 256 + (E.getD 3 0).toNat : Nat) : Int)) rfl rfl (by kernel_rfl) (Mur.or64 32 32 (.tmp 29) (.tmp 31) rfl (((0 * 256 + (E.getD 0 0).toNat) * 256 + (E.getD 1 0).toNat) * 256 + (E.getD 2 0).toNat) (E.getD 3 0).toNat (by kernel_rfl) (by kernel_rfl) (by omega) (by omega)) ?_
  refine Wk.rPure 5 (some 4) (.int .u64 (((((0 * 256 + (E.getD 0 0).toNat) * 256 + (E.getD 1 0).toNat) * 256 + (E.getD 2 0).toNat) * 256 + (E.getD 3 0).toNat : Nat) : Int)) rfl rfl (by kernel_rfl) (by kernel_rfl) ?_
  refine Wk.rEnd 6 rfl ?_
  refine Wk.inN ?_
  refine Wk.nxt ?_
  refine Wk.reg ?_
  refine Wk.rPure 0 (some 33) (.int .i64 4) rfl rfl (by kernel_rfl) (Wk.int64 (n := 3 + 1) (z := 4) (by omega) (by omega) (by omega) (by kernel_rfl)) ?_
  refine Wk.rPure 1 (some 24) (.int .i64 4) rfl rfl (by kernel_rfl) (by kernel_rfl) ?_
  refine Wk.rEnd 2 rfl ?_
  refine Wk.nxt ?_
  refine Wk.rdS ?_
  refine wp_seq ?_
  refine Wk.reg ?_
  refine Wk.rPure 0 (some 25) (.bool true) rfl rfl (by kernel_rfl) (Wk.boolT (b := decide ((4 : Int) < (8 : Int))) (decide_eq_true (by decide)) (by kernel_rfl)) ?_
  refine Wk.rEnd 1 rfl ?_
  refine Wk.nxt ?_
  refine wp_seq ?_
  refine wp_cond_true (by kernel_rfl) ?_
  refine wp_skip ?_
  refine Wk.nxt ?_
  refine wp_seq ?_
  refine wp_block ?_
  refine wp_seq ?_
  refine Wk.reg ?_
  refine Wk.rPure 0 (some 26) (.pointer (some ⟨g, off + 64 + 4 * 1, none⟩)) rfl rfl (by kernel_rfl) (Wk.index_sl 22 5 (.tmp 22) (.tmp 24) rfl Tryd.underlying22 1 (by kernel_rfl) g (off + 64) 8 8 4 .i64 (by kernel_rfl) (by kernel_rfl) (by omega)) ?_
  refine Wk.rPure 1 (some 27) (.int .u8 (((E.getD 4 0).toNat : Nat) : Int)) rfl rfl (by kernel_rfl) (Wk.load1 5 (.tmp 26) rfl (by kernel_rfl) ⟨g, off + 64 + 4 * 1, none⟩ (by kernel_rfl) (.int .u8 (((E.getD 4 0).toNat : Nat) : Int)) (Mur.byt_cell (Mur.byt_chg hb64 kk5 (fun g off e hl => trivial)) 4 (by omega))) ?_
  refine Wk.rPure 2 (some 6) (.int .u8 (((E.getD 4 0).toNat : Nat) : Int)) rfl rfl (by kernel_rfl) (by kernel_rfl) ?_
  refine Wk.rEnd 3 rfl ?_
  refine Wk.nxt ?_
  refine Wk.reg ?_
  refine Wk.rPure 0 (some 28) (.int .u64 (((((0 * 256 + (E.getD 0 0).toNat) * 256 + (E.getD 1 0).toNat) * 256 + (E.getD 2 0).toNat) * 256 + (E.getD 3 0).toNat : Nat) : Int)) rfl rfl (by kernel_rfl) (by kernel_rfl) ?_
  refine Wk.rPure 1 (some 29) (.int .u64 ((((((0 * 256 + (E.getD 0 0).toNat) * 256 + (E.getD 1 0).toNat) * 256 + (E.getD 2 0).toNat) * 256 + (E.getD 3 0).toNat) * 256 : Nat) : Int)) rfl rfl (by kernel_rfl) (Mur.shl8_64 32 68 (.tmp 28) (.const (.int .u64 8)) rfl ((((0 * 256 + (E.getD 0 0).toNat) * 256 + (E.getD 1 0).toNat) * 256 + (E.getD 2 0).toNat) * 256 + (E.getD 3 0).toNat) .u64 (by kernel_rfl) (by kernel_rfl) (by omega)) ?_
  refine Wk.rPure 2 (some 30) (.int .u8 (((E.getD 4 0).toNat : Nat) : Int)) rfl rfl (by kernel_rfl) (by kernel_rfl) ?_
  refine Wk.rPure 3 (some 31) (.int .u64 (((E.getD 4 0).toNat : Nat) : Int)) rfl rfl (by kernel_rfl) (Mur.conv_int 5 32 (.tmp 30) rfl (by kernel_rfl) .u64 Tryd.underlying32 .u8 (((E.getD 4 0).toNat : Nat) : Int) (by kernel_rfl) (Mur.u64_nat (by omega))) ?_
  refine Wk.rPure 4 (some 32) (.int .u64 ((((((0 * 256 + (E.getD 0 0).toNat) * 256 + (E.getD 1 0).toNat) * 256 + (E.getD 2 0).toNat) * 256 + (E.getD 3 0).toNat) * 256 + (E.getD 4 0).toNat : Nat) : Int)) rfl rfl (by kernel_rfl) (Mur.or64 32 32 (.tmp 29) (.tmp 31) rfl ((((0 * 256 + (E.getD 0 0).toNat) * 256 + (E.getD 1 0).toNat) * 256 + (E.getD 2 0).toNat) * 256 + (E.getD 3 0).toNat) (E.getD 4 0).toNat (by kernel_rfl) (by kernel_rfl) (by omega) (by omega)) ?_
  refine Wk.rPure 5 (some 4) (.int .u64 ((((((0 * 256 + (E.getD 0 0).toNat) * 256 + (E.getD 1 0).toNat) * 256 + (E.getD 2 0).toNat) * 256 + (E.getD 3 0).toNat) * 256 + (E.getD 4 0).toNat : Nat) : Int)) rfl rfl (by kernel_rfl) (by kernel_rfl) ?_
  refine Wk.rEnd 6 rfl ?_
  refine Wk.inN ?_
  refine Wk.nxt ?_
  refine Wk.reg ?_
  refine Wk.rPure 0 (some 33) (.int .i64 5) rfl rfl (by kernel_rfl) (Wk.int64 (n := 4 + 1) (z := 5) (by omega) (by omega) (by omega) (by kernel_rfl)) ?_
  refine Wk.rPure 1 (some 24) (.int .i64 5) rfl rfl (by kernel_rfl) (by kernel_rfl) ?_
  refine Wk.rEnd 2 rfl ?_
  refine Wk.nxt ?_
  refine Wk.rdS ?_
  refine wp_seq ?_
  refine Wk.reg ?_
  refine Wk.rPure 0 (some 25) (.bool true) rfl rfl (by kernel_rfl) (Wk.boolT (b := decide ((5 : Int) < (8 : Int))) (decide_eq_true (by decide)) (by kernel_rfl)) ?_
  refine Wk.rEnd 1 rfl ?_
  refine Wk.nxt ?_
  refine wp_seq ?_
  refine wp_cond_true (by kernel_rfl) ?_
  refine wp_skip ?_
  refine Wk.nxt ?_
  refine wp_seq ?_
  refine wp_block ?_
  refine wp_seq ?_
  refine Wk.reg ?_
  refine Wk.rPure 0 (some 26) (.pointer (some ⟨g, off + 64 + 5 * 1, none⟩)) rfl rfl (by kernel_rfl) (Wk.index_sl 22 5 (.tmp 22) (.tmp 24) rfl Tryd.underlying22 1 (by kernel_rfl) g (off + 64) 8 8 5 .i64 (by kernel_rfl) (by kernel_rfl) (by omega)) ?_
  refine Wk.rPure 1 (some 27) (.int .u8 (((E.getD 5 0).toNat : Nat) : Int)) rfl rfl (by kernel_rfl) (Wk.load1 5 (.tmp 26) rfl (by kernel_rfl) ⟨g, off + 64 + 5 * 1, none⟩ (by kernel_rfl) (.int .u8 (((E.getD 5 0).toNat : Nat) : Int)) (Mur.byt_cell (Mur.byt_chg hb64 kk5 (fun g off e hl => trivial)) 5 (by omega))) ?_
  refine Wk.rPure 2 (some 6) (.int .u8 (((E.getD 5 0).toNat : Nat) : Int)) rfl rfl (by kernel_rfl) (by kernel_rfl) ?_
  refine Wk.rEnd 3 rfl ?_
  refine Wk.nxt ?_
  refine Wk.reg ?_
  refine Wk.rPure 0 (some 28) (.int .u64 ((((((0 * 256 + (E.getD 0 0).toNat) * 256 + (E.getD 1 0).toNat) * 256 + (E.getD 2 0).toNat) * 256 + (E.getD 3 0).toNat) * 256 + (E.getD 4 0).toNat : Nat) : Int)) rfl rfl (by kernel_rfl) (by kernel_rfl) ?_
  refine Wk.rPure 1 (some 29) (.int .u64 (((((((0 * 256 + (E.getD 0 0).toNat) * 256 + (E.getD 1 0).toNat) * 256 + (E.getD 2 0).toNat) * 256 + (E.getD 3 0).toNat) * 256 + (E.getD 4 0).toNat) * 256 : Nat) : Int)) rfl rfl (by kernel_rfl) (Mur.shl8_64 32 68 (.tmp 28) (.const (.int .u64 8)) rfl (((((0 * 256 + (E.getD 0 0).toNat) * 256 + (E.getD 1 0).toNat) * 256 + (E.getD 2 0).toNat) * 256 + (E.getD 3 0).toNat) * 256 + (E.getD 4 0).toNat) .u64 (by kernel_rfl) (by kernel_rfl) (by omega)) ?_
  refine Wk.rPure 2 (some 30) (.int .u8 (((E.getD 5 0).toNat : Nat) : Int)) rfl rfl (by kernel_rfl) (by kernel_rfl) ?_
  refine Wk.rPure 3 (some 31) (.int .u64 (((E.getD 5 0).toNat : Nat) : Int)) rfl rfl (by kernel_rfl) (Mur.conv_int 5 32 (.tmp 30) rfl (by kernel_rfl) .u64 Tryd.underlying32 .u8 (((E.getD 5 0).toNat : Nat) : Int) (by kernel_rfl) (Mur.u64_nat (by omega))) ?_
  refine Wk.rPure 4 (some 32) (.int .u64 (((((((0 * 256 + (E.getD 0 0).toNat) * 256 + (E.getD 1 0).toNat) * 256 + (E.getD 2 0).toNat) * 256 + (E.getD 3 0).toNat) * 256 + (E.getD 4 0).toNat) * 256 + (E.getD 5 0).toNat : Nat) : Int)) rfl rfl (by kernel_rfl) (Mur.or64 32 32 (.tmp 29) (.tmp 31) rfl (((((0 * 256 + (E.getD 0 0).toNat) * 256 + (E.getD 1 0).toNat) * 256 + (E.getD 2 0).toNat) * 256 + (E.getD 3 0).toNat) * 256 + (E.getD 4 0).toNat) (E.getD 5 0).toNat (by kernel_rfl) (by kernel_rfl) (by omega) (by omega)) ?_
  refine Wk.rPure 5 (some 4) (.int .u64 (((((((0 * 256 + (E.getD 0 0).toNat) * 256 + (E.getD 1 0).toNat) * 256 + (E.getD 2 0).toNat) * 256 + (E.getD 3 0).toNat) * 256 + (E.getD 4 0).toNat) * 256 + (E.getD 5 0).toNat : Nat) : Int)) rfl rfl (by kernel_rfl) (by kernel_rfl) ?_
  refine Wk.rEnd 6 rfl ?_
  refine Wk.inN ?_
  refine Wk.nxt ?_
  refine Wk.reg ?_
  refine Wk.rPure 0 (some 33) (.int .i64 6) rfl rfl (by kernel_rfl) (Wk.int64 (n := 5 + 1) (z := 6) (by omega) (by omega) (by omega) (by kernel_rfl)) ?_
  refine Wk.rPure 1 (some 24) (.int .i64 6) rfl rfl (by kernel_rfl) (by kernel_rfl) ?_
  refine Wk.rEnd 2 rfl ?_
  refine Wk.nxt ?_
  refine Wk.rdS ?_
  refine wp_seq ?_
  refine Wk.reg ?_
  refine Wk.rPure 0 (some 25) (.bool true) rfl rfl (by kernel_rfl) (Wk.boolT (b := decide ((6 : Int) < (8 : Int))) (decide_eq_true (by decide)) (by kernel_rfl)) ?_
  refine Wk.rEnd 1 rfl ?_
  refine Wk.nxt ?_
  refine wp_seq ?_
  refine wp_cond_true (by kernel_rfl) ?_
  refine wp_skip ?_
  refine Wk.nxt ?_
  refine wp_seq ?_
  refine wp_block ?_
  refine wp_seq ?_
  refine Wk.reg ?_
  refine Wk.rPure 0 (some 26) (.pointer (some ⟨g, off + 64 + 6 * 1, none⟩)) rfl rfl (by kernel_rfl) (Wk.index_sl 22 5 (.tmp 22) (.tmp 24) rfl Tryd.underlying22 1 (by kernel_rfl) g (off + 64) 8 8 6 .i64 (by kernel_rfl) (by kernel_rfl) (by omega)) ?_
  refine Wk.rPure 1 (some 27) (.int .u8 (((E.getD 6 0).toNat : Nat) : Int)) rfl rfl (by kernel_rfl) (Wk.load1 5 (.tmp 26) rfl (by kernel_rfl) ⟨g, off + 64 + 6 * 1, none⟩ (by kernel_rfl) (.int .u8 (((E.getD 6 0).toNat : Nat) : Int)) (Mur.byt_cell (Mur.byt_chg hb64 kk5 (fun g off e hl => trivial)) 6 (by omega))) ?_
  refine Wk.rPure 2 (some 6) (.int .u8 (((E.getD 6 0).toNat : Nat) : Int)) rfl rfl (by kernel_rfl) (by kernel_rfl) ?_
  refine Wk.rEnd 3 rfl ?_
  refine Wk.nxt ?_
  refine Wk.reg ?_
  refine Wk.rPure 0 (some 28) (.int .u64 (((((((0 * 256 + (E.getD 0 0).toNat) * 256 + (E.getD 1 0).toNat) * 256 + (E.getD 2 0).toNat) * 256 + (E.getD 3 0).toNat) * 256 + (E.getD 4 0).toNat) * 256 + (E.getD 5 0).toNat : Nat) : Int)) rfl rfl (by kernel_rfl) (by kernel_rfl) ?_
  refine Wk.rPure 1 (some 29) (.int .u64 ((((((((0 * 256 + (E.getD 0 0).toNat) * 256 + (E.getD 1 0).toNat) * 256 + (E.getD 2 0).toNat) * 256 + (E.getD 3 0).toNat) * 256 + (E.getD 4 0).toNat) * 256 + (E.getD 5 0).toNat) * 256 : Nat) : Int)) rfl rfl (by kernel_rfl) (Mur.shl8_64 32 68 (.tmp 28) (.const (.int .u64 8)) rfl ((((((0 * 256 + (E.getD 0 0).toNat) * 256 + (E.getD 1 0).toNat) * 256 + (E.getD 2 0).toNat) * 256 + (E.getD 3 0).toNat) * 256 + (E.getD 4 0).toNat) * 256 + (E.getD 5 0).toNat) .u64 (by kernel_rfl) (by kernel_rfl) (by omega)) ?_
  refine Wk.rPure 2 (some 30) (.int .u8 (((E.getD 6 0).toNat : Nat) : Int)) rfl rfl (by kernel_rfl) (by kernel_rfl) ?_
  refine Wk.rPure 3 (some 31) (.int .u64 (((E.getD 6 0).toNat : Nat) : Int)) rfl rfl (by kernel_rfl) (Mur.conv_int 5 32 (.tmp 30) rfl (by kernel_rfl) .u64 Tryd.underlying32 .u8 (((E.getD 6 0).toNat : Nat) : Int) (by kernel_rfl) (Mur.u64_nat (by omega))) ?_
  refine Wk.rPure 4 (some 32) (.int .u64 ((((((((0 * 256 + (E.getD 0 0).toNat) * 256 + (E.getD 1 0).toNat) * 256 + (E.getD 2 0).toNat) * 256 + (E.getD 3 0).toNat) * 256 + (E.getD 4 0).toNat) * 256 + (E.getD 5 0).toNat) * 256 + (E.getD 6 0).toNat : Nat) : Int)) rfl rfl (by kernel_rfl) (Mur.or64 32 32 (.tmp 29) (.tmp 31) rfl ((((((0 * 256 + (E.getD 0 0).toNat) * 256 + (E.getD 1 0).toNat) * 256 + (E.getD 2 0).toNat) * 256 + (E.getD 3 0).toNat) * 256 + (E.getD 4 0).toNat) * 256 + (E.getD 5 0).toNat) (E.getD 6 0).toNat (by kernel_rfl) (by kernel_rfl) (by omega) (by omega)) ?_
  refine Wk.rPure 5 (some 4) (.int .u64 ((((((((0 * 256 + (E.getD 0 0).toNat) * 256 + (E.getD 1 0).toNat) * 256 + (E.getD 2 0).toNat) * 256 + (E.getD 3 0).toNat) * 256 + (E.getD 4 0).toNat) * 256 + (E.getD 5 0).toNat) * 256 + (E.getD 6 0).toNat : Nat) : Int)) rfl rfl (by kernel_rfl) (by kernel_rfl) ?_
  refine Wk.rEnd 6 rfl ?_
  refine Wk.inN ?_
  refine Wk.nxt ?_
  refine Wk.reg ?_
  refine Wk.rPure 0 (some 33) (.int .i64 7) rfl rfl (by kernel_rfl) (Wk.int64 (n := 6 + 1) (z := 7) (by omega) (by omega) (by omega) (by kernel_rfl)) ?_
  refine Wk.rPure 1 (some 24) (.int .i64 7) rfl rfl (by kernel_rfl) (by kernel_rfl) ?_
  refine Wk.rEnd 2 rfl ?_
  refine Wk.nxt ?_
  refine Wk.rdS ?_
  refine wp_seq ?_
  refine Wk.reg ?_
  refine Wk.rPure 0 (some 25) (.bool true) rfl rfl (by kernel_rfl) (Wk.boolT (b := decide ((7 : Int) < (8 : Int))) (decide_eq_true (by decide)) (by kernel_rfl)) ?_
  refine Wk.rEnd 1 rfl ?_
  refine Wk.nxt ?_
  refine wp_seq ?_
  refine wp_cond_true (by kernel_rfl) ?_
  refine wp_skip ?_
  refine Wk.nxt ?_
  refine wp_seq ?_
  refine wp_block ?_
  refine wp_seq ?_
  refine Wk.reg ?_
  refine Wk.rPure 0 (some 26) (.pointer (some ⟨g, off + 64 + 7 * 1, none⟩)) rfl rfl (by kernel_rfl) (Wk.index_sl 22 5 (.tmp 22) (.tmp 24) rfl Tryd.underlying22 1 (by kernel_rfl) g (off + 64) 8 8 7 .i64 (by kernel_rfl) (by kernel_rfl) (by omega)) ?_
  refine Wk.rPure 1 (some 27) (.int .u8 (((E.getD 7 0).toNat : Nat) : Int)) rfl rfl (by kernel_rfl) (Wk.load1 5 (.tmp 26) rfl (by kernel_rfl) ⟨g, off + 64 + 7 * 1, none⟩ (by kernel_rfl) (.int .u8 (((E.getD 7 0).toNat : Nat) : Int)) (Mur.byt_cell (Mur.byt_chg hb64 kk5 (fun g off e hl => trivial)) 7 (by omega))) ?_
  refine Wk.rPure 2 (some 6) (.int .u8 (((E.getD 7 0).toNat : Nat) : Int)) rfl rfl (by kernel_rfl) (by kernel_rfl) ?_
  refine Wk.rEnd 3 rfl ?_
  refine Wk.nxt ?_
  refine Wk.reg ?_
  refine Wk.rPure 0 (some 28) (.int .u64 ((((((((0 * 256 + (E.getD 0 0).toNat) * 256 + (E.getD 1 0).toNat) * 256 + (E.getD 2 0).toNat) * 256 + (E.getD 3 0).toNat) * 256 + (E.getD 4 0).toNat) * 256 + (E.getD 5 0).toNat) * 256 + (E.getD 6 0).toNat : Nat) : Int)) rfl rfl (by kernel_rfl) (by kernel_rfl) ?_
  refine Wk.rPure 1 (some 29) (.int .u64 (((((((((0 * 256 + (E.getD 0 0).toNat) * 256 + (E.getD 1 0).toNat) * 256 + (E.getD 2 0).toNat) * 256 + (E.getD 3 0).toNat) * 256 + (E.getD 4 0).toNat) * 256 + (E.getD 5 0).toNat) * 256 + (E.getD 6 0).toNat) * 256 : Nat) : Int)) rfl rfl (by kernel_rfl) (Mur.shl8_64 32 68 (.tmp 28) (.const (.int .u64 8)) rfl (((((((0 * 256 + (E.getD 0 0).toNat) * 256 + (E.getD 1 0).toNat) * 256 + (E.getD 2 0).toNat) * 256 + (E.getD 3 0).toNat) * 256 + (E.getD 4 0).toNat) * 256 + (E.getD 5 0).toNat) * 256 + (E.getD 6 0).toNat) .u64 (by kernel_rfl) (by kernel_rfl) (by omega)) ?_
  refine Wk.rPure 2 (some 30) (.int .u8 (((E.getD 7 0).toNat : Nat) : Int)) rfl rfl (by kernel_rfl) (by kernel_rfl) ?_
  refine Wk.rPure 3 (some 31) (.int .u64 (((E.getD 7 0).toNat : Nat) : Int)) rfl rfl (by kernel_rfl) (Mur.conv_int 5 32 (.tmp 30) rfl (by kernel_rfl) .u64 Tryd.underlying32 .u8 (((E.getD 7 0).toNat : Nat) : Int) (by kernel_rfl) (Mur.u64_nat (by omega))) ?_
  refine Wk.rPure 4 (some 32) (.int .u64 (((((((((0 * 256 + (E.getD 0 0).toNat) * 256 + (E.getD 1 0).toNat) * 256 + (E.getD 2 0).toNat) * 256 + (E.getD 3 0).toNat) * 256 + (E.getD 4 0).toNat) * 256 + (E.getD 5 0).toNat) * 256 + (E.getD 6 0).toNat) * 256 + (E.getD 7 0).toNat : Nat) : Int)) rfl rfl (by kernel_rfl) (Mur.or64 32 32 (.tmp 29) (.tmp 31) rfl (((((((0 * 256 + (E.getD 0 0).toNat) * 256 + (E.getD 1 0).toNat) * 256 + (E.getD 2 0).toNat) * 256 + (E.getD 3 0).toNat) * 256 + (E.getD 4 0).toNat) * 256 + (E.getD 5 0).toNat) * 256 + (E.getD 6 0).toNat) (E.getD 7 0).toNat (by kernel_rfl) (by kernel_rfl) (by omega) (by omega)) ?_
  refine Wk.rPure 5 (some 4) (.int .u64 (((((((((0 * 256 + (E.getD 0 0).toNat) * 256 + (E.getD 1 0).toNat) * 256 + (E.getD 2 0).toNat) * 256 + (E.getD 3 0).toNat) * 256 + (E.getD 4 0).toNat) * 256 + (E.getD 5 0).toNat) * 256 + (E.getD 6 0).toNat) * 256 + (E.getD 7 0).toNat : Nat) : Int)) rfl rfl (by kernel_rfl) (by kernel_rfl) ?_
  refine Wk.rEnd 6 rfl ?_
  refine Wk.inN ?_
  refine Wk.nxt ?_
  refine Wk.reg ?_
  refine Wk.rPure 0 (some 33) (.int .i64 8) rfl rfl (by kernel_rfl) (Wk.int64 (n := 7 + 1) (z := 8) (by omega) (by omega) (by omega) (by kernel_rfl)) ?_
  refine Wk.rPure 1 (some 24) (.int .i64 8) rfl rfl (by kernel_rfl) (by kernel_rfl) ?_
  refine Wk.rEnd 2 rfl ?_
  refine Wk.nxt ?_
  refine Wk.rdS ?_
  refine wp_seq ?_
  refine Wk.reg ?_
  refine Wk.rPure 0 (some 25) (.bool false) rfl rfl (by kernel_rfl) (Wk.boolF (b := decide ((8 : Int) < (8 : Int))) (decide_eq_false (by decide)) (by kernel_rfl)) ?_
  refine Wk.rEnd 1 rfl ?_
  refine Wk.nxt ?_
  refine wp_seq ?_
  refine wp_cond_false (by kernel_rfl) ?_
  refine wp_exit ?_
  refine Wk.thX ?_
  refine Wk.thX ?_
  refine Wk.inX ?_
  refine Wk.nxt ?_
  refine wp_seq ?_
  refine wp_seq ?_
  refine Wk.reg ?_
  refine Wk.rPure 0 (some 34) (.int .u64 ((V : Nat) : Int)) rfl rfl (by kernel_rfl) (Wk.val (v := .int .u64 (((((((((0 * 256 + (E.getD 0 0).toNat) * 256 + (E.getD 1 0).toNat) * 256 + (E.getD 2 0).toNat) * 256 + (E.getD 3 0).toNat) * 256 + (E.getD 4 0).toNat) * 256 + (E.getD 5 0).toNat) * 256 + (E.getD 6 0).toNat) * 256 + (E.getD 7 0).toNat : Nat) : Int)) (congrArg (fun z : Nat => Value.int .u64 (z : Int)) hV) (by kernel_rfl)) ?_
  by_cases hx1 : ((V : Nat) : Int) < (1 : Int)
  · refine Wk.rPure 1 (some 35) (.bool true) rfl rfl (by kernel_rfl) (Wk.boolT (b := decide (((V : Nat) : Int) < (1 : Int))) (decide_eq_true (by first | exact hx1 | omega)) (by kernel_rfl)) ?_
    refine Wk.rPure 2 (some 36) (.bool true) rfl rfl (by kernel_rfl) (by kernel_rfl) ?_
    refine Wk.rPass 3 (some 37) rfl rfl (by kernel_rfl) ?_
    refine Wk.rPass 4 (some 38) rfl rfl (by kernel_rfl) ?_
    refine Wk.rPure 5 (some 39) (.bool true) rfl rfl (by kernel_rfl) (by kernel_rfl) ?_
    refine Wk.rEnd 6 rfl ?_
    refine Wk.nxt ?_
    refine wp_cond_true (by kernel_rfl) ?_
    refine wp_seq ?_
    refine Wk.reg ?_
    refine Wk.rPure 0 (some 40) (.agg ((Mur.attC Mur.z32 Mur.z32 0 Mur.z32).toArray)) rfl rfl (by kernel_rfl) (by kernel_rfl) ?_
    refine Wk.rExS 1 none _ rfl rfl (by kernel_rfl) (Mur.storeArr 36 (.tmp 2) (.tmp 40) rfl w.heap.size (by kernel_rfl) (Mur.attC Mur.z32 Mur.z32 0 Mur.z32).toArray 97 (Mur.attC_size rfl rfl rfl) Mur.attC_all (by kernel_rfl) (by kernel_rfl) 36 ((Mur.attC K R 0 Mur.z32).toArray) hb3 (Mur.attC_size hb0.1 hb32.1 rfl)) ?_
    rintro W6 ⟨hb4, ch6⟩
    have zz6 := ch6.size
    refine Wk.rPure 2 (some 3) (.int .i64 5) rfl rfl (by kernel_rfl) (by kernel_rfl) ?_
    refine Wk.rEnd 3 rfl ?_
    refine Wk.nxt ?_
    refine wp_ret ?_
    refine Wk.thR ?_
    have kk6 := Wk.Chg.step kk5 ch6 ⟨.inr (by omega), trivial⟩
    refine Wk.ret (.tuple #[.agg (Mur.attC Mur.z32 Mur.z32 0 Mur.z32).toArray, .int .i64 5]) rfl (results_att rfl _ _ w.heap.size (Mur.attC Mur.z32 Mur.z32 0 Mur.z32).toArray (0, 0) (.int .i64 5) (by kernel_rfl) hb4 (Mur.attC_size rfl rfl rfl) (by kernel_rfl)) ?_
    exact ⟨rfl, kk6⟩
  · refine Wk.rPure 1 (some 35) (.bool false) rfl rfl (by kernel_rfl) (Wk.boolF (b := decide (((V : Nat) : Int) < (1 : Int))) (decide_eq_false (by first | exact hx1 | omega)) (by kernel_rfl)) ?_
    refine Wk.rPure 2 (some 36) (.bool false) rfl rfl (by kernel_rfl) (by kernel_rfl) ?_
    refine Wk.rPure 3 (some 37) (.int .u64 ((V : Nat) : Int)) rfl rfl (by kernel_rfl) (Wk.val (v := .int .u64 (((((((((0 * 256 + (E.getD 0 0).toNat) * 256 + (E.getD 1 0).toNat) * 256 + (E.getD 2 0).toNat) * 256 + (E.getD 3 0).toNat) * 256 + (E.getD 4 0).toNat) * 256 + (E.getD 5 0).toNat) * 256 + (E.getD 6 0).toNat) * 256 + (E.getD 7 0).toNat : Nat) : Int)) (congrArg (fun z : Nat => Value.int .u64 (z : Int)) hV) (by kernel_rfl)) ?_
    by_cases hx2 : ((V : Nat) : Int) > (5000 : Int)
    · refine Wk.rPure 4 (some 38) (.bool true) rfl rfl (by kernel_rfl) (Wk.boolT (b := decide (((V : Nat) : Int) > (5000 : Int))) (decide_eq_true (by first | exact hx2 | omega)) (by kernel_rfl)) ?_
      refine Wk.rPure 5 (some 39) (.bool true) rfl rfl (by kernel_rfl) (by kernel_rfl) ?_
      refine Wk.rEnd 6 rfl ?_
      refine Wk.nxt ?_
      refine wp_cond_true (by kernel_rfl) ?_
      refine wp_seq ?_
      refine Wk.reg ?_
      refine Wk.rPure 0 (some 40) (.agg ((Mur.attC Mur.z32 Mur.z32 0 Mur.z32).toArray)) rfl rfl (by kernel_rfl) (by kernel_rfl) ?_
      refine Wk.rExS 1 none _ rfl rfl (by kernel_rfl) (Mur.storeArr 36 (.tmp 2) (.tmp 40) rfl w.heap.size (by kernel_rfl) (Mur.attC Mur.z32 Mur.z32 0 Mur.z32).toArray 97 (Mur.attC_size rfl rfl rfl) Mur.attC_all (by kernel_rfl) (by kernel_rfl) 36 ((Mur.attC K R 0 Mur.z32).toArray) hb3 (Mur.attC_size hb0.1 hb32.1 rfl)) ?_
      rintro W7 ⟨hb5, ch7⟩
      have zz7 := ch7.size
      refine Wk.rPure 2 (some 3) (.int .i64 5) rfl rfl (by kernel_rfl) (by kernel_rfl) ?_
      refine Wk.rEnd 3 rfl ?_
      refine Wk.nxt ?_
      refine wp_ret ?_
      refine Wk.thR ?_
      have kk7 := Wk.Chg.step kk5 ch7 ⟨.inr (by omega), trivial⟩
      refine Wk.ret (.tuple #[.agg (Mur.attC Mur.z32 Mur.z32 0 Mur.z32).toArray, .int .i64 5]) rfl (results_att rfl _ _ w.heap.size (Mur.attC Mur.z32 Mur.z32 0 Mur.z32).toArray (0, 0) (.int .i64 5) (by kernel_rfl) hb5 (Mur.attC_size rfl rfl rfl) (by kernel_rfl)) ?_
      exact ⟨rfl, kk7⟩
    · refine Wk.rPure 4 (some 38) (.bool false) rfl rfl (by kernel_rfl) (Wk.boolF (b := decide (((V : Nat) : Int) > (5000 : Int))) (decide_eq_false (by first | exact hx2 | omega)) (by kernel_rfl)) ?_
      refine Wk.rPure 5 (some 39) (.bool false) rfl rfl (by kernel_rfl) (by kernel_rfl) ?_
      refine Wk.rEnd 6 rfl ?_
      refine Wk.nxt ?_
      refine wp_cond_false (by kernel_rfl) ?_
      refine wp_skip ?_
      refine Wk.nxt ?_
      refine wp_seq ?_
      refine Wk.reg ?_
      refine Wk.rPure 0 (some 41) (.int .u64 ((V : Nat) : Int)) rfl rfl (by kernel_rfl) (Wk.val (v := .int .u64 (((((((((0 * 256 + (E.getD 0 0).toNat) * 256 + (E.getD 1 0).toNat) * 256 + (E.getD 2 0).toNat) * 256 + (E.getD 3 0).toNat) * 256 + (E.getD 4 0).toNat) * 256 + (E.getD 5 0).toNat) * 256 + (E.getD 6 0).toNat) * 256 + (E.getD 7 0).toNat : Nat) : Int)) (congrArg (fun z : Nat => Value.int .u64 (z : Int)) hV) (by kernel_rfl)) ?_
      refine Wk.rPure 1 (some 42) (.int .i64 ((V : Nat) : Int)) rfl rfl (by kernel_rfl) (Mur.conv_int 32 3 (.tmp 41) rfl (by kernel_rfl) .i64 Tryd.underlying3 .u64 ((V : Nat) : Int) (by kernel_rfl) (Mur.i64_nat (by omega))) ?_
      refine Wk.rPure 2 (some 43) (.pointer (some ⟨w.heap.size, 64, none⟩)) rfl rfl (by kernel_rfl) (by kernel_rfl) ?_
      refine Wk.rExS 3 none _ rfl rfl (by kernel_rfl) (Mur.store_len 3 (.tmp 43) (.tmp 42) rfl (by kernel_rfl) w.heap.size (by kernel_rfl) ((V : Nat) : Int) (by kernel_rfl) 36 K R Mur.z32 0 hb0.1 hb32.1 rfl hb3) ?_
      rintro W8 ⟨hb6, ch8⟩
      have zz8 := ch8.size
      refine Wk.rEnd 4 rfl ?_
      refine Wk.nxt ?_
      refine wp_seq ?_
      refine Wk.dReg ([w.heap.size]) (by kernel_rfl) ?_
      intro W9 ch9 sz4
      have zz9 := ch9.size
      have sS5 : Wk.Chg ([w.heap.size]) W9 W9 := (Wk.Chg.refl _).more (by simp)
      refine Wk.dVal 0 (some 44) (.pointer (some ⟨w.heap.size, 65, none⟩)) rfl rfl (by kernel_rfl) (by kernel_rfl) (by kernel_rfl) (fun _ _ _ h => h) (by kernel_rfl) (fun w' hw' => by kernel_rfl) sS5 ?_
      refine Wk.dVal 1 (some 45) (.slice (some ⟨w.heap.size, 65, none⟩) 32 32) rfl rfl (by kernel_rfl) (by kernel_rfl) (by kernel_rfl) (fun _ _ _ h => h) (by kernel_rfl) (fun w' hw' => (Mur.arr_slice_at 25 5 (.tmp 44) 32 rfl Tryd.underlying25 (by kernel_rfl) w.heap.size 65 (by kernel_rfl))) sS5 ?_
      refine Wk.dVal 2 (some 46) (.slice (some ⟨g, off, none⟩) 104 c) rfl rfl (by kernel_rfl) (by kernel_rfl) (by kernel_rfl) (fun _ _ _ h => h) (by kernel_rfl) (fun w' hw' => by kernel_rfl) sS5 ?_
      refine Wk.dVal 3 (some 47) (.slice (some ⟨g, off + 72, none⟩) 32 (c - 72)) rfl rfl (by kernel_rfl) (by kernel_rfl) (by kernel_rfl) (fun _ _ _ h => h) (by kernel_rfl) (fun w' hw' => (Mur.run_from_at 22 (.tmp 46) (.const (.int .i64 72)) rfl 5 Tryd.underlying22 (by kernel_rfl) g off 104 c 72 32 (by kernel_rfl) (by kernel_rfl) (by omega) (by omega) rfl)) sS5 ?_
      refine Wk.dOp 4 (by kernel_rfl) ?_
      have kk8 := Wk.Chg.step kk5 ch8 ⟨.inr (by omega), trivial⟩
      have kk9 := Wk.Chg.step kk8 ch9 trivial
      refine Wk.oEx (some 48) _ rfl rfl (by kernel_rfl) (Mur.copy_mid (.tmp 45) (.tmp 47) 22 22 rfl 5 Tryd.underlying22 (by kernel_rfl) w.heap.size 65 32 32 (by kernel_rfl) (some ⟨g, off + 72, none⟩) 32 (c - 72) (by kernel_rfl) 36 (Mur.attC K R ((V : Nat) : Int) Mur.z32) T (Wk.Chg.hp ch9 hb6 trivial) (Mur.byt_chg hb72 kk9 (fun g off e hl => trivial)) (by omega) (by omega) (by rw [Mur.attC_length hb0.1 hb32.1 rfl]; omega) _ (Mur.att_sp65 hb0.1 hb32.1 rfl hb72.1)) ?_
      rintro _ W10 ⟨rfl, hb7, ch10⟩
      have zz10 := ch10.size
      have sS6 := Wk.Chg.step sS5 ch10 ⟨.inl (by simp), trivial⟩
      refine ⟨sS6, ?_⟩
      refine Wk.dEnd (by kernel_rfl) ?_
      refine Wk.nxt ?_
      refine wp_seq ?_
      refine Wk.reg ?_
      refine Wk.rPure 0 (some 49) (.agg ((Mur.attC K R ((V : Nat) : Int) T).toArray)) rfl rfl (by kernel_rfl) (Mur.loadArr 36 (.tmp 2) rfl _ Tryd.underlying36 rfl w.heap.size (by kernel_rfl) (Mur.attC K R ((V : Nat) : Int) T).toArray 97 (Mur.attC_size hb0.1 hb32.1 hb72.1) (by kernel_rfl) 36 (0, 0) hb7) ?_
      refine Wk.rExS 1 none _ rfl rfl (by kernel_rfl) (Mur.storeArr 36 (.tmp 2) (.tmp 49) rfl w.heap.size (by kernel_rfl) (Mur.attC K R ((V : Nat) : Int) T).toArray 97 (Mur.attC_size hb0.1 hb32.1 hb72.1) Mur.attC_all (by kernel_rfl) (by kernel_rfl) 36 ((Mur.attC K R ((V : Nat) : Int) T).toArray) hb7 (Mur.attC_size hb0.1 hb32.1 hb72.1)) ?_
      rintro W11 ⟨hb8, ch11⟩
      have zz11 := ch11.size
      refine Wk.rPure 2 (some 3) (.int .i64 0) rfl rfl (by kernel_rfl) (by kernel_rfl) ?_
      refine Wk.rEnd 3 rfl ?_
      refine Wk.nxt ?_
      refine wp_ret ?_
      exfalso; omega
theorem Read_ok (g off c : Nat) (b K R E T : List UInt8) (V : Nat) (w : World) (hb : Byt w (some ⟨g, off, none⟩) 104 b) (hc : 104 ≤ c) (hK : (b.take 32).drop 0 = K) (hR : (b.take 64).drop 32 = R) (hE : (b.take 72).drop 64 = E) (hT : (b.take 104).drop 72 = T) (hV : Mur.be8 E = V) (hm : 1 ≤ V ∧ V ≤ 5000) : Calls Tryd.prog 26 #[.slice (some ⟨g, off, none⟩) 104 c] w fun e w' => e = .returned (.tuple #[.agg (attC K R ((V : Nat) : Int) T).toArray, .int .i64 0]) ∧ Wk.Chg [] w w' := by
  have hb0 : Byt w (some ⟨g, off + 0, none⟩) 32 K := by have := Mur.byt_sub hb 0 32 32 rfl (by omega); rw [hK] at this; exact this
  have hb32 : Byt w (some ⟨g, off + 32, none⟩) 32 R := by have := Mur.byt_sub hb 32 64 32 rfl (by omega); rw [hR] at this; exact this
  have hb64 : Byt w (some ⟨g, off + 64, none⟩) 8 E := by have := Mur.byt_sub hb 64 72 8 rfl (by omega); rw [hE] at this; exact this
  have hb72 : Byt w (some ⟨g, off + 72, none⟩) 32 T := by have := Mur.byt_sub hb 72 104 32 rfl (by omega); rw [hT] at this; exact this
  have hx0_ := (E.getD 0 0).toNat_lt
  have hx1_ := (E.getD 1 0).toNat_lt
  have hx2_ := (E.getD 2 0).toNat_lt
  have hx3_ := (E.getD 3 0).toNat_lt
  have hx4_ := (E.getD 4 0).toNat_lt
  have hx5_ := (E.getD 5 0).toNat_lt
  have hx6_ := (E.getD 6 0).toNat_lt
  have hx7_ := (E.getD 7 0).toNat_lt
  refine calls_of_wp Tryd.func26 rfl ?_
  refine wp_seq ?_
  refine Wk.reg ?_
  refine Wk.rEx 0 (some 2) _ rfl rfl (by kernel_rfl) (Wk.new_ex (.pointer (some ⟨w.heap.size, 0, none⟩)) #[.int .u8 0, .int .u8 0, .int .u8 0, .int .u8 0, .int .u8 0, .int .u8 0, .int .u8 0, .int .u8 0, .int .u8 0, .int .u8 0, .int .u8 0, .int .u8 0, .int .u8 0, .int .u8 0, .int .u8 0, .int .u8 0, .int .u8 0, .int .u8 0, .int .u8 0, .int .u8 0, .int .u8 0, .int .u8 0, .int .u8 0, .int .u8 0, .int .u8 0, .int .u8 0, .int .u8 0, .int .u8 0, .int .u8 0, .int .u8 0, .int .u8 0, .int .u8 0, .int .u8 0, .int .u8 0, .int .u8 0, .int .u8 0, .int .u8 0, .int .u8 0, .int .u8 0, .int .u8 0, .int .u8 0, .int .u8 0, .int .u8 0, .int .u8 0, .int .u8 0, .int .u8 0, .int .u8 0, .int .u8 0, .int .u8 0, .int .u8 0, .int .u8 0, .int .u8 0, .int .u8 0, .int .u8 0, .int .u8 0, .int .u8 0, .int .u8 0, .int .u8 0, .int .u8 0, .int .u8 0, .int .u8 0, .int .u8 0, .int .u8 0, .int .u8 0, .int .i64 0, .int .u8 0, .int .u8 0, .int .u8 0, .int .u8 0, .int .u8 0, .int .u8 0, .int .u8 0, .int .u8 0, .int .u8 0, .int .u8 0, .int .u8 0, .int .u8 0, .int .u8 0, .int .u8 0, .int .u8 0, .int .u8 0, .int .u8 0, .int .u8 0, .int .u8 0, .int .u8 0, .int .u8 0, .int .u8 0, .int .u8 0, .int .u8 0, .int .u8 0, .int .u8 0, .int .u8 0, .int .u8 0, .int .u8 0, .int .u8 0, .int .u8 0, .int .u8 0] 36 (by kernel_rfl)) ?_
  rintro _ W1 ⟨rfl, hb1, ch1, sz1⟩
  have zz1 := ch1.size
  rw [← Mur.attC_zero] at hb1
  refine Wk.rPure 1 (some 3) (.int .i64 0) rfl rfl (by kernel_rfl) (by kernel_rfl) ?_
  refine Wk.rEnd 2 rfl ?_
  refine Wk.nxt ?_
  refine wp_seq ?_
  refine wp_seq ?_
  refine Wk.reg ?_
  refine Wk.rPure 0 (some 7) (.slice (some ⟨g, off, none⟩) 104 c) rfl rfl (by kernel_rfl) (by kernel_rfl) ?_
  refine Wk.rPure 1 (some 8) (.int .i64 104) rfl rfl (by kernel_rfl) (by kernel_rfl) ?_
  refine Wk.rPure 2 (some 9) (.bool false) rfl rfl (by kernel_rfl) (Wk.boolF (b := ((104 : Int) != (104 : Int))) (bne_eq_false_iff_eq.2 (by decide)) (by kernel_rfl)) ?_
  refine Wk.rEnd 3 rfl ?_
  refine Wk.nxt ?_
  refine wp_cond_false (by kernel_rfl) ?_
  refine wp_skip ?_
  refine Wk.nxt ?_
  refine wp_seq ?_
  refine Wk.dReg ([w.heap.size]) (by kernel_rfl) ?_
  intro W2 ch2 sz2
  have zz2 := ch2.size
  have sS1 : Wk.Chg ([w.heap.size]) W2 W2 := (Wk.Chg.refl _).more (by simp)
  refine Wk.dVal 0 (some 11) (.pointer (some ⟨w.heap.size, 0, none⟩)) rfl rfl (by kernel_rfl) (by kernel_rfl) (by kernel_rfl) (fun _ _ _ h => h) (by kernel_rfl) (fun w' hw' => by kernel_rfl) sS1 ?_
  refine Wk.dVal 1 (some 12) (.slice (some ⟨w.heap.size, 0, none⟩) 32 32) rfl rfl (by kernel_rfl) (by kernel_rfl) (by kernel_rfl) (fun _ _ _ h => h) (by kernel_rfl) (fun w' hw' => (Mur.arr_slice 25 5 (.tmp 11) 32 rfl Tryd.underlying25 (by kernel_rfl) w.heap.size (by kernel_rfl))) sS1 ?_
  refine Wk.dVal 2 (some 13) (.slice (some ⟨g, off, none⟩) 104 c) rfl rfl (by kernel_rfl) (by kernel_rfl) (by kernel_rfl) (fun _ _ _ h => h) (by kernel_rfl) (fun w' hw' => by kernel_rfl) sS1 ?_
  refine Wk.dVal 3 (some 14) (.slice (some ⟨g, off + 0, none⟩) 32 32) rfl rfl (by kernel_rfl) (by kernel_rfl) (by kernel_rfl) (fun _ _ _ h => h) (by kernel_rfl) (fun w' hw' => (Mur.run_cut3 22 (.tmp 13) none (.const (.int .i64 32)) (.const (.int .i64 32)) rfl 5 Tryd.underlying22 (by kernel_rfl) g off 104 c 0 32 32 32 (by kernel_rfl) (.inr ⟨rfl, rfl⟩) (by kernel_rfl) (by kernel_rfl) rfl rfl (by omega) (by omega))) sS1 ?_
  refine Wk.dOp 4 (by kernel_rfl) ?_
  have kk1 : Wk.Chg [] w W1 := Wk.Chg.step ((Wk.Chg.refl _).more (by simp)) ch1 trivial
  have kk2 := Wk.Chg.step kk1 ch2 trivial
  refine Wk.oEx (some 15) _ rfl rfl (by kernel_rfl) (Mur.copy_mid (.tmp 12) (.tmp 14) 22 22 rfl 5 Tryd.underlying22 (by kernel_rfl) w.heap.size 0 32 32 (by kernel_rfl) (some ⟨g, off + 0, none⟩) 32 32 (by kernel_rfl) 36 (Mur.attC Mur.z32 Mur.z32 0 Mur.z32) K (Wk.Chg.hp ch2 hb1 trivial) (Mur.byt_chg hb0 kk2 (fun g off e hl => trivial)) (by omega) (by omega) (by rw [Mur.attC_length rfl rfl rfl]; omega) _ (Mur.att_sp0 rfl hb0.1)) ?_
  rintro _ W3 ⟨rfl, hb2, ch3⟩
  have zz3 := ch3.size
  have sS2 := Wk.Chg.step sS1 ch3 ⟨.inl (by simp), trivial⟩
  refine ⟨sS2, ?_⟩
  refine Wk.dEnd (by kernel_rfl) ?_
  refine Wk.nxt ?_
  refine wp_seq ?_
  refine Wk.dReg ([w.heap.size]) (by kernel_rfl) ?_
  intro W4 ch4 sz3
  have zz4 := ch4.size
  have sS3 : Wk.Chg ([w.heap.size]) W4 W4 := (Wk.Chg.refl _).more (by simp)
  refine Wk.dVal 0 (some 16) (.pointer (some ⟨w.heap.size, 32, none⟩)) rfl rfl (by kernel_rfl) (by kernel_rfl) (by kernel_rfl) (fun _ _ _ h => h) (by kernel_rfl) (fun w' hw' => by kernel_rfl) sS3 ?_
  refine Wk.dVal 1 (some 17) (.slice (some ⟨w.heap.size, 32, none⟩) 32 32) rfl rfl (by kernel_rfl) (by kernel_rfl) (by kernel_rfl) (fun _ _ _ h => h) (by kernel_rfl) (fun w' hw' => (Mur.arr_slice_at 25 5 (.tmp 16) 32 rfl Tryd.underlying25 (by kernel_rfl) w.heap.size 32 (by kernel_rfl))) sS3 ?_
  refine Wk.dVal 2 (some 18) (.slice (some ⟨g, off, none⟩) 104 c) rfl rfl (by kernel_rfl) (by kernel_rfl) (by kernel_rfl) (fun _ _ _ h => h) (by kernel_rfl) (fun w' hw' => by kernel_rfl) sS3 ?_
  refine Wk.dVal 3 (some 19) (.slice (some ⟨g, off + 32, none⟩) 32 32) rfl rfl (by kernel_rfl) (by kernel_rfl) (by kernel_rfl) (fun _ _ _ h => h) (by kernel_rfl) (fun w' hw' => (Mur.run_cut3 22 (.tmp 18) (some (.const (.int .i64 32))) (.const (.int .i64 64)) (.const (.int .i64 64)) rfl 5 Tryd.underlying22 (by kernel_rfl) g off 104 c 32 64 64 32 (by kernel_rfl) (.inl (by kernel_rfl)) (by kernel_rfl) (by kernel_rfl) rfl rfl (by omega) (by omega))) sS3 ?_
  refine Wk.dOp 4 (by kernel_rfl) ?_
  have kk3 := Wk.Chg.step kk2 ch3 ⟨.inr (by omega), trivial⟩
  have kk4 := Wk.Chg.step kk3 ch4 trivial
  refine Wk.oEx (some 20) _ rfl rfl (by kernel_rfl) (Mur.copy_mid (.tmp 17) (.tmp 19) 22 22 rfl 5 Tryd.underlying22 (by kernel_rfl) w.heap.size 32 32 32 (by kernel_rfl) (some ⟨g, off + 32, none⟩) 32 32 (by kernel_rfl) 36 (Mur.attC K Mur.z32 0 Mur.z32) R (Wk.Chg.hp ch4 hb2 trivial) (Mur.byt_chg hb32 kk4 (fun g off e hl => trivial)) (by omega) (by omega) (by rw [Mur.attC_length hb0.1 rfl rfl]; omega) _ (Mur.att_sp32 hb0.1 rfl hb32.1)) ?_
  rintro _ W5 ⟨rfl, hb3, ch5⟩
  have zz5 := ch5.size
  have sS4 := Wk.Chg.step sS3 ch5 ⟨.inl (by simp), trivial⟩
  refine ⟨sS4, ?_⟩
  refine Wk.dEnd (by kernel_rfl) ?_
  refine Wk.nxt ?_
  refine wp_seq ?_
  refine Wk.reg ?_
  refine Wk.rPure 0 (some 4) (.int .u64 0) rfl rfl (by kernel_rfl) (by kernel_rfl) ?_
  refine Wk.rEnd 1 rfl ?_
  refine Wk.nxt ?_
  refine wp_seq ?_
  refine wp_seq ?_
  refine Wk.reg ?_
  refine Wk.rPure 0 (some 21) (.slice (some ⟨g, off, none⟩) 104 c) rfl rfl (by kernel_rfl) (by kernel_rfl) ?_
  refine Wk.rPure 1 (some 22) (.slice (some ⟨g, off + 64, none⟩) 8 8) rfl rfl (by kernel_rfl) (Mur.run_cut3 22 (.tmp 21) (some (.const (.int .i64 64))) (.const (.int .i64 72)) (.const (.int .i64 72)) rfl 5 Tryd.underlying22 (by kernel_rfl) g off 104 c 64 72 72 8 (by kernel_rfl) (.inl (by kernel_rfl)) (by kernel_rfl) (by kernel_rfl) rfl rfl (by omega) (by omega)) ?_
  refine Wk.rPure 2 (some 23) (.int .i64 8) rfl rfl (by kernel_rfl) (by kernel_rfl) ?_
  refine Wk.rPure 3 (some 24) (.int .i64 0) rfl rfl (by kernel_rfl) (by kernel_rfl) ?_
  refine Wk.rEnd 4 rfl ?_
  refine Wk.nxt ?_
  refine wp_block ?_
  refine Wk.loopN 9 ?_
  refine Wk.rdS ?_
  refine wp_seq ?_
  refine Wk.reg ?_
  refine Wk.rPure 0 (some 25) (.bool true) rfl rfl (by kernel_rfl) (Wk.boolT (b := decide ((0 : Int) < (8 : Int))) (decide_eq_true (by decide)) (by kernel_rfl)) ?_
  refine Wk.rEnd 1 rfl ?_
  refine Wk.nxt ?_
  refine wp_seq ?_
  refine wp_cond_true (by kernel_rfl) ?_
  refine wp_skip ?_
  refine Wk.nxt ?_
  refine wp_seq ?_
  refine wp_block ?_
  refine wp_seq ?_
  refine Wk.reg ?_
  refine Wk.rPure 0 (some 26) (.pointer (some ⟨g, off + 64 + 0 * 1, none⟩)) rfl rfl (by kernel_rfl) (Wk.index_sl 22 5 (.tmp 22) (.tmp 24) rfl Tryd.underlying22 1 (by kernel_rfl) g (off + 64) 8 8 0 .i64 (by kernel_rfl) (by kernel_rfl) (by omega)) ?_
  have kk5 := Wk.Chg.step kk4 ch5 ⟨.inr (by omega), trivial⟩
  refine Wk.rPure 1 (some 27) (.int .u8 (((E.getD 0 0).toNat : Nat) : Int)) rfl rfl (by kernel_rfl) (Wk.load1 5 (.tmp 26) rfl (by kernel_rfl) ⟨g, off + 64 + 0 * 1, none⟩ (by kernel_rfl) (.int .u8 (((E.getD 0 0).toNat : Nat) : Int)) (Mur.byt_cell (Mur.byt_chg hb64 kk5 (fun g off e hl => trivial)) 0 (by omega))) ?_
  refine Wk.rPure 2 (some 6) (.int .u8 (((E.getD 0 0).toNat : Nat) : Int)) rfl rfl (by kernel_rfl) (by kernel_rfl) ?_
  refine Wk.rEnd 3 rfl ?_
  refine Wk.nxt ?_
  refine Wk.reg ?_
  refine Wk.rPure 0 (some 28) (.int .u64 0) rfl rfl (by kernel_rfl) (by kernel_rfl) ?_
  refine Wk.rPure 1 (some 29) (.int .u64 ((0 * 256 : Nat) : Int)) rfl rfl (by kernel_rfl) (Mur.shl8_64 32 68 (.tmp 28) (.const (.int .u64 8)) rfl 0 .u64 (by kernel_rfl) (by kernel_rfl) (by omega)) ?_
  refine Wk.rPure 2 (some 30) (.int .u8 (((E.getD 0 0).toNat : Nat) : Int)) rfl rfl (by kernel_rfl) (by kernel_rfl) ?_
  refine Wk.rPure 3 (some 31) (.int .u64 (((E.getD 0 0).toNat : Nat) : Int)) rfl rfl (by kernel_rfl) (Mur.conv_int 5 32 (.tmp 30) rfl (by kernel_rfl) .u64 Tryd.underlying32 .u8 (((E.getD 0 0).toNat : Nat) : Int) (by kernel_rfl) (Mur.u64_nat (by omega))) ?_
  refine Wk.rPure 4 (some 32) (.int .u64 ((0 * 256 + (E.getD 0 0).toNat : Nat) : Int)) rfl rfl (by kernel_rfl) (Mur.or64 32 32 (.tmp 29) (.tmp 31) rfl 0 (E.getD 0 0).toNat (by kernel_rfl) (by kernel_rfl) (by omega) (by omega)) ?_
  refine Wk.rPure 5 (some 4) (.int .u64 ((0 * 256 + (E.getD 0 0).toNat : Nat) : Int)) rfl rfl (by kernel_rfl) (by kernel_rfl) ?_
  refine Wk.rEnd 6 rfl ?_
  refine Wk.inN ?_
  refine Wk.nxt ?_
  refine Wk.reg ?_
  refine Wk.rPure 0 (some 33) (.int .i64 1) rfl rfl (by kernel_rfl) (Wk.int64 (n := 0 + 1) (z := 1) (by omega) (by omega) (by omega) (by kernel_rfl)) ?_
  refine Wk.rPure 1 (some 24) (.int .i64 1) rfl rfl (by kernel_rfl) (by kernel_rfl) ?_
  refine Wk.rEnd 2 rfl ?_
  refine Wk.nxt ?_
  refine Wk.rdS ?_
  refine wp_seq ?_
  refine Wk.reg ?_
  refine Wk.rPure 0 (some 25) (.bool true) rfl rfl (by kernel_rfl) (Wk.boolT (b := decide ((1 : Int) < (8 : Int))) (decide_eq_true (by decide)) (by kernel_rfl)) ?_
  refine Wk.rEnd 1 rfl ?_
  refine Wk.nxt ?_
  refine wp_seq ?_
  refine wp_cond_true (by kernel_rfl) ?_
  refine wp_skip ?_
  refine Wk.nxt ?_
  refine wp_seq ?_
  refine wp_block ?_
  refine wp_seq ?_
  refine Wk.reg ?_
  refine Wk.rPure 0 (some 26) (.pointer (some ⟨g, off + 64 + 1 * 1, none⟩)) rfl rfl (by kernel_rfl) (Wk.index_sl 22 5 (.tmp 22) (.tmp 24) rfl Tryd.underlying22 1 (by kernel_rfl) g (off + 64) 8 8 1 .i64 (by kernel_rfl) (by kernel_rfl) (by omega)) ?_
  refine Wk.rPure 1 (some 27) (.int .u8 (((E.getD 1 0).toNat : Nat) : Int)) rfl rfl (by kernel_rfl) (Wk.load1 5 (.tmp 26) rfl (by kernel_rfl) ⟨g, off + 64 + 1 * 1, none⟩ (by kernel_rfl) (.int .u8 (((E.getD 1 0).toNat : Nat) : Int)) (Mur.byt_cell (Mur.byt_chg hb64 kk5 (fun g off e hl => trivial)) 1 (by omega))) ?_
  refine Wk.rPure 2 (some 6) (.int .u8 (((E.getD 1 0).toNat : Nat) : Int)) rfl rfl (by kernel_rfl) (by kernel_rfl) ?_
  refine Wk.rEnd 3 rfl ?_
  refine Wk.nxt ?_
  refine Wk.reg ?_
  refine Wk.rPure 0 (some 28) (.int .u64 ((0 * 256 + (E.getD 0 0).toNat : Nat) : Int)) rfl rfl (by kernel_rfl) (by kernel_rfl) ?_
  refine Wk.rPure 1 (some 29) (.int .u64 (((0 * 256 + (E.getD 0 0).toNat) * 256 : Nat) : Int)) rfl rfl (by kernel_rfl) (Mur.shl8_64 32 68 (.tmp 28) (.const (.int .u64 8)) rfl (0 * 256 + (E.getD 0 0).toNat) .u64 (by kernel_rfl) (by kernel_rfl) (by omega)) ?_
  refine Wk.rPure 2 (some 30) (.int .u8 (((E.getD 1 0).toNat : Nat) : Int)) rfl rfl (by kernel_rfl) (by kernel_rfl) ?_
  refine Wk.rPure 3 (some 31) (.int .u64 (((E.getD 1 0).toNat : Nat) : Int)) rfl rfl (by kernel_rfl) (Mur.conv_int 5 32 (.tmp 30) rfl (by kernel_rfl) .u64 Tryd.underlying32 .u8 (((E.getD 1 0).toNat : Nat) : Int) (by kernel_rfl) (Mur.u64_nat (by omega))) ?_
  refine Wk.rPure 4 (some 32) (.int .u64 (((0 * 256 + (E.getD 0 0).toNat) * 256 + (E.getD 1 0).toNat : Nat) : Int)) rfl rfl (by kernel_rfl) (Mur.or64 32 32 (.tmp 29) (.tmp 31) rfl (0 * 256 + (E.getD 0 0).toNat) (E.getD 1 0).toNat (by kernel_rfl) (by kernel_rfl) (by omega) (by omega)) ?_
  refine Wk.rPure 5 (some 4) (.int .u64 (((0 * 256 + (E.getD 0 0).toNat) * 256 + (E.getD 1 0).toNat : Nat) : Int)) rfl rfl (by kernel_rfl) (by kernel_rfl) ?_
  refine Wk.rEnd 6 rfl ?_
  refine Wk.inN ?_
  refine Wk.nxt ?_
  refine Wk.reg ?_
  refine Wk.rPure 0 (some 33) (.int .i64 2) rfl rfl (by kernel_rfl) (Wk.int64 (n := 1 + 1) (z := 2) (by omega) (by omega) (by omega) (by kernel_rfl)) ?_
  refine Wk.rPure 1 (some 24) (.int .i64 2) rfl rfl (by kernel_rfl) (by kernel_rfl) ?_
  refine Wk.rEnd 2 rfl ?_
  refine Wk.nxt ?_
  refine Wk.rdS ?_
  refine wp_seq ?_
  refine Wk.reg ?_
  refine Wk.rPure 0 (some 25) (.bool true) rfl rfl (by kernel_rfl) (Wk.boolT (b := decide ((2 : Int) < (8 : Int))) (decide_eq_true (by decide)) (by kernel_rfl)) ?_
  refine Wk.rEnd 1 rfl ?_
  refine Wk.nxt ?_
  refine wp_seq ?_
  refine wp_cond_true (by kernel_rfl) ?_
  refine wp_skip ?_
  refine Wk.nxt ?_
  refine wp_seq ?_
  refine wp_block ?_
  refine wp_seq ?_
  refine Wk.reg ?_
  refine Wk.rPure 0 (some 26) (.pointer (some ⟨g, off + 64 + 2 * 1, none⟩)) rfl rfl (by kernel_rfl) (Wk.index_sl 22 5 (.tmp 22) (.tmp 24) rfl Tryd.underlying22 1 (by kernel_rfl) g (off + 64) 8 8 2 .i64 (by kernel_rfl) (by kernel_rfl) (by omega)) ?_
  refine Wk.rPure 1 (some 27) (.int .u8 (((E.getD 2 0).toNat : Nat) : Int)) rfl rfl (by kernel_rfl) (Wk.load1 5 (.tmp 26) rfl (by kernel_rfl) ⟨g, off + 64 + 2 * 1, none⟩ (by kernel_rfl) (.int .u8 (((E.getD 2 0).toNat : Nat) : Int)) (Mur.byt_cell (Mur.byt_chg hb64 kk5 (fun g off e hl => trivial)) 2 (by omega))) ?_
  refine Wk.rPure 2 (some 6) (.int .u8 (((E.getD 2 0).toNat : Nat) : Int)) rfl rfl (by kernel_rfl) (by kernel_rfl) ?_
  refine Wk.rEnd 3 rfl ?_
  refine Wk.nxt ?_
  refine Wk.reg ?_
  refine Wk.rPure 0 (some 28) (.int .u64 (((0 * 256 + (E.getD 0 0).toNat) * 256 + (E.getD 1 0).toNat : Nat) : Int)) rfl rfl (by kernel_rfl) (by kernel_rfl) ?_
  refine Wk.rPure 1 (some 29) (.int .u64 ((((0 * 256 + (E.getD 0 0).toNat) * 256 + (E.getD 1 0).toNat) * 256 : Nat) : Int)) rfl rfl (by kernel_rfl) (Mur.shl8_64 32 68 (.tmp 28) (.const (.int .u64 8)) rfl ((0 * 256 + (E.getD 0 0).toNat) * 256 + (E.getD 1 0).toNat) .u64 (by kernel_rfl) (by kernel_rfl) (by omega)) ?_
  refine Wk.rPure 2 (some 30) (.int .u8 (((E.getD 2 0).toNat : Nat) : Int)) rfl rfl (by kernel_rfl) (by kernel_rfl) ?_
  refine Wk.rPure 3 (some 31) (.int .u64 (((E.getD 2 0).toNat : Nat) : Int)) rfl rfl (by kernel_rfl) (Mur.conv_int 5 32 (.tmp 30) rfl (by kernel_rfl) .u64 Tryd.underlying32 .u8 (((E.getD 2 0).toNat : Nat) : Int) (by kernel_rfl) (Mur.u64_nat (by omega))) ?_
  refine Wk.rPure 4 (some 32) (.int .u64 ((((0 * 256 + (E.getD 0 0).toNat) * 256 + (E.getD 1 0).toNat) * 256 + (E.getD 2 0).toNat : Nat) : Int)) rfl rfl (by kernel_rfl) (Mur.or64 32 32 (.tmp 29) (.tmp 31) rfl ((0 * 256 + (E.getD 0 0).toNat) * 256 + (E.getD 1 0).toNat) (E.getD 2 0).toNat (by kernel_rfl) (by kernel_rfl) (by omega) (by omega)) ?_
  refine Wk.rPure 5 (some 4) (.int .u64 ((((0 * 256 + (E.getD 0 0).toNat) * 256 + (E.getD 1 0).toNat) * 256 + (E.getD 2 0).toNat : Nat) : Int)) rfl rfl (by kernel_rfl) (by kernel_rfl) ?_
  refine Wk.rEnd 6 rfl ?_
  refine Wk.inN ?_
  refine Wk.nxt ?_
  refine Wk.reg ?_
  refine Wk.rPure 0 (some 33) (.int .i64 3) rfl rfl (by kernel_rfl) (Wk.int64 (n := 2 + 1) (z := 3) (by omega) (by omega) (by omega) (by kernel_rfl)) ?_
  refine Wk.rPure 1 (some 24) (.int .i64 3) rfl rfl (by kernel_rfl) (by kernel_rfl) ?_
  refine Wk.rEnd 2 rfl ?_
  refine Wk.nxt ?_
  refine Wk.rdS ?_
  refine wp_seq ?_
  refine Wk.reg ?_
  refine Wk.rPure 0 (some 25) (.bool true) rfl rfl (by kernel_rfl) (Wk.boolT (b := decide ((3 : Int) < (8 : Int))) (decide_eq_true (by decide)) (by kernel_rfl)) ?_
  refine Wk.rEnd 1 rfl ?_
  refine Wk.nxt ?_
  refine wp_seq ?_
  refine wp_cond_true (by kernel_rfl) ?_
  refine wp_skip ?_
  refine Wk.nxt ?_
  refine wp_seq ?_
  refine wp_block ?_
  refine wp_seq ?_
  refine Wk.reg ?_
  refine Wk.rPure 0 (some 26) (.pointer (some ⟨g, off + 64 + 3 * 1, none⟩)) rfl rfl (by kernel_rfl) (Wk.index_sl 22 5 (.tmp 22) (.tmp 24) rfl Tryd.underlying22 1 (by kernel_rfl) g (off + 64) 8 8 3 .i64 (by kernel_rfl) (by kernel_rfl) (by omega)) ?_
  refine Wk.rPure 1 (some 27) (.int .u8 (((E.getD 3 0).toNat : Nat) : Int)) rfl rfl (by kernel_rfl) (Wk.load1 5 (.tmp 26) rfl (by kernel_rfl) ⟨g, off + 64 + 3 * 1, none⟩ (by kernel_rfl) (.int .u8 (((E.getD 3 0).toNat : Nat) : Int)) (Mur.byt_cell (Mur.byt_chg hb64 kk5 (fun g off e hl => trivial)) 3 (by omega))) ?_
  refine Wk.rPure 2 (some 6) (.int .u8 (((E.getD 3 0).toNat : Nat) : Int)) rfl rfl (by kernel_rfl) (by kernel_rfl) ?_
  refine Wk.rEnd 3 rfl ?_
  refine Wk.nxt ?_
  refine Wk.reg ?_
  refine Wk.rPure 0 (some 28) (.int .u64 ((((0 * 256 + (E.getD 0 0).toNat) * 256 + (E.getD 1 0).toNat) * 256 + (E.getD 2 0).toNat : Nat) : Int)) rfl rfl (by kernel_rfl) (by kernel_rfl) ?_
  refine Wk.rPure 1 (some 29) (.int .u64 (((((0 * 256 + (E.getD 0 0).toNat) * 256 + (E.getD 1 0).toNat) * 256 + (E.getD 2 0).toNat) * 256 : Nat) : Int)) rfl rfl (by kernel_rfl) (Mur.shl8_64 32 68 (.tmp 28) (.const (.int .u64 8)) rfl (((0 * 256 + (E.getD 0 0).toNat) * 256 + (E.getD 1 0).toNat) * 256 + (E.getD 2 0).toNat) .u64 (by kernel_rfl) (by kernel_rfl) (by omega)) ?_
  refine Wk.rPure 2 (some 30) (.int .u8 (((E.getD 3 0).toNat : Nat) : Int)) rfl rfl (by kernel_rfl) (by kernel_rfl) ?_
  refine Wk.rPure 3 (some 31) (.int .u64 (((E.getD 3 0).toNat : Nat) : Int)) rfl rfl (by kernel_rfl) (Mur.conv_int 5 32 (.tmp 30) rfl (by kernel_rfl) .u64 Tryd.underlying32 .u8 (((E.getD 3 0).toNat : Nat) : Int) (by kernel_rfl) (Mur.u64_nat (by omega))) ?_
  refine Wk.rPure 4 (some 32) (.int .u64 (((((0 * 256 + (E.getD 0 0).toNat) * 256 + (E.getD 1 0).toNat) * 256 + (E.getD 2 0).toNat) * 256 + (E.getD 3 0).toNat : Nat) : Int)) rfl rfl (by kernel_rfl) (Mur.or64 32 32 (.tmp 29) (.tmp 31) rfl (((0 * 256 + (E.getD 0 0).toNat) * 256 + (E.getD 1 0).toNat) * 256 + (E.getD 2 0).toNat) (E.getD 3 0).toNat (by kernel_rfl) (by kernel_rfl) (by omega) (by omega)) ?_
  refine Wk.rPure 5 (some 4) (.int .u64 (((((0 * 256 + (E.getD 0 0).toNat) * 256 + (E.getD 1 0).toNat) * 256 + (E.getD 2 0).toNat) * 256 + (E.getD 3 0).toNat : Nat) : Int)) rfl rfl (by kernel_rfl) (by kernel_rfl) ?_
  refine Wk.rEnd 6 rfl ?_
  refine Wk.inN ?_
  refine Wk.nxt ?_
  refine Wk.reg ?_
  refine Wk.rPure 0 (some 33) (.int .i64 4) rfl rfl (by kernel_rfl) (Wk.int64 (n := 3 + 1) (z := 4) (by omega) (by omega) (by omega) (by kernel_rfl)) ?_
  refine Wk.rPure 1 (some 24) (.int .i64 4) rfl rfl (by kernel_rfl) (by kernel_rfl) ?_
  refine Wk.rEnd 2 rfl ?_
  refine Wk.nxt ?_
  refine Wk.rdS ?_
  refine wp_seq ?_
  refine Wk.reg ?_
  refine Wk.rPure 0 (some 25) (.bool true) rfl rfl (by kernel_rfl) (Wk.boolT (b := decide ((4 : Int) < (8 : Int))) (decide_eq_true (by decide)) (by kernel_rfl)) ?_
  refine Wk.rEnd 1 rfl ?_
  refine Wk.nxt ?_
  refine wp_seq ?_
  refine wp_cond_true (by kernel_rfl) ?_
  refine wp_skip ?_
  refine Wk.nxt ?_
  refine wp_seq ?_
  refine wp_block ?_
  refine wp_seq ?_
  refine Wk.reg ?_
  refine Wk.rPure 0 (some 26) (.pointer (some ⟨g, off + 64 + 4 * 1, none⟩)) rfl rfl (by kernel_rfl) (Wk.index_sl 22 5 (.tmp 22) (.tmp 24) rfl Tryd.underlying22 1 (by kernel_rfl) g (off + 64) 8 8 4 .i64 (by kernel_rfl) (by kernel_rfl) (by omega)) ?_
  refine Wk.rPure 1 (some 27) (.int .u8 (((E.getD 4 0).toNat : Nat) : Int)) rfl rfl (by kernel_rfl) (Wk.load1 5 (.tmp 26) rfl (by kernel_rfl) ⟨g, off + 64 + 4 * 1, none⟩ (by kernel_rfl) (.int .u8 (((E.getD 4 0).toNat : Nat) : Int)) (Mur.byt_cell (Mur.byt_chg hb64 kk5 (fun g off e hl => trivial)) 4 (by omega))) ?_
  refine Wk.rPure 2 (some 6) (.int .u8 (((E.getD 4 0).toNat : Nat) : Int)) rfl rfl (by kernel_rfl) (by kernel_rfl) ?_
  refine Wk.rEnd 3 rfl ?_
  refine Wk.nxt ?_
  refine Wk.reg ?_
  refine Wk.rPure 0 (some 28) (.int .u64 (((((0 * 256 + (E.getD 0 0).toNat) * 256 + (E.getD 1 0).toNat) * 256 + (E.getD 2 0).toNat) * 256 + (E.getD 3 0).toNat : Nat) : Int)) rfl rfl (by kernel_rfl) (by kernel_rfl) ?_
  refine Wk.rPure 1 (some 29) (.int .u64 ((((((0 * 256 + (E.getD 0 0).toNat) * 256 + (E.getD 1 0).toNat) * 256 + (E.getD 2 0).toNat) * 256 + (E.getD 3 0).toNat) * 256 : Nat) : Int)) rfl rfl (by kernel_rfl) (Mur.shl8_64 32 68 (.tmp 28) (.const (.int .u64 8)) rfl ((((0 * 256 + (E.getD 0 0).toNat) * 256 + (E.getD 1 0).toNat) * 256 + (E.getD 2 0).toNat) * 256 + (E.getD 3 0).toNat) .u64 (by kernel_rfl) (by kernel_rfl) (by omega)) ?_
  refine Wk.rPure 2 (some 30) (.int .u8 (((E.getD 4 0).toNat : Nat) : Int)) rfl rfl (by kernel_rfl) (by kernel_rfl) ?_
  refine Wk.rPure 3 (some 31) (.int .u64 (((E.getD 4 0).toNat : Nat) : Int)) rfl rfl (by kernel_rfl) (Mur.conv_int 5 32 (.tmp 30) rfl (by kernel_rfl) .u64 Tryd.underlying32 .u8 (((E.getD 4 0).toNat : Nat) : Int) (by kernel_rfl) (Mur.u64_nat (by omega))) ?_
  refine Wk.rPure 4 (some 32) (.int .u64 ((((((0 * 256 + (E.getD 0 0).toNat) * 256 + (E.getD 1 0).toNat) * 256 + (E.getD 2 0).toNat) * 256 + (E.getD 3 0).toNat) * 256 + (E.getD 4 0).toNat : Nat) : Int)) rfl rfl (by kernel_rfl) (Mur.or64 32 32 (.tmp 29) (.tmp 31) rfl ((((0 * 256 + (E.getD 0 0).toNat) * 256 + (E.getD 1 0).toNat) * 256 + (E.getD 2 0).toNat) * 256 + (E.getD 3 0).toNat) (E.getD 4 0).toNat (by kernel_rfl) (by kernel_rfl) (by omega) (by omega)) ?_
  refine Wk.rPure 5 (some 4) (.int .u64 ((((((0 * 256 + (E.getD 0 0).toNat) * 256 + (E.getD 1 0).toNat) * 256 + (E.getD 2 0).toNat) * 256 + (E.getD 3 0).toNat) * 256 + (E.getD 4 0).toNat : Nat) : Int)) rfl rfl (by kernel_rfl) (by kernel_rfl) ?_
  refine Wk.rEnd 6 rfl ?_
  refine Wk.inN ?_
  refine Wk.nxt ?_
  refine Wk.reg ?_
  refine Wk.rPure 0 (some 33) (.int .i64 5) rfl rfl (by kernel_rfl) (Wk.int64 (n := 4 + 1) (z := 5) (by omega) (by omega) (by omega) (by kernel_rfl)) ?_
  refine Wk.rPure 1 (some 24) (.int .i64 5) rfl rfl (by kernel_rfl) (by kernel_rfl) ?_
  refine Wk.rEnd 2 rfl ?_
  refine Wk.nxt ?_
  refine Wk.rdS ?_
  refine wp_seq ?_
  refine Wk.reg ?_
  refine Wk.rPure 0 (some 25) (.bool true) rfl rfl (by kernel_rfl) (Wk.boolT (b := decide ((5 : Int) < (8 : Int))) (decide_eq_true (by decide)) (by kernel_rfl)) ?_
  refine Wk.rEnd 1 rfl ?_
  refine Wk.nxt ?_
  refine wp_seq ?_
  refine wp_cond_true (by kernel_rfl) ?_
  refine wp_skip ?_
  refine Wk.nxt ?_
  refine wp_seq ?_
  refine wp_block ?_
  refine wp_seq ?_
  refine Wk.reg ?_
  refine Wk.rPure 0 (some 26) (.pointer (some ⟨g, off + 64 + 5 * 1, none⟩)) rfl rfl (by kernel_rfl) (Wk.index_sl 22 5 (.tmp 22) (.tmp 24) rfl Tryd.underlying22 1 (by kernel_rfl) g (off + 64) 8 8 5 .i64 (by kernel_rfl) (by kernel_rfl) (by omega)) ?_
  refine Wk.rPure 1 (some 27) (.int .u8 (((E.getD 5 0).toNat : Nat) : Int)) rfl rfl (by kernel_rfl) (Wk.load1 5 (.tmp 26) rfl (by kernel_rfl) ⟨g, off + 64 + 5 * 1, none⟩ (by kernel_rfl) (.int .u8 (((E.getD 5 0).toNat : Nat) : Int)) (Mur.byt_cell (Mur.byt_chg hb64 kk5 (fun g off e hl => trivial)) 5 (by omega))) ?_
  refine Wk.rPure 2 (some 6) (.int .u8 (((E.getD 5 0).toNat : Nat) : Int)) rfl rfl (by kernel_rfl) (by kernel_rfl) ?_
  refine Wk.rEnd 3 rfl ?_
  refine Wk.nxt ?_
  refine Wk.reg ?_
  refine Wk.rPure 0 (some 28) (.int .u64 ((((((0 * 256 + (E.getD 0 0).toNat) * 256 + (E.getD 1 0).toNat) * 256 + (E.getD 2 0).toNat) * 256 + (E.getD 3 0).toNat) * 256 + (E.getD 4 0).toNat : Nat) : Int)) rfl rfl (by kernel_rfl) (by kernel_rfl) ?_
  refine Wk.rPure 1 (some 29) (.int .u64 (((((((0 * 256 + (E.getD 0 0).toNat) * 256 + (E.getD 1 0).toNat) * 256 + (E.getD 2 0).toNat) * 256 + (E.getD 3 0).toNat) * 256 + (E.getD 4 0).toNat) * 256 : Nat) : Int)) rfl rfl (by kernel_rfl) (Mur.shl8_64 32 68 (.tmp 28) (.const (.int .u64 8)) rfl (((((0 * 256 + (E.getD 0 0).toNat) * 256 + (E.getD 1 0).toNat) * 256 + (E.getD 2 0).toNat) * 256 + (E.getD 3 0).toNat) * 256 + (E.getD 4 0).toNat) .u64 (by kernel_rfl) (by kernel_rfl) (by omega)) ?_
  refine Wk.rPure 2 (some 30) (.int .u8 (((E.getD 5 0).toNat : Nat) : Int)) rfl rfl (by kernel_rfl) (by kernel_rfl) ?_
  refine Wk.rPure 3 (some 31) (.int .u64 (((E.getD 5 0).toNat : Nat) : Int)) rfl rfl (by kernel_rfl) (Mur.conv_int 5 32 (.tmp 30) rfl (by kernel_rfl) .u64 Tryd.underlying32 .u8 (((E.getD 5 0).toNat : Nat) : Int) (by kernel_rfl) (Mur.u64_nat (by omega))) ?_
  refine Wk.rPure 4 (some 32) (.int .u64 (((((((0 * 256 + (E.getD 0 0).toNat) * 256 + (E.getD 1 0).toNat) * 256 + (E.getD 2 0).toNat) * 256 + (E.getD 3 0).toNat) * 256 + (E.getD 4 0).toNat) * 256 + (E.getD 5 0).toNat : Nat) : Int)) rfl rfl (by kernel_rfl) (Mur.or64 32 32 (.tmp 29) (.tmp 31) rfl (((((0 * 256 + (E.getD 0 0).toNat) * 256 + (E.getD 1 0).toNat) * 256 + (E.getD 2 0).toNat) * 256 + (E.getD 3 0).toNat) * 256 + (E.getD 4 0).toNat) (E.getD 5 0).toNat (by kernel_rfl) (by kernel_rfl) (by omega) (by omega)) ?_
  refine Wk.rPure 5 (some 4) (.int .u64 (((((((0 * 256 + (E.getD 0 0).toNat) * 256 + (E.getD 1 0).toNat) * 256 + (E.getD 2 0).toNat) * 256 + (E.getD 3 0).toNat) * 256 + (E.getD 4 0).toNat) * 256 + (E.getD 5 0).toNat : Nat) : Int)) rfl rfl (by kernel_rfl) (by kernel_rfl) ?_
  refine Wk.rEnd 6 rfl ?_
  refine Wk.inN ?_
  refine Wk.nxt ?_
  refine Wk.reg ?_
  refine Wk.rPure 0 (some 33) (.int .i64 6) rfl rfl (by kernel_rfl) (Wk.int64 (n := 5 + 1) (z := 6) (by omega) (by omega) (by omega) (by kernel_rfl)) ?_
  refine Wk.rPure 1 (some 24) (.int .i64 6) rfl rfl (by kernel_rfl) (by kernel_rfl) ?_
  refine Wk.rEnd 2 rfl ?_
  refine Wk.nxt ?_
  refine Wk.rdS ?_
  refine wp_seq ?_
  refine Wk.reg ?_
  refine Wk.rPure 0 (some 25) (.bool true) rfl rfl (by kernel_rfl) (Wk.boolT (b := decide ((6 : Int) < (8 : Int))) (decide_eq_true (by decide)) (by kernel_rfl)) ?_
  refine Wk.rEnd 1 rfl ?_
  refine Wk.nxt ?_
  refine wp_seq ?_
  refine wp_cond_true (by kernel_rfl) ?_
  refine wp_skip ?_
  refine Wk.nxt ?_
  refine wp_seq ?_
  refine wp_block ?_
  refine wp_seq ?_
  refine Wk.reg ?_
  refine Wk.rPure 0 (some 26) (.pointer (some ⟨g, off + 64 + 6 * 1, none⟩)) rfl rfl (by kernel_rfl) (Wk.index_sl 22 5 (.tmp 22) (.tmp 24) rfl Tryd.underlying22 1 (by kernel_rfl) g (off + 64) 8 8 6 .i64 (by kernel_rfl) (by kernel_rfl) (by omega)) ?_
  refine Wk.rPure 1 (some 27) (.int .u8 (((E.getD 6 0).toNat : Nat) : Int)) rfl rfl (by kernel_rfl) (Wk.load1 5 (.tmp 26) rfl (by kernel_rfl) ⟨g, off + 64 + 6 * 1, none⟩ (by kernel_rfl) (.int .u8 (((E.getD 6 0).toNat : Nat) : Int)) (Mur.byt_cell (Mur.byt_chg hb64 kk5 (fun g off e hl => trivial)) 6 (by omega))) ?_
  refine Wk.rPure 2 (some 6) (.int .u8 (((E.getD 6 0).toNat : Nat) : Int)) rfl rfl (by kernel_rfl) (by kernel_rfl) ?_
  refine Wk.rEnd 3 rfl ?_
  refine Wk.nxt ?_
  refine Wk.reg ?_
  refine Wk.rPure 0 (some 28) (.int .u64 (((((((0 * 256 + (E.getD 0 0).toNat) * 256 + (E.getD 1 0).toNat) * 256 + (E.getD 2 0).toNat) * 256 + (E.getD 3 0).toNat) * 256 + (E.getD 4 0).toNat) * 256 + (E.getD 5 0).toNat : Nat) : Int)) rfl rfl (by kernel_rfl) (by kernel_rfl) ?_
  refine Wk.rPure 1 (some 29) (.int .u64 ((((((((0 * 256 + (E.getD 0 0).toNat) * 256 + (E.getD 1 0).toNat) * 256 + (E.getD 2 0).toNat) * 256 + (E.getD 3 0).toNat) * 256 + (E.getD 4 0).toNat) * 256 + (E.getD 5 0).toNat) * 256 : Nat) : Int)) rfl rfl (by kernel_rfl) (Mur.shl8_64 32 68 (.tmp 28) (.const (.int .u64 8)) rfl ((((((0 * 256 + (E.getD 0 0).toNat) * 256 + (E.getD 1 0).toNat) * 256 + (E.getD 2 0).toNat) * 256 + (E.getD 3 0).toNat) * 256 + (E.getD 4 0).toNat) * 256 + (E.getD 5 0).toNat) .u64 (by kernel_rfl) (by kernel_rfl) (by omega)) ?_
  refine Wk.rPure 2 (some 30) (.int .u8 (((E.getD 6 0).toNat : Nat) : Int)) rfl rfl (by kernel_rfl) (by kernel_rfl) ?_
  refine Wk.rPure 3 (some 31) (.int .u64 (((E.getD 6 0).toNat : Nat) : Int)) rfl rfl (by kernel_rfl) (Mur.conv_int 5 32 (.tmp 30) rfl (by kernel_rfl) .u64 Tryd.underlying32 .u8 (((E.getD 6 0).toNat : Nat) : Int) (by kernel_rfl) (Mur.u64_nat (by omega))) ?_
  refine Wk.rPure 4 (some 32) (.int .u64 ((((((((0 * 256 + (E.getD 0 0).toNat) * 256 + (E.getD 1 0).toNat) * 256 + (E.getD 2 0).toNat) * 256 + (E.getD 3 0).toNat) * 256 + (E.getD 4 0).toNat) * 256 + (E.getD 5 0).toNat) * 256 + (E.getD 6 0).toNat : Nat) : Int)) rfl rfl (by kernel_rfl) (Mur.or64 32 32 (.tmp 29) (.tmp 31) rfl ((((((0 * 256 + (E.getD 0 0).toNat) * 256 + (E.getD 1 0).toNat) * 256 + (E.getD 2 0).toNat) * 256 + (E.getD 3 0).toNat) * 256 + (E.getD 4 0).toNat) * 256 + (E.getD 5 0).toNat) (E.getD 6 0).toNat (by kernel_rfl) (by kernel_rfl) (by omega) (by omega)) ?_
  refine Wk.rPure 5 (some 4) (.int .u64 ((((((((0 * 256 + (E.getD 0 0).toNat) * 256 + (E.getD 1 0).toNat) * 256 + (E.getD 2 0).toNat) * 256 + (E.getD 3 0).toNat) * 256 + (E.getD 4 0).toNat) * 256 + (E.getD 5 0).toNat) * 256 + (E.getD 6 0).toNat : Nat) : Int)) rfl rfl (by kernel_rfl) (by kernel_rfl) ?_
  refine Wk.rEnd 6 rfl ?_
  refine Wk.inN ?_
  refine Wk.nxt ?_
  refine Wk.reg ?_
  refine Wk.rPure 0 (some 33) (.int .i64 7) rfl rfl (by kernel_rfl) (Wk.int64 (n := 6 + 1) (z := 7) (by omega) (by omega) (by omega) (by kernel_rfl)) ?_
  refine Wk.rPure 1 (some 24) (.int .i64 7) rfl rfl (by kernel_rfl) (by kernel_rfl) ?_
  refine Wk.rEnd 2 rfl ?_
  refine Wk.nxt ?_
  refine Wk.rdS ?_
  refine wp_seq ?_
  refine Wk.reg ?_
  refine Wk.rPure 0 (some 25) (.bool true) rfl rfl (by kernel_rfl) (Wk.boolT (b := decide ((7 : Int) < (8 : Int))) (decide_eq_true (by decide)) (by kernel_rfl)) ?_
  refine Wk.rEnd 1 rfl ?_
  refine Wk.nxt ?_
  refine wp_seq ?_
  refine wp_cond_true (by kernel_rfl) ?_
  refine wp_skip ?_
  refine Wk.nxt ?_
  refine wp_seq ?_
  refine wp_block ?_
  refine wp_seq ?_
  refine Wk.reg ?_
  refine Wk.rPure 0 (some 26) (.pointer (some ⟨g, off + 64 + 7 * 1, none⟩)) rfl rfl (by kernel_rfl) (Wk.index_sl 22 5 (.tmp 22) (.tmp 24) rfl Tryd.underlying22 1 (by kernel_rfl) g (off + 64) 8 8 7 .i64 (by kernel_rfl) (by kernel_rfl) (by omega)) ?_
  refine Wk.rPure 1 (some 27) (.int .u8 (((E.getD 7 0).toNat : Nat) : Int)) rfl rfl (by kernel_rfl) (Wk.load1 5 (.tmp 26) rfl (by kernel_rfl) ⟨g, off + 64 + 7 * 1, none⟩ (by kernel_rfl) (.int .u8 (((E.getD 7 0).toNat : Nat) : Int)) (Mur.byt_cell (Mur.byt_chg hb64 kk5 (fun g off e hl => trivial)) 7 (by omega))) ?_
  refine Wk.rPure 2 (some 6) (.int .u8 (((E.getD 7 0).toNat : Nat) : Int)) rfl rfl (by kernel_rfl) (by kernel_rfl) ?_
  refine Wk.rEnd 3 rfl ?_
  refine Wk.nxt ?_
  refine Wk.reg ?_
  refine Wk.rPure 0 (some 28) (.int .u64 ((((((((0 * 256 + (E.getD 0 0).toNat) * 256 + (E.getD 1 0).toNat) * 256 + (E.getD 2 0).toNat) * 256 + (E.getD 3 0).toNat) * 256 + (E.getD 4 0).toNat) * 256 + (E.getD 5 0).toNat) * 256 + (E.getD 6 0).toNat : Nat) : Int)) rfl rfl (by kernel_rfl) (by kernel_rfl) ?_
  refine Wk.rPure 1 (some 29) (.int .u64 (((((((((0 * 256 + (E.getD 0 0).toNat) * 256 + (E.getD 1 0).toNat) * 256 + (E.getD 2 0).toNat) * 256 + (E.getD 3 0).toNat) * 256 + (E.getD 4 0).toNat) * 256 + (E.getD 5 0).toNat) * 256 + (E.getD 6 0).toNat) * 256 : Nat) : Int)) rfl rfl (by kernel_rfl) (Mur.shl8_64 32 68 (.tmp 28) (.const (.int .u64 8)) rfl (((((((0 * 256 + (E.getD 0 0).toNat) * 256 + (E.getD 1 0).toNat) * 256 + (E.getD 2 0).toNat) * 256 + (E.getD 3 0).toNat) * 256 + (E.getD 4 0).toNat) * 256 + (E.getD 5 0).toNat) * 256 + (E.getD 6 0).toNat) .u64 (by kernel_rfl) (by kernel_rfl) (by omega)) ?_
  refine Wk.rPure 2 (some 30) (.int .u8 (((E.getD 7 0).toNat : Nat) : Int)) rfl rfl (by kernel_rfl) (by kernel_rfl) ?_
  refine Wk.rPure 3 (some 31) (.int .u64 (((E.getD 7 0).toNat : Nat) : Int)) rfl rfl (by kernel_rfl) (Mur.conv_int 5 32 (.tmp 30) rfl (by kernel_rfl) .u64 Tryd.underlying32 .u8 (((E.getD 7 0).toNat : Nat) : Int) (by kernel_rfl) (Mur.u64_nat (by omega))) ?_
  refine Wk.rPure 4 (some 32) (.int .u64 (((((((((0 * 256 + (E.getD 0 0).toNat) * 256 + (E.getD 1 0).toNat) * 256 + (E.getD 2 0).toNat) * 256 + (E.getD 3 0).toNat) * 256 + (E.getD 4 0).toNat) * 256 + (E.getD 5 0).toNat) * 256 + (E.getD 6 0).toNat) * 256 + (E.getD 7 0).toNat : Nat) : Int)) rfl rfl (by kernel_rfl) (Mur.or64 32 32 (.tmp 29) (.tmp 31) rfl (((((((0 * 256 + (E.getD 0 0).toNat) * 256 + (E.getD 1 0).toNat) * 256 + (E.getD 2 0).toNat) * 256 + (E.getD 3 0).toNat) * 256 + (E.getD 4 0).toNat) * 256 + (E.getD 5 0).toNat) * 256 + (E.getD 6 0).toNat) (E.getD 7 0).toNat (by kernel_rfl) (by kernel_rfl) (by omega) (by omega)) ?_
  refine Wk.rPure 5 (some 4) (.int .u64 (((((((((0 * 256 + (E.getD 0 0).toNat) * 256 + (E.getD 1 0).toNat) * 256 + (E.getD 2 0).toNat) * 256 + (E.getD 3 0).toNat) * 256 + (E.getD 4 0).toNat) * 256 + (E.getD 5 0).toNat) * 256 + (E.getD 6 0).toNat) * 256 + (E.getD 7 0).toNat : Nat) : Int)) rfl rfl (by kernel_rfl) (by kernel_rfl) ?_
  refine Wk.rEnd 6 rfl ?_
  refine Wk.inN ?_
  refine Wk.nxt ?_
  refine Wk.reg ?_
  refine Wk.rPure 0 (some 33) (.int .i64 8) rfl rfl (by kernel_rfl) (Wk.int64 (n := 7 + 1) (z := 8) (by omega) (by omega) (by omega) (by kernel_rfl)) ?_
  refine Wk.rPure 1 (some 24) (.int .i64 8) rfl rfl (by kernel_rfl) (by kernel_rfl) ?_
  refine Wk.rEnd 2 rfl ?_
  refine Wk.nxt ?_
  refine Wk.rdS ?_
  refine wp_seq ?_
  refine Wk.reg ?_
  refine Wk.rPure 0 (some 25) (.bool false) rfl rfl (by kernel_rfl) (Wk.boolF (b := decide ((8 : Int) < (8 : Int))) (decide_eq_false (by decide)) (by kernel_rfl)) ?_
  refine Wk.rEnd 1 rfl ?_
  refine Wk.nxt ?_
  refine wp_seq ?_
  refine wp_cond_false (by kernel_rfl) ?_
  refine wp_exit ?_
  refine Wk.thX ?_
  refine Wk.thX ?_
  refine Wk.inX ?_
  refine Wk.nxt ?_
  refine wp_seq ?_
  refine wp_seq ?_
  refine Wk.reg ?_
  refine Wk.rPure 0 (some 34) (.int .u64 ((V : Nat) : Int)) rfl rfl (by kernel_rfl) (Wk.val (v := .int .u64 (((((((((0 * 256 + (E.getD 0 0).toNat) * 256 + (E.getD 1 0).toNat) * 256 + (E.getD 2 0).toNat) * 256 + (E.getD 3 0).toNat) * 256 + (E.getD 4 0).toNat) * 256 + (E.getD 5 0).toNat) * 256 + (E.getD 6 0).toNat) * 256 + (E.getD 7 0).toNat : Nat) : Int)) (congrArg (fun z : Nat => Value.int .u64 (z : Int)) hV) (by kernel_rfl)) ?_
  by_cases hx1 : ((V : Nat) : Int) < (1 : Int)
  · refine Wk.rPure 1 (some 35) (.bool true) rfl rfl (by kernel_rfl) (Wk.boolT (b := decide (((V : Nat) : Int) < (1 : Int))) (decide_eq_true (by first | exact hx1 | omega)) (by kernel_rfl)) ?_
    refine Wk.rPure 2 (some 36) (.bool true) rfl rfl (by kernel_rfl) (by kernel_rfl) ?_
    refine Wk.rPass 3 (some 37) rfl rfl (by kernel_rfl) ?_
    refine Wk.rPass 4 (some 38) rfl rfl (by kernel_rfl) ?_
    refine Wk.rPure 5 (some 39) (.bool true) rfl rfl (by kernel_rfl) (by kernel_rfl) ?_
    refine Wk.rEnd 6 rfl ?_
    refine Wk.nxt ?_
    refine wp_cond_true (by kernel_rfl) ?_
    refine wp_seq ?_
    refine Wk.reg ?_
    refine Wk.rPure 0 (some 40) (.agg ((Mur.attC Mur.z32 Mur.z32 0 Mur.z32).toArray)) rfl rfl (by kernel_rfl) (by kernel_rfl) ?_
    refine Wk.rExS 1 none _ rfl rfl (by kernel_rfl) (Mur.storeArr 36 (.tmp 2) (.tmp 40) rfl w.heap.size (by kernel_rfl) (Mur.attC Mur.z32 Mur.z32 0 Mur.z32).toArray 97 (Mur.attC_size rfl rfl rfl) Mur.attC_all (by kernel_rfl) (by kernel_rfl) 36 ((Mur.attC K R 0 Mur.z32).toArray) hb3 (Mur.attC_size hb0.1 hb32.1 rfl)) ?_
    rintro W6 ⟨hb4, ch6⟩
    have zz6 := ch6.size
    refine Wk.rPure 2 (some 3) (.int .i64 5) rfl rfl (by kernel_rfl) (by kernel_rfl) ?_
    refine Wk.rEnd 3 rfl ?_
    refine Wk.nxt ?_
    refine wp_ret ?_
    refine Wk.thR ?_
    exfalso; omega
  · refine Wk.rPure 1 (some 35) (.bool false) rfl rfl (by kernel_rfl) (Wk.boolF (b := decide (((V : Nat) : Int) < (1 : Int))) (decide_eq_false (by first | exact hx1 | omega)) (by kernel_rfl)) ?_
    refine Wk.rPure 2 (some 36) (.bool false) rfl rfl (by kernel_rfl) (by kernel_rfl) ?_
    refine Wk.rPure 3 (some 37) (.int .u64 ((V : Nat) : Int)) rfl rfl (by kernel_rfl) (Wk.val (v := .int .u64 (((((((((0 * 256 + (E.getD 0 0).toNat) * 256 + (E.getD 1 0).toNat) * 256 + (E.getD 2 0).toNat) * 256 + (E.getD 3 0).toNat) * 256 + (E.getD 4 0).toNat) * 256 + (E.getD 5 0).toNat) * 256 + (E.getD 6 0).toNat) * 256 + (E.getD 7 0).toNat : Nat) : Int)) (congrArg (fun z : Nat => Value.int .u64 (z : Int)) hV) (by kernel_rfl)) ?_
    by_cases hx2 : ((V : Nat) : Int) > (5000 : Int)
    · refine Wk.rPure 4 (some 38) (.bool true) rfl rfl (by kernel_rfl) (Wk.boolT (b := decide (((V : Nat) : Int) > (5000 : Int))) (decide_eq_true (by first | exact hx2 | omega)) (by kernel_rfl)) ?_
      refine Wk.rPure 5 (some 39) (.bool true) rfl rfl (by kernel_rfl) (by kernel_rfl) ?_
      refine Wk.rEnd 6 rfl ?_
      refine Wk.nxt ?_
      refine wp_cond_true (by kernel_rfl) ?_
      refine wp_seq ?_
      refine Wk.reg ?_
      refine Wk.rPure 0 (some 40) (.agg ((Mur.attC Mur.z32 Mur.z32 0 Mur.z32).toArray)) rfl rfl (by kernel_rfl) (by kernel_rfl) ?_
      refine Wk.rExS 1 none _ rfl rfl (by kernel_rfl) (Mur.storeArr 36 (.tmp 2) (.tmp 40) rfl w.heap.size (by kernel_rfl) (Mur.attC Mur.z32 Mur.z32 0 Mur.z32).toArray 97 (Mur.attC_size rfl rfl rfl) Mur.attC_all (by kernel_rfl) (by kernel_rfl) 36 ((Mur.attC K R 0 Mur.z32).toArray) hb3 (Mur.attC_size hb0.1 hb32.1 rfl)) ?_
      rintro W7 ⟨hb5, ch7⟩
      have zz7 := ch7.size
      refine Wk.rPure 2 (some 3) (.int .i64 5) rfl rfl (by kernel_rfl) (by kernel_rfl) ?_
      refine Wk.rEnd 3 rfl ?_
      refine Wk.nxt ?_
      refine wp_ret ?_
      refine Wk.thR ?_
      exfalso; omega
    · refine Wk.rPure 4 (some 38) (.bool false) rfl rfl (by kernel_rfl) (Wk.boolF (b := decide (((V : Nat) : Int) > (5000 : Int))) (decide_eq_false (by first | exact hx2 | omega)) (by kernel_rfl)) ?_
      refine Wk.rPure 5 (some 39) (.bool false) rfl rfl (by kernel_rfl) (by kernel_rfl) ?_
      refine Wk.rEnd 6 rfl ?_
      refine Wk.nxt ?_
      refine wp_cond_false (by kernel_rfl) ?_
      refine wp_skip ?_
      refine Wk.nxt ?_
      refine wp_seq ?_
      refine Wk.reg ?_
      refine Wk.rPure 0 (some 41) (.int .u64 ((V : Nat) : Int)) rfl rfl (by kernel_rfl) (Wk.val (v := .int .u64 (((((((((0 * 256 + (E.getD 0 0).toNat) * 256 + (E.getD 1 0).toNat) * 256 + (E.getD 2 0).toNat) * 256 + (E.getD 3 0).toNat) * 256 + (E.getD 4 0).toNat) * 256 + (E.getD 5 0).toNat) * 256 + (E.getD 6 0).toNat) * 256 + (E.getD 7 0).toNat : Nat) : Int)) (congrArg (fun z : Nat => Value.int .u64 (z : Int)) hV) (by kernel_rfl)) ?_
      refine Wk.rPure 1 (some 42) (.int .i64 ((V : Nat) : Int)) rfl rfl (by kernel_rfl) (Mur.conv_int 32 3 (.tmp 41) rfl (by kernel_rfl) .i64 Tryd.underlying3 .u64 ((V : Nat) : Int) (by kernel_rfl) (Mur.i64_nat (by omega))) ?_
      refine Wk.rPure 2 (some 43) (.pointer (some ⟨w.heap.size, 64, none⟩)) rfl rfl (by kernel_rfl) (by kernel_rfl) ?_
      refine Wk.rExS 3 none _ rfl rfl (by kernel_rfl) (Mur.store_len 3 (.tmp 43) (.tmp 42) rfl (by kernel_rfl) w.heap.size (by kernel_rfl) ((V : Nat) : Int) (by kernel_rfl) 36 K R Mur.z32 0 hb0.1 hb32.1 rfl hb3) ?_
      rintro W8 ⟨hb6, ch8⟩
      have zz8 := ch8.size
      refine Wk.rEnd 4 rfl ?_
      refine Wk.nxt ?_
      refine wp_seq ?_
      refine Wk.dReg ([w.heap.size]) (by kernel_rfl) ?_
      intro W9 ch9 sz4
      have zz9 := ch9.size
      have sS5 : Wk.Chg ([w.heap.size]) W9 W9 := (Wk.Chg.refl _).more (by simp)
      refine Wk.dVal 0 (some 44) (.pointer (some ⟨w.heap.size, 65, none⟩)) rfl rfl (by kernel_rfl) (by kernel_rfl) (by kernel_rfl) (fun _ _ _ h => h) (by kernel_rfl) (fun w' hw' => by kernel_rfl) sS5 ?_
      refine Wk.dVal 1 (some 45) (.slice (some ⟨w.heap.size, 65, none⟩) 32 32) rfl rfl (by kernel_rfl) (by kernel_rfl) (by kernel_rfl) (fun _ _ _ h => h) (by kernel_rfl) (fun w' hw' => (Mur.arr_slice_at 25 5 (.tmp 44) 32 rfl Tryd.underlying25 (by kernel_rfl) w.heap.size 65 (by kernel_rfl))) sS5 ?_
      refine Wk.dVal 2 (some 46) (.slice (some ⟨g, off, none⟩) 104 c) rfl rfl (by kernel_rfl) (by kernel_rfl) (by kernel_rfl) (fun _ _ _ h => h) (by kernel_rfl) (fun w' hw' => by kernel_rfl) sS5 ?_
      refine Wk.dVal 3 (some 47) (.slice (some ⟨g, off + 72, none⟩) 32 (c - 72)) rfl rfl (by kernel_rfl) (by kernel_rfl) (by kernel_rfl) (fun _ _ _ h => h) (by kernel_rfl) (fun w' hw' => (Mur.run_from_at 22 (.tmp 46) (.const (.int .i64 72)) rfl 5 Tryd.underlying22 (by kernel_rfl) g off 104 c 72 32 (by kernel_rfl) (by kernel_rfl) (by omega) (by omega) rfl)) sS5 ?_
      refine Wk.dOp 4 (by kernel_rfl) ?_
      have kk6 := Wk.Chg.step kk5 ch8 ⟨.inr (by omega), trivial⟩
      have kk7 := Wk.Chg.step kk6 ch9 trivial
      refine Wk.oEx (some 48) _ rfl rfl (by kernel_rfl) (Mur.copy_mid (.tmp 45) (.tmp 47) 22 22 rfl 5 Tryd.underlying22 (by kernel_rfl) w.heap.size 65 32 32 (by kernel_rfl) (some ⟨g, off + 72, none⟩) 32 (c - 72) (by kernel_rfl) 36 (Mur.attC K R ((V : Nat) : Int) Mur.z32) T (Wk.Chg.hp ch9 hb6 trivial) (Mur.byt_chg hb72 kk7 (fun g off e hl => trivial)) (by omega) (by omega) (by rw [Mur.attC_length hb0.1 hb32.1 rfl]; omega) _ (Mur.att_sp65 hb0.1 hb32.1 rfl hb72.1)) ?_
      rintro _ W10 ⟨rfl, hb7, ch10⟩
      have zz10 := ch10.size
      have sS6 := Wk.Chg.step sS5 ch10 ⟨.inl (by simp), trivial⟩
      refine ⟨sS6, ?_⟩
      refine Wk.dEnd (by kernel_rfl) ?_
      refine Wk.nxt ?_
      refine wp_seq ?_
      refine Wk.reg ?_
      refine Wk.rPure 0 (some 49) (.agg ((Mur.attC K R ((V : Nat) : Int) T).toArray)) rfl rfl (by kernel_rfl) (Mur.loadArr 36 (.tmp 2) rfl _ Tryd.underlying36 rfl w.heap.size (by kernel_rfl) (Mur.attC K R ((V : Nat) : Int) T).toArray 97 (Mur.attC_size hb0.1 hb32.1 hb72.1) (by kernel_rfl) 36 (0, 0) hb7) ?_
      refine Wk.rExS 1 none _ rfl rfl (by kernel_rfl) (Mur.storeArr 36 (.tmp 2) (.tmp 49) rfl w.heap.size (by kernel_rfl) (Mur.attC K R ((V : Nat) : Int) T).toArray 97 (Mur.attC_size hb0.1 hb32.1 hb72.1) Mur.attC_all (by kernel_rfl) (by kernel_rfl) 36 ((Mur.attC K R ((V : Nat) : Int) T).toArray) hb7 (Mur.attC_size hb0.1 hb32.1 hb72.1)) ?_
      rintro W11 ⟨hb8, ch11⟩
      have zz11 := ch11.size
      refine Wk.rPure 2 (some 3) (.int .i64 0) rfl rfl (by kernel_rfl) (by kernel_rfl) ?_
      refine Wk.rEnd 3 rfl ?_
      refine Wk.nxt ?_
      refine wp_ret ?_
      have kk8 := Wk.Chg.step kk7 ch10 ⟨.inr (by omega), trivial⟩
      have kk9 := Wk.Chg.step kk8 ch11 ⟨.inr (by omega), trivial⟩
      refine Wk.ret (.tuple #[.agg (Mur.attC K R ((V : Nat) : Int) T).toArray, .int .i64 0]) rfl (results_att rfl _ _ w.heap.size (Mur.attC K R ((V : Nat) : Int) T).toArray (0, 0) (.int .i64 0) (by kernel_rfl) hb8 (Mur.attC_size hb0.1 hb32.1 hb72.1) (by kernel_rfl)) ?_
      exact ⟨rfl, kk9⟩
end Go.Proofs.YtljfjjofhclhiaaDoor
