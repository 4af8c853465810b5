/- An attest's bytes; which comes first. -/
import Derived.Test.YtljfjjofhclhiaaDoorAtJ1
namespace Go.Proofs.YtljfjjofhclhiaaDoor
open Go.RowKit
open Mur (b8s Byt Own8 Seg Segs flat cutA attC)
set_option maxRecDepth 100000
set_option maxHeartbeats 4000000
theorem raw_any (k r t : List UInt8) (n : Int) (hk : k.length = 32) (hr : r.length = 32) (ht : t.length = 32) (w : World) : Calls Tryd.prog 37 #[.agg (attC k r n t).toArray] w fun e w' => ∃ q cq B, Hid (B = Mur.rawL k r n t) ∧ e = .returned (.slice (some ⟨q, 0, none⟩) 104 cq) ∧ Byt w' (some ⟨q, 0, none⟩) 104 B ∧ (w.heap.size ≤ q ∧ q < w'.heap.size) ∧ 104 ≤ cq ∧ Wk.Chg [] w w' := by
  refine calls_of_wp Tryd.func37 rfl ?_
  refine wp_seq ?_
  refine Wk.reg ?_
  refine Wk.rEx 0 (some 1) _ rfl rfl (by kernel_rfl) (Wk.new_ex (.pointer (some ⟨w.heap.size, 0, none⟩)) ((Mur.attC k r n t).toArray) 36 (by kernel_rfl)) ?_
  rintro _ W1 ⟨rfl, hb1, ch1, sz1⟩
  have zz1 := ch1.size
  refine Wk.rPure 1 (some 2) (.slice none 0 0) rfl rfl (by kernel_rfl) (by kernel_rfl) ?_
  refine Wk.rEnd 2 rfl ?_
  refine Wk.nxt ?_
  refine wp_seq ?_
  refine Wk.reg ?_
  refine Wk.rPure 0 (some 4) (.pointer (some ⟨w.heap.size, 64, none⟩)) rfl rfl (by kernel_rfl) (by kernel_rfl) ?_
  refine Wk.rPure 1 (some 5) (.int .i64 n) rfl rfl (by kernel_rfl) (Wk.load1 3 (.tmp 4) rfl (by kernel_rfl) ⟨w.heap.size, 64, none⟩ (by kernel_rfl) (.int .i64 n) (Mur.att_len hk hr hb1)) ?_
  refine Wk.rCall 2 (some 6) 43 [.tmp 5] #[3] [.int .i64 n] rfl rfl (by kernel_rfl) rfl (by kernel_rfl) (by kernel_rfl) ?_
  refine (eight_any n W1).mono ?_
  rintro _ W2 ⟨e8_1, hd1, hdl1, rfl, ch2⟩
  have zz2 := ch2.size
  refine ⟨_, rfl, ?_⟩
  refine Wk.rEx 3 (some 3) _ rfl rfl (by kernel_rfl) (Wk.new_ex (.pointer (some ⟨W2.heap.size, 0, none⟩)) #[.int .u8 0, .int .u8 0, .int .u8 0, .int .u8 0, .int .u8 0, .int .u8 0, .int .u8 0, .int .u8 0] 75 (by kernel_rfl)) ?_
  rintro _ W3 ⟨rfl, hb2, ch3, sz2⟩
  have zz3 := ch3.size
  refine Wk.rExS 4 none _ rfl rfl (by kernel_rfl) (Mur.storeAll 75 (.tmp 3) (.tmp 6) rfl W2.heap.size (by kernel_rfl) e8_1 8 hdl1 (by kernel_rfl) (by kernel_rfl) 75 #[.int .u8 0, .int .u8 0, .int .u8 0, .int .u8 0, .int .u8 0, .int .u8 0, .int .u8 0, .int .u8 0] hb2 rfl) ?_
  rintro W4 ⟨hb3, ch4⟩
  have zz4 := ch4.size
  refine Wk.rEnd 5 rfl ?_
  refine Wk.nxt ?_
  refine wp_seq ?_
  refine Wk.dReg ([]) (by kernel_rfl) ?_
  intro W5 ch5 sz3
  have zz5 := ch5.size
  have sS1 : Wk.Chg ([]) W5 W5 := (Wk.Chg.refl _).more (by simp)
  refine Wk.dVal 0 (some 7) (.pointer (some ⟨w.heap.size, 0, none⟩)) rfl rfl (by kernel_rfl) (by kernel_rfl) (by kernel_rfl) (fun _ _ _ h => h) (by kernel_rfl) (fun w' hw' => by kernel_rfl) sS1 ?_
  refine Wk.dVal 1 (some 8) (.slice (some ⟨w.heap.size, 0, none⟩) 32 32) rfl rfl (by kernel_rfl) (by kernel_rfl) (by kernel_rfl) (fun _ _ _ h => h) (by kernel_rfl) (fun w' hw' => (Mur.arr_slice 25 5 (.tmp 7) 32 rfl Tryd.underlying25 (by kernel_rfl) w.heap.size (by kernel_rfl))) sS1 ?_
  refine Wk.dVal 2 (some 9) (.pointer (some ⟨w.heap.size, 32, none⟩)) rfl rfl (by kernel_rfl) (by kernel_rfl) (by kernel_rfl) (fun _ _ _ h => h) (by kernel_rfl) (fun w' hw' => by kernel_rfl) sS1 ?_
  refine Wk.dVal 3 (some 10) (.slice (some ⟨w.heap.size, 32, none⟩) 32 32) rfl rfl (by kernel_rfl) (by kernel_rfl) (by kernel_rfl) (fun _ _ _ h => h) (by kernel_rfl) (fun w' hw' => (Mur.arr_slice_at 25 5 (.tmp 9) 32 rfl Tryd.underlying25 (by kernel_rfl) w.heap.size 32 (by kernel_rfl))) sS1 ?_
  refine Wk.dVal 4 (some 11) (.slice (some ⟨W2.heap.size, 0, none⟩) 8 8) rfl rfl (by kernel_rfl) (by kernel_rfl) (by kernel_rfl) (fun _ _ _ h => h) (by kernel_rfl) (fun w' hw' => (Mur.arr_slice 75 5 (.tmp 3) 8 rfl Tryd.underlying75 (by kernel_rfl) W2.heap.size (by kernel_rfl))) sS1 ?_
  refine Wk.dVal 5 (some 12) (.pointer (some ⟨w.heap.size, 65, none⟩)) rfl rfl (by kernel_rfl) (by kernel_rfl) (by kernel_rfl) (fun _ _ _ h => h) (by kernel_rfl) (fun w' hw' => by kernel_rfl) sS1 ?_
  refine Wk.dVal 6 (some 13) (.slice (some ⟨w.heap.size, 65, none⟩) 32 32) rfl rfl (by kernel_rfl) (by kernel_rfl) (by kernel_rfl) (fun _ _ _ h => h) (by kernel_rfl) (fun w' hw' => (Mur.arr_slice_at 25 5 (.tmp 12) 32 rfl Tryd.underlying25 (by kernel_rfl) w.heap.size 65 (by kernel_rfl))) sS1 ?_
  refine Wk.dOp 7 (by kernel_rfl) ?_
  refine Wk.oEx (some 14) _ rfl rfl (by kernel_rfl) (Wk.new_ex (.slice (some ⟨W5.heap.size, 0, none⟩) 4 4) #[.slice (some ⟨w.heap.size, 0, none⟩) 32 32, .slice (some ⟨w.heap.size, 32, none⟩) 32 32, .slice (some ⟨W2.heap.size, 0, none⟩) 8 8, .slice (some ⟨w.heap.size, 65, none⟩) 32 32] 22 (by kernel_rfl)) ?_
  rintro _ W6 ⟨rfl, hb4, ch6, sz4⟩
  have zz6 := ch6.size
  have sS2 := Wk.Chg.step sS1 ch6 trivial
  refine ⟨sS2, ?_⟩
  refine Wk.dOp 8 (by kernel_rfl) ?_
  refine Wk.oCall (some 15) 45 [.tmp 14, .const (.slice none 0 0)] #[29, 22] [.slice (some ⟨W5.heap.size, 0, none⟩) 4 4, .slice none 0 0] rfl rfl (by kernel_rfl) rfl (by kernel_rfl) (by kernel_rfl) ?_
  refine (Join4_any W5.heap.size 22 (0, 0) (some ⟨w.heap.size, 0, none⟩) (some ⟨w.heap.size, 32, none⟩) (some ⟨W2.heap.size, 0, none⟩) (some ⟨w.heap.size, 65, none⟩) 32 32 8 32 k r e8_1 t W6 hb4 (Mur.byt_rng (Mur.att_key (Wk.Chg.hp ch6 (Wk.Chg.hp ch5 (Wk.Chg.hp ch4 (Wk.Chg.hp ch3 (Wk.Chg.hp ch2 hb1 trivial) trivial) ⟨by omega, trivial⟩) trivial) trivial)) hk) (Mur.byt_rng (Mur.att_root hk (Wk.Chg.hp ch6 (Wk.Chg.hp ch5 (Wk.Chg.hp ch4 (Wk.Chg.hp ch3 (Wk.Chg.hp ch2 hb1 trivial) trivial) ⟨by omega, trivial⟩) trivial) trivial)) hr) (Mur.byt_blk e8_1 hdl1 (Wk.Chg.hp ch6 (Wk.Chg.hp ch5 hb3 trivial) trivial)) (Mur.byt_rng (Mur.att_tag hk hr (Wk.Chg.hp ch6 (Wk.Chg.hp ch5 (Wk.Chg.hp ch4 (Wk.Chg.hp ch3 (Wk.Chg.hp ch2 hb1 trivial) trivial) ⟨by omega, trivial⟩) trivial) trivial)) ht)).mono ?_
  rintro _ W7 ⟨qj1, rfl, hbj1, hq1, ch7⟩
  have zz7 := ch7.size
  have hBt1 : ∀ g off, (some ⟨qj1, 0, none⟩ : Option Addr) = some ⟨g, off, none⟩ → W6.heap.size ≤ g ∧ g < W7.heap.size := fun g off e => by cases e; exact hq1
  have sS3 := Wk.Chg.step sS2 ch7 trivial
  refine ⟨_, rfl, sS3, ?_⟩
  refine Wk.dVal 9 (some 2) (.slice (some ⟨qj1, 0, none⟩) 104 104) rfl rfl (by kernel_rfl) (by kernel_rfl) (by kernel_rfl) (fun _ _ _ h => h) (by kernel_rfl) (fun w' hw' => by kernel_rfl) sS3 ?_
  refine Wk.dEnd (by kernel_rfl) ?_
  refine Wk.nxt ?_
  refine wp_ret ?_
  have kk1 : Wk.Chg [] w W1 := Wk.Chg.step ((Wk.Chg.refl _).more (by simp)) ch1 trivial
  have kk2 := Wk.Chg.step kk1 ch2 trivial
  have kk3 := Wk.Chg.step kk2 ch3 trivial
  have kk4 := Wk.Chg.step kk3 ch4 ⟨.inr (by omega), trivial⟩
  have kk5 := Wk.Chg.step kk4 ch5 trivial
  have kk6 := Wk.Chg.step kk5 ch6 trivial
  have kk7 := Wk.Chg.step kk6 ch7 trivial
  refine Wk.ret (.slice (some ⟨qj1, 0, none⟩) 104 104) rfl (by kernel_rfl) ?_
  exact ⟨_, _, _, Go.Lib.hid (by rw [hd1.out]; rfl), rfl, hbj1, ⟨by omega, by omega⟩, by omega, kk7⟩
theorem Rbytes_any (k r t : List UInt8) (n : Int) (hk : k.length = 32) (hr : r.length = 32) (ht : t.length = 32) (w : World) : Calls Tryd.prog 25 #[.agg (attC k r n t).toArray] w fun e w' => ∃ q cq B, Hid (B = Mur.rawL k r n t) ∧ e = .returned (.slice (some ⟨q, 0, none⟩) 104 cq) ∧ Byt w' (some ⟨q, 0, none⟩) 104 B ∧ (w.heap.size ≤ q ∧ q < w'.heap.size) ∧ 104 ≤ cq ∧ Wk.Chg [] w w' := by
  refine calls_of_wp Tryd.func25 rfl ?_
  refine wp_seq ?_
  refine Wk.reg ?_
  refine Wk.rEx 0 (some 1) _ rfl rfl (by kernel_rfl) (Wk.new_ex (.pointer (some ⟨w.heap.size, 0, none⟩)) ((Mur.attC k r n t).toArray) 36 (by kernel_rfl)) ?_
  rintro _ W1 ⟨rfl, hb1, ch1, sz1⟩
  have zz1 := ch1.size
  refine Wk.rPure 1 (some 2) (.slice none 0 0) rfl rfl (by kernel_rfl) (by kernel_rfl) ?_
  refine Wk.rEnd 2 rfl ?_
  refine Wk.nxt ?_
  refine wp_seq ?_
  refine Wk.reg ?_
  refine Wk.rPure 0 (some 3) (.slice none 0 0) rfl rfl (by kernel_rfl) (by kernel_rfl) ?_
  refine Wk.rEnd 1 rfl ?_
  refine Wk.nxt ?_
  refine wp_seq ?_
  refine Wk.reg ?_
  refine Wk.rPure 0 (some 4) (.slice none 0 0) rfl rfl (by kernel_rfl) (by kernel_rfl) ?_
  refine Wk.rPure 1 (some 5) (.pointer (some ⟨w.heap.size, 0, none⟩)) rfl rfl (by kernel_rfl) (by kernel_rfl) ?_
  refine Wk.rPure 2 (some 6) (.slice (some ⟨w.heap.size, 0, none⟩) 32 32) rfl rfl (by kernel_rfl) (Mur.arr_slice 25 5 (.tmp 5) 32 rfl Tryd.underlying25 (by kernel_rfl) w.heap.size (by kernel_rfl)) ?_
  have ow1 := Mur.own8_nil W1 W1.heap.size 5
  refine Wk.rEx 3 (some 7) _ rfl rfl (by kernel_rfl) (Mur.append8 (.tmp 4) (.tmp 6) 22 5 rfl Tryd.underlying22 (by kernel_rfl) W1.heap.size none 0 0 ([]) (some ⟨w.heap.size, 0, none⟩) 32 32 k (by kernel_rfl) (by kernel_rfl) ow1.own (Mur.byt_rng (Mur.att_key hb1) hk) (fun h => by cases h) (by omega) (by omega) 32 (by omega) k rfl) ?_
  rintro _ W2 ⟨AA1, nn1, rfl, ow2, ch2, ha1⟩
  have zz2 := ch2.size
  have hq1 := ow2.nc
  have hq2 := ow2.cm
  refine Wk.rPure 4 (some 3) (.slice AA1 32 nn1) rfl rfl (by kernel_rfl) (by kernel_rfl) ?_
  refine Wk.rEnd 5 rfl ?_
  refine Wk.nxt ?_
  refine wp_seq ?_
  refine Wk.reg ?_
  refine Wk.rPure 0 (some 8) (.slice AA1 32 nn1) rfl rfl (by kernel_rfl) (by kernel_rfl) ?_
  refine Wk.rPure 1 (some 9) (.pointer (some ⟨w.heap.size, 32, none⟩)) rfl rfl (by kernel_rfl) (by kernel_rfl) ?_
  refine Wk.rPure 2 (some 10) (.slice (some ⟨w.heap.size, 32, none⟩) 32 32) rfl rfl (by kernel_rfl) (Mur.arr_slice_at 25 5 (.tmp 9) 32 rfl Tryd.underlying25 (by kernel_rfl) w.heap.size 32 (by kernel_rfl)) ?_
  refine Wk.rEx 3 (some 11) _ rfl rfl (by kernel_rfl) (Mur.append8 (.tmp 8) (.tmp 10) 22 5 rfl Tryd.underlying22 (by kernel_rfl) W1.heap.size AA1 32 nn1 k (some ⟨w.heap.size, 32, none⟩) 32 32 r (by kernel_rfl) (by kernel_rfl) ow2.own (Mur.byt_rng (Mur.att_root hk (Wk.Chg.hp ch2 hb1 (Wk.off_blk (fun gz hgz => by have := ow1.lt gz hgz; omega)))) hr) (fun h => by cases h) (by omega) (by omega) 64 (by omega) (k ++ r) rfl) ?_
  rintro _ W3 ⟨AA2, nn2, rfl, ow3, ch3, ha2⟩
  have zz3 := ch3.size
  have hq3 := ow3.nc
  have hq4 := ow3.cm
  refine Wk.rPure 4 (some 3) (.slice AA2 64 nn2) rfl rfl (by kernel_rfl) (by kernel_rfl) ?_
  refine Wk.rEnd 5 rfl ?_
  refine Wk.nxt ?_
  refine wp_seq ?_
  refine Wk.reg ?_
  refine Wk.rPure 0 (some 12) (.slice AA2 64 nn2) rfl rfl (by kernel_rfl) (by kernel_rfl) ?_
  refine Wk.rPure 1 (some 13) (.pointer (some ⟨w.heap.size, 64, none⟩)) rfl rfl (by kernel_rfl) (by kernel_rfl) ?_
  refine Wk.rPure 2 (some 14) (.int .i64 n) rfl rfl (by kernel_rfl) (Wk.load1 3 (.tmp 13) rfl (by kernel_rfl) ⟨w.heap.size, 64, none⟩ (by kernel_rfl) (.int .i64 n) (Mur.att_len hk hr (Wk.Chg.hp ch3 (Wk.Chg.hp ch2 hb1 (Wk.off_blk (fun gz hgz => by have := ow1.lt gz hgz; omega))) (Wk.off_blk (fun gz hgz => by have := ow2.lt gz hgz; omega))))) ?_
  refine Wk.rCall 3 (some 15) 35 [.tmp 14] #[3] [.int .i64 n] rfl rfl (by kernel_rfl) rfl (by kernel_rfl) (by kernel_rfl) ?_
  refine (Reight_any n W3).mono ?_
  rintro _ W4 ⟨qe1, EE1, hE1, rfl, hbe1, hq5, ch4⟩
  have zz4 := ch4.size
  have hBt1 : ∀ g off, (some ⟨qe1, 0, none⟩ : Option Addr) = some ⟨g, off, none⟩ → W3.heap.size ≤ g ∧ g < W4.heap.size := fun g off e => by cases e; exact hq5
  refine ⟨_, rfl, ?_⟩
  have ow4 := Mur.own8 (Wk.own_chg ow3.own ch4 (fun q e _ _ => trivial))
  refine Wk.rEx 4 (some 16) _ rfl rfl (by kernel_rfl) (Mur.append8 (.tmp 12) (.tmp 15) 22 5 rfl Tryd.underlying22 (by kernel_rfl) W1.heap.size AA2 64 nn2 (k ++ r) (some ⟨qe1, 0, none⟩) 8 8 EE1 (by kernel_rfl) (by kernel_rfl) ow4.own hbe1 (fun h => by cases h) (by omega) (by omega) 72 (by omega) ((k ++ r) ++ EE1) rfl) ?_
  rintro _ W5 ⟨AA3, nn3, rfl, ow5, ch5, ha3⟩
  have zz5 := ch5.size
  have hq6 := ow5.nc
  have hq7 := ow5.cm
  refine Wk.rPure 5 (some 3) (.slice AA3 72 nn3) rfl rfl (by kernel_rfl) (by kernel_rfl) ?_
  refine Wk.rEnd 6 rfl ?_
  refine Wk.nxt ?_
  refine wp_seq ?_
  refine Wk.reg ?_
  refine Wk.rPure 0 (some 17) (.slice AA3 72 nn3) rfl rfl (by kernel_rfl) (by kernel_rfl) ?_
  refine Wk.rPure 1 (some 18) (.pointer (some ⟨w.heap.size, 65, none⟩)) rfl rfl (by kernel_rfl) (by kernel_rfl) ?_
  refine Wk.rPure 2 (some 19) (.slice (some ⟨w.heap.size, 65, none⟩) 32 32) rfl rfl (by kernel_rfl) (Mur.arr_slice_at 25 5 (.tmp 18) 32 rfl Tryd.underlying25 (by kernel_rfl) w.heap.size 65 (by kernel_rfl)) ?_
  refine Wk.rEx 3 (some 20) _ rfl rfl (by kernel_rfl) (Mur.append8 (.tmp 17) (.tmp 19) 22 5 rfl Tryd.underlying22 (by kernel_rfl) W1.heap.size AA3 72 nn3 ((k ++ r) ++ EE1) (some ⟨w.heap.size, 65, none⟩) 32 32 t (by kernel_rfl) (by kernel_rfl) ow5.own (Mur.byt_rng (Mur.att_tag hk hr (Wk.Chg.hp ch5 (Wk.Chg.hp ch4 (Wk.Chg.hp ch3 (Wk.Chg.hp ch2 hb1 (Wk.off_blk (fun gz hgz => by have := ow1.lt gz hgz; omega))) (Wk.off_blk (fun gz hgz => by have := ow2.lt gz hgz; omega))) trivial) (Wk.off_blk (fun gz hgz => by have := ow3.lt gz hgz; omega)))) ht) (fun h => by cases h) (by omega) (by omega) 104 (by omega) (((k ++ r) ++ EE1) ++ t) rfl) ?_
  rintro _ W6 ⟨AA4, nn4, rfl, ow6, ch6, ha4⟩
  have zz6 := ch6.size
  have hq8 := ow6.nc
  have hq9 := ow6.cm
  refine Wk.rPure 4 (some 2) (.slice AA4 104 nn4) rfl rfl (by kernel_rfl) (by kernel_rfl) ?_
  refine Wk.rEnd 5 rfl ?_
  refine Wk.nxt ?_
  refine wp_ret ?_
  obtain ⟨q, hq_, hqb, hql⟩ : ∃ g, AA4 = some ⟨g, 0, none⟩ ∧ W1.heap.size ≤ g ∧ g < W6.heap.size := Mur.Own8.some ow6 (by omega)
  subst hq_
  have kk1 : Wk.Chg [] w W1 := Wk.Chg.step ((Wk.Chg.refl _).more (by simp)) ch1 trivial
  have kk2 := Wk.Chg.step kk1 ch2 (Wk.newOr_blk (fun g hg => by have := ow1.lt g hg; omega))
  have kk3 := Wk.Chg.step kk2 ch3 (Wk.newOr_blk (fun g hg => by have := ow2.lt g hg; omega))
  have kk4 := Wk.Chg.step kk3 ch4 trivial
  have kk5 := Wk.Chg.step kk4 ch5 (Wk.newOr_blk (fun g hg => by have := ow3.lt g hg; omega))
  have kk6 := Wk.Chg.step kk5 ch6 (Wk.newOr_blk (fun g hg => by have := ow5.lt g hg; omega))
  refine Wk.ret (.slice (some ⟨q, 0, none⟩) 104 nn4) rfl (by kernel_rfl) ?_
  exact ⟨q, nn4, _, Go.Lib.hid (by rw [hE1.out]; simp only [Mur.rawL, List.append_assoc]), rfl, ow6.byt, ⟨by omega, by omega⟩, by omega, kk6⟩
theorem Compare_any (A : Option Addr) (n c : Nat) (l : List UInt8) (B : Option Addr) (m d : Nat) (r : List UInt8) (w : World) (hy1 : Byt w A n l) (hy2 : Byt w B m r) : Calls Tryd.prog 36 #[.slice A n c, .slice B m d] w fun e w' => e = .returned (.int .i64 (Go.Lib.compareBytes l r)) ∧ w = w' := by
  refine calls_of_wp Tryd.func36 rfl ?_
  refine wp_seq ?_
  refine Wk.reg ?_
  refine Wk.rPure 0 (some 4) (.int .i64 0) rfl rfl (by kernel_rfl) (by kernel_rfl) ?_
  refine Wk.rEnd 1 rfl ?_
  refine Wk.nxt ?_
  refine wp_seq ?_
  refine Wk.reg ?_
  refine Wk.rPure 0 (some 5) (.slice A n c) rfl rfl (by kernel_rfl) (by kernel_rfl) ?_
  refine Wk.rPure 1 (some 6) (.slice B m d) rfl rfl (by kernel_rfl) (by kernel_rfl) ?_
  refine Wk.rPure 2 (some 7) (.int .i64 (Go.Lib.compareBytes l r)) rfl rfl (by kernel_rfl) (Mur.run_cmp Tryd.func44 (by kernel_rfl) (by kernel_rfl) (by kernel_rfl) (by kernel_rfl) (.tmp 5) (.tmp 6) _ rfl A n c l B m d r (by kernel_rfl) (by kernel_rfl) hy1 hy2) ?_
  refine Wk.rPure 3 (some 4) (.int .i64 (Go.Lib.compareBytes l r)) rfl rfl (by kernel_rfl) (by kernel_rfl) ?_
  refine Wk.rEnd 4 rfl ?_
  refine Wk.nxt ?_
  refine wp_ret ?_
  refine Wk.ret (.int .i64 (Go.Lib.compareBytes l r)) rfl (by kernel_rfl) ?_
  exact ⟨rfl, rfl⟩
theorem Less_any (k1 r1 t1 : List UInt8) (n1 : Int) (hk1 : k1.length = 32) (hr1 : r1.length = 32) (ht1 : t1.length = 32) (k2 r2 t2 : List UInt8) (n2 : Int) (hk2 : k2.length = 32) (hr2 : r2.length = 32) (ht2 : t2.length = 32) (w : World) : Calls Tryd.prog 23 #[.agg (attC k1 r1 n1 t1).toArray, .agg (attC k2 r2 n2 t2).toArray] w fun e w' => e = .returned (.bool (decide (Go.Lib.compareBytes (Mur.rawL k1 r1 n1 t1) (Mur.rawL k2 r2 n2 t2) < 0))) ∧ Wk.Chg [] w w' := by
  refine calls_of_wp Tryd.func23 rfl ?_
  refine wp_seq ?_
  refine Wk.reg ?_
  refine Wk.rEx 0 (some 2) _ rfl rfl (by kernel_rfl) (Wk.new_ex (.pointer (some ⟨w.heap.size, 0, none⟩)) ((Mur.attC k1 r1 n1 t1).toArray) 36 (by kernel_rfl)) ?_
  rintro _ W1 ⟨rfl, hb1, ch1, sz1⟩
  have zz1 := ch1.size
  refine Wk.rEx 1 (some 3) _ rfl rfl (by kernel_rfl) (Wk.new_ex (.pointer (some ⟨W1.heap.size, 0, none⟩)) ((Mur.attC k2 r2 n2 t2).toArray) 36 (by kernel_rfl)) ?_
  rintro _ W2 ⟨rfl, hb2, ch2, sz2⟩
  have zz2 := ch2.size
  refine Wk.rPure 2 (some 4) (.bool false) rfl rfl (by kernel_rfl) (by kernel_rfl) ?_
  refine Wk.rEnd 3 rfl ?_
  refine Wk.nxt ?_
  refine wp_seq ?_
  refine Wk.dReg ([]) (by kernel_rfl) ?_
  intro W3 ch3 sz3
  have zz3 := ch3.size
  have sS1 : Wk.Chg ([]) W3 W3 := (Wk.Chg.refl _).more (by simp)
  refine Wk.dVal 0 (some 5) (.agg ((Mur.attC k1 r1 n1 t1).toArray)) rfl rfl (by kernel_rfl) (by kernel_rfl) (by kernel_rfl) (fun _ _ _ h => h) (by kernel_rfl) (fun w' hw' => (Mur.loadArr 36 (.tmp 2) rfl _ Tryd.underlying36 rfl w.heap.size (by kernel_rfl) (Mur.attC k1 r1 n1 t1).toArray 97 (Mur.attC_size hk1 hr1 ht1) (by kernel_rfl) 36 (0, 0) (Wk.Chg.hp hw' (Wk.Chg.hp ch3 (Wk.Chg.hp ch2 hb1 trivial) trivial) trivial))) sS1 ?_
  refine Wk.dVal 2 (some 7) (.agg ((Mur.attC k2 r2 n2 t2).toArray)) rfl rfl (by kernel_rfl) (by kernel_rfl) (by kernel_rfl) (fun _ _ _ h => h) (by kernel_rfl) (fun w' hw' => (Mur.loadArr 36 (.tmp 3) rfl _ Tryd.underlying36 rfl W1.heap.size (by kernel_rfl) (Mur.attC k2 r2 n2 t2).toArray 97 (Mur.attC_size hk2 hr2 ht2) (by kernel_rfl) 36 (0, 0) (Wk.Chg.hp hw' (Wk.Chg.hp ch3 hb2 trivial) trivial))) sS1 ?_
  refine Wk.dOp 1 (by kernel_rfl) ?_
  refine Wk.oCall (some 6) 37 [.tmp 5] #[36] [.agg ((Mur.attC k1 r1 n1 t1).toArray)] rfl rfl (by kernel_rfl) rfl (by kernel_rfl) (by kernel_rfl) ?_
  refine (raw_any k1 r1 t1 n1 hk1 hr1 ht1 W3).mono ?_
  rintro _ W4 ⟨qr1, cr1, RB1, hRB1, rfl, hbr1, hq1, hq2, ch4⟩
  have zz4 := ch4.size
  have hBt1 : ∀ g off, (some ⟨qr1, 0, none⟩ : Option Addr) = some ⟨g, off, none⟩ → W3.heap.size ≤ g ∧ g < W4.heap.size := fun g off e => by cases e; exact hq1
  have sS2 := Wk.Chg.step sS1 ch4 trivial
  refine ⟨_, rfl, sS2, ?_⟩
  refine Wk.dOp 3 (by kernel_rfl) ?_
  refine Wk.oCall (some 8) 37 [.tmp 7] #[36] [.agg ((Mur.attC k2 r2 n2 t2).toArray)] rfl rfl (by kernel_rfl) rfl (by kernel_rfl) (by kernel_rfl) ?_
  refine (raw_any k2 r2 t2 n2 hk2 hr2 ht2 W4).mono ?_
  rintro _ W5 ⟨qr2, cr2, RB2, hRB2, rfl, hbr2, hq3, hq4, ch5⟩
  have zz5 := ch5.size
  have hBt2 : ∀ g off, (some ⟨qr2, 0, none⟩ : Option Addr) = some ⟨g, off, none⟩ → W4.heap.size ≤ g ∧ g < W5.heap.size := fun g off e => by cases e; exact hq3
  have sS3 := Wk.Chg.step sS2 ch5 trivial
  refine ⟨_, rfl, sS3, ?_⟩
  refine Wk.dOp 4 (by kernel_rfl) ?_
  refine Wk.oCall (some 9) 36 [.tmp 6, .tmp 8] #[22, 22] [.slice (some ⟨qr1, 0, none⟩) 104 cr1, .slice (some ⟨qr2, 0, none⟩) 104 cr2] rfl rfl (by kernel_rfl) rfl (by kernel_rfl) (by kernel_rfl) ?_
  refine (Compare_any (some ⟨qr1, 0, none⟩) 104 cr1 RB1 (some ⟨qr2, 0, none⟩) 104 cr2 RB2 W5 (Mur.byt_chg hbr1 ch5 (fun g off e hl => trivial)) hbr2).mono ?_
  rintro _ _ ⟨rfl, rfl⟩
  refine ⟨_, rfl, sS3, ?_⟩
  by_cases hx1 : (Go.Lib.compareBytes RB1 RB2) < (0 : Int)
  · refine Wk.dVal 5 (some 10) (.bool true) rfl rfl (by kernel_rfl) (by kernel_rfl) (by kernel_rfl) (fun _ _ _ h => h) (by kernel_rfl) (fun w' hw' => (Wk.boolT (b := decide ((Go.Lib.compareBytes RB1 RB2) < (0 : Int))) (decide_eq_true (by first | exact hx1 | omega)) (by kernel_rfl))) sS3 ?_
    refine Wk.dVal 6 (some 4) (.bool true) rfl rfl (by kernel_rfl) (by kernel_rfl) (by kernel_rfl) (fun _ _ _ h => h) (by kernel_rfl) (fun w' hw' => by kernel_rfl) sS3 ?_
    refine Wk.dEnd (by kernel_rfl) ?_
    refine Wk.nxt ?_
    refine wp_ret ?_
    have kk1 : Wk.Chg [] w W1 := Wk.Chg.step ((Wk.Chg.refl _).more (by simp)) ch1 trivial
    have kk2 := Wk.Chg.step kk1 ch2 trivial
    have kk3 := Wk.Chg.step kk2 ch3 trivial
    have kk4 := Wk.Chg.step kk3 ch4 trivial
    have kk5 := Wk.Chg.step kk4 ch5 trivial
    refine Wk.ret (.bool true) rfl (by kernel_rfl) ?_
    exact ⟨by rw [← hRB1.out, ← hRB2.out, decide_eq_true (by assumption)], kk5⟩
  · refine Wk.dVal 5 (some 10) (.bool false) rfl rfl (by kernel_rfl) (by kernel_rfl) (by kernel_rfl) (fun _ _ _ h => h) (by kernel_rfl) (fun w' hw' => (Wk.boolF (b := decide ((Go.Lib.compareBytes RB1 RB2) < (0 : Int))) (decide_eq_false (by first | exact hx1 | omega)) (by kernel_rfl))) sS3 ?_
    refine Wk.dVal 6 (some 4) (.bool false) rfl rfl (by kernel_rfl) (by kernel_rfl) (by kernel_rfl) (fun _ _ _ h => h) (by kernel_rfl) (fun w' hw' => by kernel_rfl) sS3 ?_
    refine Wk.dEnd (by kernel_rfl) ?_
    refine Wk.nxt ?_
    refine wp_ret ?_
    have kk6 : Wk.Chg [] w W1 := Wk.Chg.step ((Wk.Chg.refl _).more (by simp)) ch1 trivial
    have kk7 := Wk.Chg.step kk6 ch2 trivial
    have kk8 := Wk.Chg.step kk7 ch3 trivial
    have kk9 := Wk.Chg.step kk8 ch4 trivial
    have kk10 := Wk.Chg.step kk9 ch5 trivial
    refine Wk.ret (.bool false) rfl (by kernel_rfl) ?_
    exact ⟨by rw [← hRB1.out, ← hRB2.out, decide_eq_false (by assumption)], kk10⟩
end Go.Proofs.YtljfjjofhclhiaaDoor
