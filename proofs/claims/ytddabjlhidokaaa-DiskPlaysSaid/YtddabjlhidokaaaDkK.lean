/- What is known of the disk. -/
import Derived.Test.YtddabjlhidokaaaDkD
import Derived.Test.YtddabjlhidokaaaWkS
namespace Go.Proofs.Ytddabjlhidokaaa
open Go.RowKit
open Mur (Fil Dk Dsk DskF Byt b8s foot hasF fE)
set_option maxRecDepth 100000
set_option maxHeartbeats 4000000
theorem known_any (w : World) : Calls Try.prog 9 #[] w fun e w' => e = .returned (.bool true) ∧ Below w.heap.size w w' := by
  refine calls_of_wp Try.func9 rfl ?_
  refine wp_seq ?_
  refine Wk.reg ?_
  refine Wk.rPure 0 (some 0) (.bool false) rfl rfl (by kernel_rfl) (by kernel_rfl) ?_
  refine Wk.rEnd 1 rfl ?_
  refine Wk.nxt ?_
  refine wp_seq ?_
  refine Wk.reg ?_
  refine Wk.rCall 0 (some 2) 8 [] #[] [] rfl rfl (by kernel_rfl) rfl (by kernel_rfl) (by kernel_rfl) ?_
  refine (New_any w).mono ?_
  rintro _ W1 ⟨FF1, rfl, hD1, ch1⟩
  have hM1 := Mur.DskF.mem hD1
  have zz1 : w.heap.size < W1.heap.size := Mur.DskF.lt hD1
  have zz2 := ch1.size
  refine ⟨_, rfl, ?_⟩
  refine Wk.rPure 1 (some 1) (.pointer (some ⟨w.heap.size, 0, none⟩)) rfl rfl (by kernel_rfl) (by kernel_rfl) ?_
  refine Wk.rEnd 2 rfl ?_
  refine Wk.nxt ?_
  refine wp_seq ?_
  refine wp_seq ?_
  refine Wk.reg ?_
  refine Wk.rPure 0 (some 3) (.pointer (some ⟨w.heap.size, 0, none⟩)) rfl rfl (by kernel_rfl) (by kernel_rfl) ?_
  refine Wk.rPure 1 (some 4) (.bool false) rfl rfl (by kernel_rfl) (by kernel_rfl) ?_
  refine Wk.rPure 2 (some 5) (.bool false) rfl rfl (by kernel_rfl) (by kernel_rfl) ?_
  refine Wk.rPure 3 (some 6) (.pointer (some ⟨w.heap.size, 0, none⟩)) rfl rfl (by kernel_rfl) (by kernel_rfl) ?_
  refine Wk.rEx 4 (some 7) _ rfl rfl (by kernel_rfl) (Wk.new_ex (.slice (some ⟨W1.heap.size, 0, none⟩) 3 3) #[.int .u8 97, .int .u8 98, .int .u8 99] 5 (by kernel_rfl)) ?_
  rintro _ W2 ⟨rfl, hb1, ch2, sz1⟩
  have zz3 := ch2.size
  refine Wk.rEx 5 (some 8) _ rfl rfl (by kernel_rfl) (Mur.run_mark 26 (.tmp 7) 5 rfl Try.underlying26 Try.underlying5 W1.heap.size 3 3 #[.int .u8 97, .int .u8 98, .int .u8 99] (by kernel_rfl) hb1) ?_
  rintro _ W3 ⟨rfl, hb2, ch3⟩
  have zz4 := ch3.size
  refine Wk.rCall 6 (some 9) 10 [.tmp 6, .const (.int .i64 0), .tmp 8] #[23, 3, 26] [.pointer (some ⟨w.heap.size, 0, none⟩), .int .i64 0, .slice (some ⟨W1.heap.size, 0, none⟩) 3 3] rfl rfl (by kernel_rfl) rfl (by kernel_rfl) (by kernel_rfl) ?_
  have hD2 := Mur.DskF.chg hD1 ch2 (fun s hs hl => trivial)
  have hD3 := Mur.DskF.chg hD2 ch3 (fun s hs hl => ⟨by have := hM1 s hs; omega, trivial⟩)
  refine (Append_any w.heap.size Mur.Dk.new FF1 0 (some ⟨W1.heap.size, 0, none⟩) 3 3 ([97, 98, 99]) W3 hD3 (Mur.byt_row [97, 98, 99] hb2) (fun h => by cases h)).mono ?_
  rw [show Mur.Dk.appE Mur.Dk.new 0 3 = 0 from by decide]
  rw [show Mur.Dk.app Mur.Dk.new 0 [97, 98, 99] = (⟨⟨[97, 98, 99], 0⟩, ⟨[], 0⟩⟩ : Dk) from rfl]
  rintro _ W4 ⟨FF2, rfl, hD4, ch4, no1⟩
  have hM2 := Mur.DskF.mem hD4
  have zz5 := ch4.size
  refine ⟨_, rfl, ?_⟩
  refine Wk.rPure 7 (some 10) (.bool false) rfl rfl (by kernel_rfl) (Wk.boolF (b := ((0 : Int) != (0 : Int))) (bne_eq_false_iff_eq.2 (by decide)) (by kernel_rfl)) ?_
  refine Wk.rPure 8 (some 11) (.bool false) rfl rfl (by kernel_rfl) (by kernel_rfl) ?_
  refine Wk.rPure 9 (some 12) (.bool false) rfl rfl (by kernel_rfl) (by kernel_rfl) ?_
  refine Wk.rPure 10 (some 13) (.pointer (some ⟨w.heap.size, 0, none⟩)) rfl rfl (by kernel_rfl) (by kernel_rfl) ?_
  refine Wk.rCall 11 (some 14) 11 [.tmp 13, .const (.int .i64 0)] #[23, 3] [.pointer (some ⟨w.heap.size, 0, none⟩), .int .i64 0] rfl rfl (by kernel_rfl) rfl (by kernel_rfl) (by kernel_rfl) ?_
  refine (Sync_any w.heap.size (⟨⟨[97, 98, 99], 0⟩, ⟨[], 0⟩⟩ : Dk) FF2 0 W4 hD4).mono ?_
  rw [show fE 0 = 0 from by decide]
  rw [show Mur.Dk.sync (⟨⟨[97, 98, 99], 0⟩, ⟨[], 0⟩⟩ : Dk) 0 = (⟨⟨[97, 98, 99], 3⟩, ⟨[], 0⟩⟩ : Dk) from rfl]
  rintro _ W5 ⟨FF3, rfl, hD5, ch5, no2⟩
  have hM3 := Mur.DskF.mem hD5
  have zz6 := ch5.size
  refine ⟨_, rfl, ?_⟩
  refine Wk.rPure 12 (some 15) (.bool false) rfl rfl (by kernel_rfl) (Wk.boolF (b := ((0 : Int) != (0 : Int))) (bne_eq_false_iff_eq.2 (by decide)) (by kernel_rfl)) ?_
  refine Wk.rPure 13 (some 16) (.bool false) rfl rfl (by kernel_rfl) (by kernel_rfl) ?_
  refine Wk.rPure 14 (some 17) (.bool false) rfl rfl (by kernel_rfl) (by kernel_rfl) ?_
  refine Wk.rPure 15 (some 18) (.pointer (some ⟨w.heap.size, 0, none⟩)) rfl rfl (by kernel_rfl) (by kernel_rfl) ?_
  refine Wk.rEx 16 (some 19) _ rfl rfl (by kernel_rfl) (Wk.new_ex (.slice (some ⟨W5.heap.size, 0, none⟩) 3 3) #[.int .u8 100, .int .u8 101, .int .u8 102] 5 (by kernel_rfl)) ?_
  rintro _ W6 ⟨rfl, hb3, ch6, sz2⟩
  have zz7 := ch6.size
  refine Wk.rEx 17 (some 20) _ rfl rfl (by kernel_rfl) (Mur.run_mark 26 (.tmp 19) 5 rfl Try.underlying26 Try.underlying5 W5.heap.size 3 3 #[.int .u8 100, .int .u8 101, .int .u8 102] (by kernel_rfl) hb3) ?_
  rintro _ W7 ⟨rfl, hb4, ch7⟩
  have zz8 := ch7.size
  refine Wk.rCall 18 (some 21) 10 [.tmp 18, .const (.int .i64 0), .tmp 20] #[23, 3, 26] [.pointer (some ⟨w.heap.size, 0, none⟩), .int .i64 0, .slice (some ⟨W5.heap.size, 0, none⟩) 3 3] rfl rfl (by kernel_rfl) rfl (by kernel_rfl) (by kernel_rfl) ?_
  have hD6 := Mur.DskF.chg hD5 ch6 (fun s hs hl => trivial)
  have hD7 := Mur.DskF.chg hD6 ch7 (fun s hs hl => ⟨by have := hM3 s hs; omega, trivial⟩)
  refine (Append_any w.heap.size (⟨⟨[97, 98, 99], 3⟩, ⟨[], 0⟩⟩ : Dk) FF3 0 (some ⟨W5.heap.size, 0, none⟩) 3 3 ([100, 101, 102]) W7 hD7 (Mur.byt_row [100, 101, 102] hb4) (fun h => by cases h)).mono ?_
  rw [show Mur.Dk.appE (⟨⟨[97, 98, 99], 3⟩, ⟨[], 0⟩⟩ : Dk) 0 3 = 0 from by decide]
  rw [show Mur.Dk.app (⟨⟨[97, 98, 99], 3⟩, ⟨[], 0⟩⟩ : Dk) 0 [100, 101, 102] = (⟨⟨[97, 98, 99, 100, 101, 102], 3⟩, ⟨[], 0⟩⟩ : Dk) from rfl]
  rintro _ W8 ⟨FF4, rfl, hD8, ch8, no3⟩
  have hM4 := Mur.DskF.mem hD8
  have zz9 := ch8.size
  refine ⟨_, rfl, ?_⟩
  refine Wk.rPure 19 (some 22) (.bool false) rfl rfl (by kernel_rfl) (Wk.boolF (b := ((0 : Int) != (0 : Int))) (bne_eq_false_iff_eq.2 (by decide)) (by kernel_rfl)) ?_
  refine Wk.rPure 20 (some 23) (.bool false) rfl rfl (by kernel_rfl) (by kernel_rfl) ?_
  refine Wk.rEnd 21 rfl ?_
  refine Wk.nxt ?_
  refine wp_cond_false (by kernel_rfl) ?_
  refine wp_skip ?_
  refine Wk.nxt ?_
  refine wp_seq ?_
  refine Wk.reg ?_
  refine Wk.rPure 0 (some 24) (.pointer (some ⟨w.heap.size, 0, none⟩)) rfl rfl (by kernel_rfl) (by kernel_rfl) ?_
  refine Wk.rPure 1 (some 25) (.agg #[.int .i64 1, .int .i64 0]) rfl rfl (by kernel_rfl) (by kernel_rfl) ?_
  refine Wk.rCall 2 (some 26) 15 [.tmp 24, .tmp 25] #[23, 27] [.pointer (some ⟨w.heap.size, 0, none⟩), .agg #[.int .i64 1, .int .i64 0]] rfl rfl (by kernel_rfl) rfl (by kernel_rfl) (by kernel_rfl) ?_
  refine (Crash_any w.heap.size (⟨⟨[97, 98, 99, 100, 101, 102], 3⟩, ⟨[], 0⟩⟩ : Dk) FF4 1 0 W8 hD8).mono ?_
  rw [show Mur.Dk.crash (⟨⟨[97, 98, 99, 100, 101, 102], 3⟩, ⟨[], 0⟩⟩ : Dk) 1 0 = (⟨⟨[97, 98, 99, 100], 4⟩, ⟨[], 0⟩⟩ : Dk) from rfl]
  rintro _ W9 ⟨FF5, rfl, hD9, ch9, no4⟩
  have hM5 := Mur.DskF.mem hD9
  have zz10 := ch9.size
  refine ⟨_, rfl, ?_⟩
  refine Wk.rEnd 3 rfl ?_
  refine Wk.nxt ?_
  refine wp_seq ?_
  refine Wk.reg ?_
  refine Wk.rPure 0 (some 27) (.pointer (some ⟨w.heap.size, 0, none⟩)) rfl rfl (by kernel_rfl) (by kernel_rfl) ?_
  refine Wk.rCall 1 (some 28) 13 [.tmp 27, .const (.int .i64 0)] #[23, 3] [.pointer (some ⟨w.heap.size, 0, none⟩), .int .i64 0] rfl rfl (by kernel_rfl) rfl (by kernel_rfl) (by kernel_rfl) ?_
  refine (Bytes_any w.heap.size (⟨⟨[97, 98, 99, 100], 4⟩, ⟨[], 0⟩⟩ : Dk) FF5 0 W9 hD9).mono ?_
  rw [show Mur.Dk.bytes (⟨⟨[97, 98, 99, 100], 4⟩, ⟨[], 0⟩⟩ : Dk) 0 = [97, 98, 99, 100] from rfl]
  rintro _ W10 ⟨vv1, rfl, HO1, ch10⟩
  obtain ⟨AA1, nn1, rfl, hcc1, hmm1, hN1, HS1, hl1⟩ := Wk.own_sl HO1
  have hB1 : Byt W10 AA1 ([97, 98, 99, 100]).length ([97, 98, 99, 100]) := by obtain ⟨_, _, e_, _, _, hq⟩ := Mur.own_byt HO1; cases e_; exact hq
  have zz11 := ch10.size
  refine ⟨_, rfl, ?_⟩
  refine Wk.rPure 2 (some 29) (.string (Mur.str ([97, 98, 99, 100]))) rfl rfl (by kernel_rfl) (Mur.run_str 26 9 (.tmp 28) 5 rfl Try.underlying26 Try.underlying5 Try.underlying9 AA1 (([97, 98, 99, 100]).length) nn1 ([97, 98, 99, 100]) (by kernel_rfl) hB1) ?_
  refine Wk.rPure 3 (some 30) (.bool true) rfl rfl (by kernel_rfl) (Wk.boolT (b := decide (([97, 98, 99, 100]) = ([97, 98, 99, 100]))) (decide_eq_true (rfl)) (Mur.streq 9 9 (.tmp 29) (.const (.string ({ data := #[97, 98, 99, 100] }))) rfl ([97, 98, 99, 100]) ([97, 98, 99, 100]) (by kernel_rfl) (by kernel_rfl))) ?_
  refine Wk.rPure 4 (some 31) (.bool true) rfl rfl (by kernel_rfl) (by kernel_rfl) ?_
  refine Wk.rPure 5 (some 32) (.pointer (some ⟨w.heap.size, 0, none⟩)) rfl rfl (by kernel_rfl) (by kernel_rfl) ?_
  refine Wk.rCall 6 (some 33) 14 [.tmp 32, .const (.int .i64 0)] #[23, 3] [.pointer (some ⟨w.heap.size, 0, none⟩), .int .i64 0] rfl rfl (by kernel_rfl) rfl (by kernel_rfl) (by kernel_rfl) ?_
  have hD10 := Mur.DskF.chg hD9 ch10 (fun s hs hl => trivial)
  refine (Synced_any w.heap.size (⟨⟨[97, 98, 99, 100], 4⟩, ⟨[], 0⟩⟩ : Dk) FF5 0 W10 hD10).mono ?_
  rw [show Mur.Dk.synced (⟨⟨[97, 98, 99, 100], 4⟩, ⟨[], 0⟩⟩ : Dk) 0 = 4 from rfl]
  rintro _ _ ⟨rfl, rfl⟩
  refine ⟨_, rfl, ?_⟩
  refine Wk.rPure 7 (some 34) (.bool true) rfl rfl (by kernel_rfl) (Wk.boolT (b := ((4 : Int) == (4 : Int))) (beq_iff_eq.2 (by decide)) (by kernel_rfl)) ?_
  refine Wk.rPure 8 (some 35) (.bool true) rfl rfl (by kernel_rfl) (by kernel_rfl) ?_
  refine Wk.rPure 9 (some 36) (.bool true) rfl rfl (by kernel_rfl) (by kernel_rfl) ?_
  refine Wk.rPure 10 (some 37) (.pointer (some ⟨w.heap.size, 0, none⟩)) rfl rfl (by kernel_rfl) (by kernel_rfl) ?_
  refine Wk.rEx 11 (some 38) _ rfl rfl (by kernel_rfl) (Wk.new_ex (.slice (some ⟨W10.heap.size, 0, none⟩) 1 1) #[.int .u8 97] 5 (by kernel_rfl)) ?_
  rintro _ W11 ⟨rfl, hb5, ch11, sz3⟩
  have zz12 := ch11.size
  refine Wk.rEx 12 (some 39) _ rfl rfl (by kernel_rfl) (Mur.run_mark 26 (.tmp 38) 5 rfl Try.underlying26 Try.underlying5 W10.heap.size 1 1 #[.int .u8 97] (by kernel_rfl) hb5) ?_
  rintro _ W12 ⟨rfl, hb6, ch12⟩
  have zz13 := ch12.size
  refine Wk.rCall 13 (some 40) 10 [.tmp 37, .const (.int .i64 2), .tmp 39] #[23, 3, 26] [.pointer (some ⟨w.heap.size, 0, none⟩), .int .i64 2, .slice (some ⟨W10.heap.size, 0, none⟩) 1 1] rfl rfl (by kernel_rfl) rfl (by kernel_rfl) (by kernel_rfl) ?_
  have hD11 := Mur.DskF.chg hD10 ch11 (fun s hs hl => trivial)
  have hD12 := Mur.DskF.chg hD11 ch12 (fun s hs hl => ⟨by have := hM5 s hs; omega, trivial⟩)
  refine (Append_any w.heap.size (⟨⟨[97, 98, 99, 100], 4⟩, ⟨[], 0⟩⟩ : Dk) FF5 2 (some ⟨W10.heap.size, 0, none⟩) 1 1 ([97]) W12 hD12 (Mur.byt_row [97] hb6) (fun h => by cases h)).mono ?_
  rw [show Mur.Dk.appE (⟨⟨[97, 98, 99, 100], 4⟩, ⟨[], 0⟩⟩ : Dk) 2 1 = 2 from by decide]
  rw [show Mur.Dk.app (⟨⟨[97, 98, 99, 100], 4⟩, ⟨[], 0⟩⟩ : Dk) 2 [97] = (⟨⟨[97, 98, 99, 100], 4⟩, ⟨[], 0⟩⟩ : Dk) from rfl]
  rintro _ W13 ⟨FF6, rfl, hD13, ch13, no5⟩
  have hM6 := Mur.DskF.mem hD13
  have zz14 := ch13.size
  refine ⟨_, rfl, ?_⟩
  refine Wk.rPure 14 (some 41) (.bool true) rfl rfl (by kernel_rfl) (Wk.boolT (b := ((2 : Int) == (2 : Int))) (beq_iff_eq.2 (by decide)) (by kernel_rfl)) ?_
  refine Wk.rPure 15 (some 42) (.bool true) rfl rfl (by kernel_rfl) (by kernel_rfl) ?_
  refine Wk.rPure 16 (some 0) (.bool true) rfl rfl (by kernel_rfl) (by kernel_rfl) ?_
  refine Wk.rEnd 17 rfl ?_
  refine Wk.nxt ?_
  refine wp_ret ?_
  have kk1 : Wk.Chg [] w W1 := Wk.Chg.step ((Wk.Chg.refl _).more (by simp)) ch1 trivial
  have kk2 := Wk.Chg.step kk1 ch2 trivial
  have kk3 := Wk.Chg.step kk2 ch3 ⟨.inr (by omega), trivial⟩
  have kk4 := Wk.Chg.step kk3 ch4 (Mur.newOr_iff.2 (fun t ht => .inr (by have := hM1 t ht; omega)))
  have kk5 := Wk.Chg.step kk4 ch5 (Mur.newOr_iff.2 (fun t ht => .inr (by have := hM2 t ht; omega)))
  have kk6 := Wk.Chg.step kk5 ch6 trivial
  have kk7 := Wk.Chg.step kk6 ch7 ⟨.inr (by omega), trivial⟩
  have kk8 := Wk.Chg.step kk7 ch8 (Mur.newOr_iff.2 (fun t ht => .inr (by have := hM3 t ht; omega)))
  have kk9 := Wk.Chg.step kk8 ch9 (Mur.newOr_iff.2 (fun t ht => .inr (by have := hM4 t ht; omega)))
  have kk10 := Wk.Chg.step kk9 ch10 trivial
  have kk11 := Wk.Chg.step kk10 ch11 trivial
  have kk12 := Wk.Chg.step kk11 ch12 ⟨.inr (by omega), trivial⟩
  have kk13 := Wk.Chg.step kk12 ch13 (Mur.newOr_iff.2 (fun t ht => .inr (by have := hM5 t ht; omega)))
  refine Wk.ret (.bool true) rfl (by kernel_rfl) ?_
  exact ⟨rfl, Wk.Chg.below0 kk13⟩
end Go.Proofs.Ytddabjlhidokaaa
