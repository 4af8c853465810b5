/- What is known of attests. -/
import Derived.Test.YtljfjjofhclhiaaDoorAtC
namespace Go.Proofs.YtljfjjofhclhiaaDoor
open Go.RowKit
open Mur (b8s Byt Own8 Seg Segs flat cutA attC)
set_option maxRecDepth 100000
set_option maxHeartbeats 4000000
theorem known9_any (w : World) (hv : ShaVars w) : Calls Tryd.prog 17 #[] w fun e w' => e = .returned (.bool true) ∧ Wk.Chg [] w w' := by
  have HV := Go.Lib.hid hv
  clear hv
  refine calls_of_wp Tryd.func17 rfl ?_
  refine wp_seq ?_
  refine Wk.reg ?_
  refine Wk.rPure 0 (some 0) (.bool false) rfl rfl (by kernel_rfl) (by kernel_rfl) ?_
  refine Wk.rEnd 1 rfl ?_
  refine Wk.nxt ?_
  refine wp_seq ?_
  refine Wk.reg ?_
  refine Wk.rEx 0 (some 8) _ rfl rfl (by kernel_rfl) (Wk.new_ex (.slice (some ⟨w.heap.size, 0, none⟩) 1 1) #[.int .u8 115] 5 (by kernel_rfl)) ?_
  rintro _ W1 ⟨rfl, hb1, ch1, sz1⟩
  have zz1 := ch1.size
  refine Wk.rEx 1 (some 9) _ rfl rfl (by kernel_rfl) (Mur.run_mark 22 (.tmp 8) 5 rfl Tryd.underlying22 Tryd.underlying5 w.heap.size 1 1 #[.int .u8 115] (by kernel_rfl) hb1) ?_
  rintro _ W2 ⟨rfl, hb2, ch2⟩
  have zz2 := ch2.size
  refine Wk.rPure 2 (some 10) (.agg ((b8s [1, 0, 0, 0, 0, 0, 0, 0, 0, 0, 0, 0, 0, 0, 0, 0, 0, 0, 0, 0, 0, 0, 0, 0, 0, 0, 0, 0, 0, 0, 0, 0]).toArray)) rfl rfl (by kernel_rfl) (by kernel_rfl) ?_
  refine Wk.rPure 3 (some 11) (.agg ((b8s [2, 0, 0, 0, 0, 0, 0, 0, 0, 0, 0, 0, 0, 0, 0, 0, 0, 0, 0, 0, 0, 0, 0, 0, 0, 0, 0, 0, 0, 0, 0, 0]).toArray)) rfl rfl (by kernel_rfl) (by kernel_rfl) ?_
  refine Wk.rCall 4 (some 12) 18 [.tmp 9, .tmp 10, .tmp 11, .const (.int .i64 3)] #[22, 25, 25, 3] [.slice (some ⟨w.heap.size, 0, none⟩) 1 1, .agg ((b8s [1, 0, 0, 0, 0, 0, 0, 0, 0, 0, 0, 0, 0, 0, 0, 0, 0, 0, 0, 0, 0, 0, 0, 0, 0, 0, 0, 0, 0, 0, 0, 0]).toArray), .agg ((b8s [2, 0, 0, 0, 0, 0, 0, 0, 0, 0, 0, 0, 0, 0, 0, 0, 0, 0, 0, 0, 0, 0, 0, 0, 0, 0, 0, 0, 0, 0, 0, 0]).toArray), .int .i64 3] rfl rfl (by kernel_rfl) rfl (by kernel_rfl) (by kernel_rfl) ?_
  have kk1 : Wk.Chg [] w W1 := Wk.Chg.step ((Wk.Chg.refl _).more (by simp)) ch1 trivial
  have kk2 := Wk.Chg.step kk1 ch2 ⟨.inr (by omega), trivial⟩
  refine (Make_ok ([115]) (some ⟨w.heap.size, 0, none⟩) 1 1 ([1, 0, 0, 0, 0, 0, 0, 0, 0, 0, 0, 0, 0, 0, 0, 0, 0, 0, 0, 0, 0, 0, 0, 0, 0, 0, 0, 0, 0, 0, 0, 0]) ([2, 0, 0, 0, 0, 0, 0, 0, 0, 0, 0, 0, 0, 0, 0, 0, 0, 0, 0, 0, 0, 0, 0, 0, 0, 0, 0, 0, 0, 0, 0, 0]) 3 rfl rfl W2 (HV.out.below (Wk.Chg.below0 kk2)) (Mur.byt_row [115] hb2) (by omega) (fun h => by cases h) (by omega) (by decide)).mono ?_
  rintro _ W3 ⟨dd1, hd1, hdl1, rfl, ch3⟩
  have zz3 := ch3.size
  refine ⟨_, rfl, ?_⟩
  refine Wk.rPure 5 (some 7) (.tuple #[.agg ((Mur.attC ([1, 0, 0, 0, 0, 0, 0, 0, 0, 0, 0, 0, 0, 0, 0, 0, 0, 0, 0, 0, 0, 0, 0, 0, 0, 0, 0, 0, 0, 0, 0, 0]) ([2, 0, 0, 0, 0, 0, 0, 0, 0, 0, 0, 0, 0, 0, 0, 0, 0, 0, 0, 0, 0, 0, 0, 0, 0, 0, 0, 0, 0, 0, 0, 0]) 3 dd1).toArray), .int .i64 0]) rfl rfl (by kernel_rfl) (by kernel_rfl) ?_
  refine Wk.rPure 6 (some 13) (.agg ((Mur.attC ([1, 0, 0, 0, 0, 0, 0, 0, 0, 0, 0, 0, 0, 0, 0, 0, 0, 0, 0, 0, 0, 0, 0, 0, 0, 0, 0, 0, 0, 0, 0, 0]) ([2, 0, 0, 0, 0, 0, 0, 0, 0, 0, 0, 0, 0, 0, 0, 0, 0, 0, 0, 0, 0, 0, 0, 0, 0, 0, 0, 0, 0, 0, 0, 0]) 3 dd1).toArray)) rfl rfl (by kernel_rfl) (by kernel_rfl) ?_
  refine Wk.rPure 7 (some 14) (.int .i64 0) rfl rfl (by kernel_rfl) (by kernel_rfl) ?_
  refine Wk.rEx 8 (some 1) _ rfl rfl (by kernel_rfl) (Wk.new_ex (.pointer (some ⟨W3.heap.size, 0, none⟩)) #[.int .u8 0, .int .u8 0, .int .u8 0, .int .u8 0, .int .u8 0, .int .u8 0, .int .u8 0, .int .u8 0, .int .u8 0, .int .u8 0, .int .u8 0, .int .u8 0, .int .u8 0, .int .u8 0, .int .u8 0, .int .u8 0, .int .u8 0, .int .u8 0, .int .u8 0, .int .u8 0, .int .u8 0, .int .u8 0, .int .u8 0, .int .u8 0, .int .u8 0, .int .u8 0, .int .u8 0, .int .u8 0, .int .u8 0, .int .u8 0, .int .u8 0, .int .u8 0, .int .u8 0, .int .u8 0, .int .u8 0, .int .u8 0, .int .u8 0, .int .u8 0, .int .u8 0, .int .u8 0, .int .u8 0, .int .u8 0, .int .u8 0, .int .u8 0, .int .u8 0, .int .u8 0, .int .u8 0, .int .u8 0, .int .u8 0, .int .u8 0, .int .u8 0, .int .u8 0, .int .u8 0, .int .u8 0, .int .u8 0, .int .u8 0, .int .u8 0, .int .u8 0, .int .u8 0, .int .u8 0, .int .u8 0, .int .u8 0, .int .u8 0, .int .u8 0, .int .i64 0, .int .u8 0, .int .u8 0, .int .u8 0, .int .u8 0, .int .u8 0, .int .u8 0, .int .u8 0, .int .u8 0, .int .u8 0, .int .u8 0, .int .u8 0, .int .u8 0, .int .u8 0, .int .u8 0, .int .u8 0, .int .u8 0, .int .u8 0, .int .u8 0, .int .u8 0, .int .u8 0, .int .u8 0, .int .u8 0, .int .u8 0, .int .u8 0, .int .u8 0, .int .u8 0, .int .u8 0, .int .u8 0, .int .u8 0, .int .u8 0, .int .u8 0, .int .u8 0] 36 (by kernel_rfl)) ?_
  rintro _ W4 ⟨rfl, hb3, ch4, sz2⟩
  have zz4 := ch4.size
  rw [← Mur.attC_zero] at hb3
  refine Wk.rExS 9 none _ rfl rfl (by kernel_rfl) (Mur.storeArr 36 (.tmp 1) (.tmp 13) rfl W3.heap.size (by kernel_rfl) (Mur.attC ([1, 0, 0, 0, 0, 0, 0, 0, 0, 0, 0, 0, 0, 0, 0, 0, 0, 0, 0, 0, 0, 0, 0, 0, 0, 0, 0, 0, 0, 0, 0, 0]) ([2, 0, 0, 0, 0, 0, 0, 0, 0, 0, 0, 0, 0, 0, 0, 0, 0, 0, 0, 0, 0, 0, 0, 0, 0, 0, 0, 0, 0, 0, 0, 0]) 3 dd1).toArray 97 (Mur.attC_size rfl rfl hdl1) Mur.attC_all (by kernel_rfl) (by kernel_rfl) 36 ((Mur.attC Mur.z32 Mur.z32 0 Mur.z32).toArray) hb3 (Mur.attC_size rfl rfl rfl)) ?_
  rintro W5 ⟨hb4, ch5⟩
  have zz5 := ch5.size
  refine Wk.rPure 10 (some 2) (.int .i64 0) rfl rfl (by kernel_rfl) (by kernel_rfl) ?_
  refine Wk.rEnd 11 rfl ?_
  refine Wk.nxt ?_
  refine wp_seq ?_
  refine Wk.reg ?_
  refine Wk.rEx 0 (some 16) _ rfl rfl (by kernel_rfl) (Wk.new_ex (.slice (some ⟨W5.heap.size, 0, none⟩) 1 1) #[.int .u8 115] 5 (by kernel_rfl)) ?_
  rintro _ W6 ⟨rfl, hb5, ch6, sz3⟩
  have zz6 := ch6.size
  refine Wk.rEx 1 (some 17) _ rfl rfl (by kernel_rfl) (Mur.run_mark 22 (.tmp 16) 5 rfl Tryd.underlying22 Tryd.underlying5 W5.heap.size 1 1 #[.int .u8 115] (by kernel_rfl) hb5) ?_
  rintro _ W7 ⟨rfl, hb6, ch7⟩
  have zz7 := ch7.size
  refine Wk.rPure 2 (some 18) (.agg ((b8s [1, 0, 0, 0, 0, 0, 0, 0, 0, 0, 0, 0, 0, 0, 0, 0, 0, 0, 0, 0, 0, 0, 0, 0, 0, 0, 0, 0, 0, 0, 0, 0]).toArray)) rfl rfl (by kernel_rfl) (by kernel_rfl) ?_
  refine Wk.rPure 3 (some 19) (.agg ((b8s [2, 0, 0, 0, 0, 0, 0, 0, 0, 0, 0, 0, 0, 0, 0, 0, 0, 0, 0, 0, 0, 0, 0, 0, 0, 0, 0, 0, 0, 0, 0, 0]).toArray)) rfl rfl (by kernel_rfl) (by kernel_rfl) ?_
  refine Wk.rCall 4 (some 20) 18 [.tmp 17, .tmp 18, .tmp 19, .const (.int .i64 0)] #[22, 25, 25, 3] [.slice (some ⟨W5.heap.size, 0, none⟩) 1 1, .agg ((b8s [1, 0, 0, 0, 0, 0, 0, 0, 0, 0, 0, 0, 0, 0, 0, 0, 0, 0, 0, 0, 0, 0, 0, 0, 0, 0, 0, 0, 0, 0, 0, 0]).toArray), .agg ((b8s [2, 0, 0, 0, 0, 0, 0, 0, 0, 0, 0, 0, 0, 0, 0, 0, 0, 0, 0, 0, 0, 0, 0, 0, 0, 0, 0, 0, 0, 0, 0, 0]).toArray), .int .i64 0] rfl rfl (by kernel_rfl) rfl (by kernel_rfl) (by kernel_rfl) ?_
  refine (Make_no (some ⟨W5.heap.size, 0, none⟩) 1 1 ([1, 0, 0, 0, 0, 0, 0, 0, 0, 0, 0, 0, 0, 0, 0, 0, 0, 0, 0, 0, 0, 0, 0, 0, 0, 0, 0, 0, 0, 0, 0, 0]) ([2, 0, 0, 0, 0, 0, 0, 0, 0, 0, 0, 0, 0, 0, 0, 0, 0, 0, 0, 0, 0, 0, 0, 0, 0, 0, 0, 0, 0, 0, 0, 0]) 0 rfl rfl W7 (by decide)).mono ?_
  rintro _ W8 ⟨rfl, ch8⟩
  have zz8 := ch8.size
  refine ⟨_, rfl, ?_⟩
  refine Wk.rPure 5 (some 15) (.tuple #[.agg ((Mur.attC Mur.z32 Mur.z32 0 Mur.z32).toArray), .int .i64 2]) rfl rfl (by kernel_rfl) (by kernel_rfl) ?_
  refine Wk.rPure 6 (some 21) (.agg ((Mur.attC Mur.z32 Mur.z32 0 Mur.z32).toArray)) rfl rfl (by kernel_rfl) (by kernel_rfl) ?_
  refine Wk.rPure 7 (some 22) (.int .i64 2) rfl rfl (by kernel_rfl) (by kernel_rfl) ?_
  refine Wk.rEx 8 (some 3) _ rfl rfl (by kernel_rfl) (Wk.new_ex (.pointer (some ⟨W8.heap.size, 0, none⟩)) #[.int .u8 0, .int .u8 0, .int .u8 0, .int .u8 0, .int .u8 0, .int .u8 0, .int .u8 0, .int .u8 0, .int .u8 0, .int .u8 0, .int .u8 0, .int .u8 0, .int .u8 0, .int .u8 0, .int .u8 0, .int .u8 0, .int .u8 0, .int .u8 0, .int .u8 0, .int .u8 0, .int .u8 0, .int .u8 0, .int .u8 0, .int .u8 0, .int .u8 0, .int .u8 0, .int .u8 0, .int .u8 0, .int .u8 0, .int .u8 0, .int .u8 0, .int .u8 0, .int .u8 0, .int .u8 0, .int .u8 0, .int .u8 0, .int .u8 0, .int .u8 0, .int .u8 0, .int .u8 0, .int .u8 0, .int .u8 0, .int .u8 0, .int .u8 0, .int .u8 0, .int .u8 0, .int .u8 0, .int .u8 0, .int .u8 0, .int .u8 0, .int .u8 0, .int .u8 0, .int .u8 0, .int .u8 0, .int .u8 0, .int .u8 0, .int .u8 0, .int .u8 0, .int .u8 0, .int .u8 0, .int .u8 0, .int .u8 0, .int .u8 0, .int .u8 0, .int .i64 0, .int .u8 0, .int .u8 0, .int .u8 0, .int .u8 0, .int .u8 0, .int .u8 0, .int .u8 0, .int .u8 0, .int .u8 0, .int .u8 0, .int .u8 0, .int .u8 0, .int .u8 0, .int .u8 0, .int .u8 0, .int .u8 0, .int .u8 0, .int .u8 0, .int .u8 0, .int .u8 0, .int .u8 0, .int .u8 0, .int .u8 0, .int .u8 0, .int .u8 0, .int .u8 0, .int .u8 0, .int .u8 0, .int .u8 0, .int .u8 0, .int .u8 0, .int .u8 0] 36 (by kernel_rfl)) ?_
  rintro _ W9 ⟨rfl, hb7, ch9, sz4⟩
  have zz9 := ch9.size
  rw [← Mur.attC_zero] at hb7
  refine Wk.rExS 9 none _ rfl rfl (by kernel_rfl) (Mur.storeArr 36 (.tmp 3) (.tmp 21) rfl W8.heap.size (by kernel_rfl) (Mur.attC Mur.z32 Mur.z32 0 Mur.z32).toArray 97 (Mur.attC_size rfl rfl rfl) Mur.attC_all (by kernel_rfl) (by kernel_rfl) 36 ((Mur.attC Mur.z32 Mur.z32 0 Mur.z32).toArray) hb7 (Mur.attC_size rfl rfl rfl)) ?_
  rintro W10 ⟨hb8, ch10⟩
  have zz10 := ch10.size
  refine Wk.rPure 10 (some 4) (.int .i64 2) rfl rfl (by kernel_rfl) (by kernel_rfl) ?_
  refine Wk.rEnd 11 rfl ?_
  refine Wk.nxt ?_
  refine wp_seq ?_
  refine Wk.reg ?_
  refine Wk.rEx 0 (some 24) _ rfl rfl (by kernel_rfl) (Wk.new_ex (.slice (some ⟨W10.heap.size, 0, none⟩) 104 104) #[.int .u8 0, .int .u8 0, .int .u8 0, .int .u8 0, .int .u8 0, .int .u8 0, .int .u8 0, .int .u8 0, .int .u8 0, .int .u8 0, .int .u8 0, .int .u8 0, .int .u8 0, .int .u8 0, .int .u8 0, .int .u8 0, .int .u8 0, .int .u8 0, .int .u8 0, .int .u8 0, .int .u8 0, .int .u8 0, .int .u8 0, .int .u8 0, .int .u8 0, .int .u8 0, .int .u8 0, .int .u8 0, .int .u8 0, .int .u8 0, .int .u8 0, .int .u8 0, .int .u8 0, .int .u8 0, .int .u8 0, .int .u8 0, .int .u8 0, .int .u8 0, .int .u8 0, .int .u8 0, .int .u8 0, .int .u8 0, .int .u8 0, .int .u8 0, .int .u8 0, .int .u8 0, .int .u8 0, .int .u8 0, .int .u8 0, .int .u8 0, .int .u8 0, .int .u8 0, .int .u8 0, .int .u8 0, .int .u8 0, .int .u8 0, .int .u8 0, .int .u8 0, .int .u8 0, .int .u8 0, .int .u8 0, .int .u8 0, .int .u8 0, .int .u8 0, .int .u8 0, .int .u8 0, .int .u8 0, .int .u8 0, .int .u8 0, .int .u8 0, .int .u8 0, .int .u8 0, .int .u8 0, .int .u8 0, .int .u8 0, .int .u8 0, .int .u8 0, .int .u8 0, .int .u8 0, .int .u8 0, .int .u8 0, .int .u8 0, .int .u8 0, .int .u8 0, .int .u8 0, .int .u8 0, .int .u8 0, .int .u8 0, .int .u8 0, .int .u8 0, .int .u8 0, .int .u8 0, .int .u8 0, .int .u8 0, .int .u8 0, .int .u8 0, .int .u8 0, .int .u8 0, .int .u8 0, .int .u8 0, .int .u8 0, .int .u8 0, .int .u8 0, .int .u8 0] 5 (by kernel_rfl)) ?_
  rintro _ W11 ⟨rfl, hb9, ch11, sz5⟩
  have zz11 := ch11.size
  refine Wk.rCall 1 (some 25) 26 [.tmp 24] #[22] [.slice (some ⟨W10.heap.size, 0, none⟩) 104 104] rfl rfl (by kernel_rfl) rfl (by kernel_rfl) (by kernel_rfl) ?_
  refine (Read_no W10.heap.size 0 104 [0, 0, 0, 0, 0, 0, 0, 0, 0, 0, 0, 0, 0, 0, 0, 0, 0, 0, 0, 0, 0, 0, 0, 0, 0, 0, 0, 0, 0, 0, 0, 0, 0, 0, 0, 0, 0, 0, 0, 0, 0, 0, 0, 0, 0, 0, 0, 0, 0, 0, 0, 0, 0, 0, 0, 0, 0, 0, 0, 0, 0, 0, 0, 0, 0, 0, 0, 0, 0, 0, 0, 0, 0, 0, 0, 0, 0, 0, 0, 0, 0, 0, 0, 0, 0, 0, 0, 0, 0, 0, 0, 0, 0, 0, 0, 0, 0, 0, 0, 0, 0, 0, 0, 0] _ _ _ _ _ W11 (Mur.byt_row [0, 0, 0, 0, 0, 0, 0, 0, 0, 0, 0, 0, 0, 0, 0, 0, 0, 0, 0, 0, 0, 0, 0, 0, 0, 0, 0, 0, 0, 0, 0, 0, 0, 0, 0, 0, 0, 0, 0, 0, 0, 0, 0, 0, 0, 0, 0, 0, 0, 0, 0, 0, 0, 0, 0, 0, 0, 0, 0, 0, 0, 0, 0, 0, 0, 0, 0, 0, 0, 0, 0, 0, 0, 0, 0, 0, 0, 0, 0, 0, 0, 0, 0, 0, 0, 0, 0, 0, 0, 0, 0, 0, 0, 0, 0, 0, 0, 0, 0, 0, 0, 0, 0, 0] hb9) (by omega) rfl rfl rfl rfl rfl (by decide +kernel)).mono ?_
  rintro _ W12 ⟨rfl, ch12⟩
  have zz12 := ch12.size
  refine ⟨_, rfl, ?_⟩
  refine Wk.rPure 2 (some 23) (.tuple #[.agg ((Mur.attC Mur.z32 Mur.z32 0 Mur.z32).toArray), .int .i64 5]) rfl rfl (by kernel_rfl) (by kernel_rfl) ?_
  refine Wk.rPure 3 (some 26) (.agg ((Mur.attC Mur.z32 Mur.z32 0 Mur.z32).toArray)) rfl rfl (by kernel_rfl) (by kernel_rfl) ?_
  refine Wk.rPure 4 (some 27) (.int .i64 5) rfl rfl (by kernel_rfl) (by kernel_rfl) ?_
  refine Wk.rEx 5 (some 5) _ rfl rfl (by kernel_rfl) (Wk.new_ex (.pointer (some ⟨W12.heap.size, 0, none⟩)) #[.int .u8 0, .int .u8 0, .int .u8 0, .int .u8 0, .int .u8 0, .int .u8 0, .int .u8 0, .int .u8 0, .int .u8 0, .int .u8 0, .int .u8 0, .int .u8 0, .int .u8 0, .int .u8 0, .int .u8 0, .int .u8 0, .int .u8 0, .int .u8 0, .int .u8 0, .int .u8 0, .int .u8 0, .int .u8 0, .int .u8 0, .int .u8 0, .int .u8 0, .int .u8 0, .int .u8 0, .int .u8 0, .int .u8 0, .int .u8 0, .int .u8 0, .int .u8 0, .int .u8 0, .int .u8 0, .int .u8 0, .int .u8 0, .int .u8 0, .int .u8 0, .int .u8 0, .int .u8 0, .int .u8 0, .int .u8 0, .int .u8 0, .int .u8 0, .int .u8 0, .int .u8 0, .int .u8 0, .int .u8 0, .int .u8 0, .int .u8 0, .int .u8 0, .int .u8 0, .int .u8 0, .int .u8 0, .int .u8 0, .int .u8 0, .int .u8 0, .int .u8 0, .int .u8 0, .int .u8 0, .int .u8 0, .int .u8 0, .int .u8 0, .int .u8 0, .int .i64 0, .int .u8 0, .int .u8 0, .int .u8 0, .int .u8 0, .int .u8 0, .int .u8 0, .int .u8 0, .int .u8 0, .int .u8 0, .int .u8 0, .int .u8 0, .int .u8 0, .int .u8 0, .int .u8 0, .int .u8 0, .int .u8 0, .int .u8 0, .int .u8 0, .int .u8 0, .int .u8 0, .int .u8 0, .int .u8 0, .int .u8 0, .int .u8 0, .int .u8 0, .int .u8 0, .int .u8 0, .int .u8 0, .int .u8 0, .int .u8 0, .int .u8 0, .int .u8 0] 36 (by kernel_rfl)) ?_
  rintro _ W13 ⟨rfl, hb10, ch13, sz6⟩
  have zz13 := ch13.size
  rw [← Mur.attC_zero] at hb10
  refine Wk.rExS 6 none _ rfl rfl (by kernel_rfl) (Mur.storeArr 36 (.tmp 5) (.tmp 26) rfl W12.heap.size (by kernel_rfl) (Mur.attC Mur.z32 Mur.z32 0 Mur.z32).toArray 97 (Mur.attC_size rfl rfl rfl) Mur.attC_all (by kernel_rfl) (by kernel_rfl) 36 ((Mur.attC Mur.z32 Mur.z32 0 Mur.z32).toArray) hb10 (Mur.attC_size rfl rfl rfl)) ?_
  rintro W14 ⟨hb11, ch14⟩
  have zz14 := ch14.size
  refine Wk.rPure 7 (some 6) (.int .i64 5) rfl rfl (by kernel_rfl) (by kernel_rfl) ?_
  refine Wk.rEnd 8 rfl ?_
  refine Wk.nxt ?_
  refine wp_seq ?_
  refine Wk.reg ?_
  refine Wk.rPure 0 (some 28) (.int .i64 0) rfl rfl (by kernel_rfl) (by kernel_rfl) ?_
  refine Wk.rPure 1 (some 29) (.bool true) rfl rfl (by kernel_rfl) (Wk.boolT (b := ((0 : Int) == (0 : Int))) (beq_iff_eq.2 (by decide)) (by kernel_rfl)) ?_
  refine Wk.rPure 2 (some 30) (.bool true) rfl rfl (by kernel_rfl) (by kernel_rfl) ?_
  refine Wk.rEx 3 (some 31) _ rfl rfl (by kernel_rfl) (Wk.new_ex (.slice (some ⟨W14.heap.size, 0, none⟩) 1 1) #[.int .u8 115] 5 (by kernel_rfl)) ?_
  rintro _ W15 ⟨rfl, hb12, ch15, sz7⟩
  have zz15 := ch15.size
  refine Wk.rEx 4 (some 32) _ rfl rfl (by kernel_rfl) (Mur.run_mark 22 (.tmp 31) 5 rfl Tryd.underlying22 Tryd.underlying5 W14.heap.size 1 1 #[.int .u8 115] (by kernel_rfl) hb12) ?_
  rintro _ W16 ⟨rfl, hb13, ch16⟩
  have zz16 := ch16.size
  refine Wk.rPure 5 (some 33) (.agg ((Mur.attC ([1, 0, 0, 0, 0, 0, 0, 0, 0, 0, 0, 0, 0, 0, 0, 0, 0, 0, 0, 0, 0, 0, 0, 0, 0, 0, 0, 0, 0, 0, 0, 0]) ([2, 0, 0, 0, 0, 0, 0, 0, 0, 0, 0, 0, 0, 0, 0, 0, 0, 0, 0, 0, 0, 0, 0, 0, 0, 0, 0, 0, 0, 0, 0, 0]) 3 dd1).toArray)) rfl rfl (by kernel_rfl) (Mur.loadArr 36 (.tmp 1) rfl _ Tryd.underlying36 rfl W3.heap.size (by kernel_rfl) (Mur.attC ([1, 0, 0, 0, 0, 0, 0, 0, 0, 0, 0, 0, 0, 0, 0, 0, 0, 0, 0, 0, 0, 0, 0, 0, 0, 0, 0, 0, 0, 0, 0, 0]) ([2, 0, 0, 0, 0, 0, 0, 0, 0, 0, 0, 0, 0, 0, 0, 0, 0, 0, 0, 0, 0, 0, 0, 0, 0, 0, 0, 0, 0, 0, 0, 0]) 3 dd1).toArray 97 (Mur.attC_size rfl rfl hdl1) (by kernel_rfl) 36 (0, 0) (Wk.Chg.hp ch16 (Wk.Chg.hp ch15 (Wk.Chg.hp ch14 (Wk.Chg.hp ch13 (Wk.Chg.hp ch12 (Wk.Chg.hp ch11 (Wk.Chg.hp ch10 (Wk.Chg.hp ch9 (Wk.Chg.hp ch8 (Wk.Chg.hp ch7 (Wk.Chg.hp ch6 hb4 trivial) ⟨by omega, trivial⟩) trivial) trivial) ⟨by omega, trivial⟩) trivial) trivial) trivial) ⟨by omega, trivial⟩) trivial) ⟨by omega, trivial⟩)) ?_
  refine Wk.rCall 6 (some 34) 20 [.tmp 32, .tmp 33] #[22, 36] [.slice (some ⟨W14.heap.size, 0, none⟩) 1 1, .agg ((Mur.attC ([1, 0, 0, 0, 0, 0, 0, 0, 0, 0, 0, 0, 0, 0, 0, 0, 0, 0, 0, 0, 0, 0, 0, 0, 0, 0, 0, 0, 0, 0, 0, 0]) ([2, 0, 0, 0, 0, 0, 0, 0, 0, 0, 0, 0, 0, 0, 0, 0, 0, 0, 0, 0, 0, 0, 0, 0, 0, 0, 0, 0, 0, 0, 0, 0]) 3 dd1).toArray)] rfl rfl (by kernel_rfl) rfl (by kernel_rfl) (by kernel_rfl) ?_
  have kk3 := Wk.Chg.step kk2 ch3 trivial
  have kk4 := Wk.Chg.step kk3 ch4 trivial
  have kk5 := Wk.Chg.step kk4 ch5 ⟨.inr (by omega), trivial⟩
  have kk6 := Wk.Chg.step kk5 ch6 trivial
  have kk7 := Wk.Chg.step kk6 ch7 ⟨.inr (by omega), trivial⟩
  have kk8 := Wk.Chg.step kk7 ch8 trivial
  have kk9 := Wk.Chg.step kk8 ch9 trivial
  have kk10 := Wk.Chg.step kk9 ch10 ⟨.inr (by omega), trivial⟩
  have kk11 := Wk.Chg.step kk10 ch11 trivial
  have kk12 := Wk.Chg.step kk11 ch12 trivial
  have kk13 := Wk.Chg.step kk12 ch13 trivial
  have kk14 := Wk.Chg.step kk13 ch14 ⟨.inr (by omega), trivial⟩
  have kk15 := Wk.Chg.step kk14 ch15 trivial
  have kk16 := Wk.Chg.step kk15 ch16 ⟨.inr (by omega), trivial⟩
  refine (Right_any ([115]) (some ⟨W14.heap.size, 0, none⟩) 1 1 ([1, 0, 0, 0, 0, 0, 0, 0, 0, 0, 0, 0, 0, 0, 0, 0, 0, 0, 0, 0, 0, 0, 0, 0, 0, 0, 0, 0, 0, 0, 0, 0]) ([2, 0, 0, 0, 0, 0, 0, 0, 0, 0, 0, 0, 0, 0, 0, 0, 0, 0, 0, 0, 0, 0, 0, 0, 0, 0, 0, 0, 0, 0, 0, 0]) dd1 3 rfl rfl hdl1 W16 (HV.out.below (Wk.Chg.below0 kk16)) (Mur.byt_row [115] hb13) (by omega) (fun h => by cases h) (by omega)).mono ?_
  rintro _ W17 ⟨dr1, hd2, rfl, ch17⟩
  have zz17 := ch17.size
  rw [decide_eq_true (⟨(by decide), hd1.out.trans hd2.out.symm⟩ : Mur.may 3 ∧ dd1 = dr1)]
  refine ⟨_, rfl, ?_⟩
  refine Wk.rPure 7 (some 35) (.bool true) rfl rfl (by kernel_rfl) (by kernel_rfl) ?_
  refine Wk.rPure 8 (some 36) (.bool true) rfl rfl (by kernel_rfl) (by kernel_rfl) ?_
  refine Wk.rPure 9 (some 37) (.int .i64 2) rfl rfl (by kernel_rfl) (by kernel_rfl) ?_
  refine Wk.rPure 10 (some 38) (.bool true) rfl rfl (by kernel_rfl) (Wk.boolT (b := ((2 : Int) == (2 : Int))) (beq_iff_eq.2 (by decide)) (by kernel_rfl)) ?_
  refine Wk.rPure 11 (some 39) (.bool true) rfl rfl (by kernel_rfl) (by kernel_rfl) ?_
  refine Wk.rPure 12 (some 40) (.bool true) rfl rfl (by kernel_rfl) (by kernel_rfl) ?_
  refine Wk.rPure 13 (some 41) (.int .i64 5) rfl rfl (by kernel_rfl) (by kernel_rfl) ?_
  refine Wk.rPure 14 (some 42) (.bool true) rfl rfl (by kernel_rfl) (Wk.boolT (b := ((5 : Int) == (5 : Int))) (beq_iff_eq.2 (by decide)) (by kernel_rfl)) ?_
  refine Wk.rPure 15 (some 43) (.bool true) rfl rfl (by kernel_rfl) (by kernel_rfl) ?_
  refine Wk.rPure 16 (some 0) (.bool true) rfl rfl (by kernel_rfl) (by kernel_rfl) ?_
  refine Wk.rEnd 17 rfl ?_
  refine Wk.nxt ?_
  refine wp_ret ?_
  have kk17 := Wk.Chg.step kk16 ch17 trivial
  refine Wk.ret (.bool true) rfl (by kernel_rfl) ?_
  exact ⟨rfl, kk17⟩
end Go.Proofs.YtljfjjofhclhiaaDoor
