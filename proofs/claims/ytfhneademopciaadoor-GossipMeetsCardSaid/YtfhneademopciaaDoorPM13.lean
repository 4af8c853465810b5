/- gossip: Start. gossip's laws: known. gossip's document: Shown. -/
import Derived.Test.YtfhneademopciaaDoorPM10
import Derived.Test.YtfhneademopciaaDoorPM5
import Derived.Test.YtfhneademopciaaDoorPM12
import Derived.Test.YtfhneademopciaaDoorPM9
import Derived.Test.YtfhneademopciaaDoorPM11
import Derived.Test.YtfhneademopciaaDoorPM6
namespace Go.Proofs.YtfhneademopciaaDoor
open Go.RowKit
open Mur (b8s Byt Own8 Seg Segs flat cutA attC Att SlA OwnA rowA msgC)
set_option maxRecDepth 100000
set_option maxHeartbeats 4000000
theorem Start_any (lo : Nat) (L : List Att) (g : Nat) (F : List Nat) (w : World) (hv : ShaVars w) (h : Mur.SetF 32 57 lo w g L F) : Calls Tryd.prog 52 #[.pointer (some ⟨g, 0, none⟩)] w fun e w' => ∃ q d P1 n1 c1, Hid (d = Mur.sumL [] L) ∧ d.length = 32 ∧ e = .returned (.slice (some ⟨q, 0, none⟩) 1 1) ∧ w'.heap[q]? = some (.cells (msgC 1 P1 n1 c1 d (((Mur.belowL [] L).length : Nat) : Int) none 0 0 false).toArray 66 (0, 0)) ∧ Own8 w' w.heap.size 5 P1 n1 c1 [] ∧ w.heap.size ≤ q ∧ Wk.Chg [] w w' := by
 have HV := Go.Lib.hid hv
 clear hv
 have hM_ := Mur.SetF.mem h
 refine calls_of_wp Tryd.func52 rfl ?_
 refine wp_seq (Wk.reg ?_)
 refine Wk.rP 0 2 (.slice none 0 0) rfl rfl ?_
 refine Wk.rEnd 1 rfl (Wk.nxt (wp_seq (wp_seq (Wk.reg ?_))))
 refine Wk.rP 0 3 (.pointer (some ⟨g, 0, none⟩)) rfl rfl ?_
 refine Wk.rP 1 4 (.bool false) rfl rfl ?_
 refine Wk.rEnd 2 rfl (Wk.nxt (wp_cond_false (by kernel_rfl) (wp_skip (Wk.nxt (wp_seq (Wk.reg ?_))))))
 refine Wk.rP 0 5 (.pointer (some ⟨g, 0, none⟩)) rfl rfl ?_
 refine Wk.rC 1 6 74 [.tmp 5, .const (.slice none 0 0)] #[24, 38] [.pointer (some ⟨g, 0, none⟩), .slice none 0 0] rfl rfl rfl ?_
 refine (summary_any lo L g F ([]) none 0 0 w HV.out h (Byt.nil _ none) (fun _ => rfl) (by omega)).mono ?_
 rintro _ W1 ⟨dd1, AA1, nn1, nn2, hd1, hdl1, rfl, ow1, ch1⟩
 have zz1 := ch1.size
 have hq1 := ow1.nc
 have hq2 := ow1.cm
 refine ⟨_, rfl, ?_⟩
 refine Wk.rEx 2 (some 7) _ rfl rfl (by kernel_rfl) (Mur.buildR1 67 66 (.tmp 6) rfl Tryd.underlying67 Mur.msgZ 37 104 msgI (Mur.msgC_length rfl) (by decide) (by decide) (Mur.msgC 1 AA1 nn1 nn2 dd1 (((Mur.belowL ([]) L).length : Nat) : Int) none 0 0 false) (Mur.msgC_length hdl1) (by kernel_rfl)) ?_
 rintro _ W2 ⟨rfl, hb1, ch2, sz1⟩
 have zz2 := ch2.size
 refine Wk.rP 3 2 (.slice (some ⟨W1.heap.size, 0, none⟩) 1 1) rfl rfl ?_
 refine Wk.rEnd 4 rfl (Wk.nxt (wp_ret ?_))
 have ow2 := Mur.own8 (Wk.own_chg ow1.own ch2 (fun q e _ _ => trivial))
 have kk1 : Wk.Chg [] w W1 := Wk.Chg.step ((Wk.Chg.refl _).more (by simp)) ch1 trivial
 have kk2 := Wk.Chg.step kk1 ch2 trivial
 refine Wk.ret (.slice (some ⟨W1.heap.size, 0, none⟩) 1 1) rfl (by kernel_rfl) ?_
 exact ⟨_, _, _, _, _, hd1, hdl1, rfl, hb1, Mur.own8_low ow2 (by omega), by omega, kk2⟩
end Go.Proofs.YtfhneademopciaaDoor
namespace Go.Proofs.YtfhneademopciaaDoor
open Go.RowKit
open Mur (b8s Byt Own8 Seg Segs flat cutA attC Att SlA OwnA rowA msgC)
set_option maxRecDepth 100000
set_option maxHeartbeats 4000000
theorem known21_any (w : World) (hv : ShaVars w) : Calls Tryd.prog 32 #[] w fun e w' => e = .returned (.bool true) ∧ Wk.Chg [] w w' := by
 have HV := Go.Lib.hid hv
 clear hv
 refine calls_of_wp Tryd.func32 rfl ?_
 refine wp_seq (Wk.reg ?_)
 refine Wk.rP 0 0 (.bool false) rfl rfl ?_
 refine Wk.rEnd 1 rfl (Wk.nxt (wp_seq (Wk.reg ?_)))
 refine Wk.rC 0 11 14 [] #[] [] rfl rfl rfl ?_
 refine (New_any w).mono ?_
 rintro _ W1 ⟨FF1, rfl, hD1, ch1⟩
 have hM1 := Mur.SetF.mem hD1
 have zz1 := (hM1 _ (Mur.SetF.self hD1)).2
 have zz2 := ch1.size
 refine ⟨_, rfl, ?_⟩
 refine Wk.rC 1 12 14 [] #[] [] rfl rfl rfl ?_
 refine (New_any W1).mono ?_
 rintro _ W2 ⟨FF2, rfl, hD2, ch2⟩
 have hM2 := Mur.SetF.mem hD2
 have zz3 := (hM2 _ (Mur.SetF.self hD2)).2
 have zz4 := ch2.size
 have jj1 : Mur.Dj FF2 FF1 := fun s h1 h2 => by have := hM2 s h1; have := hM1 s h2; omega
 have jj2 : Mur.Dj FF1 FF2 := fun s h1 h2 => jj1 s h2 h1
 refine ⟨_, rfl, ?_⟩
 refine Wk.rP 2 1 (.pointer (some ⟨w.heap.size, 0, none⟩)) rfl rfl ?_
 refine Wk.rP 3 2 (.pointer (some ⟨W1.heap.size, 0, none⟩)) rfl rfl ?_
 refine Wk.rEnd 4 rfl (Wk.nxt (wp_seq (Wk.reg ?_)))
 refine Wk.rP 0 13 (.agg ((b8s [63, 0, 0, 0, 0, 0, 0, 0, 0, 0, 0, 0, 0, 0, 0, 0, 0, 0, 0, 0, 0, 0, 0, 0, 0, 0, 0, 0, 0, 0, 0, 0]).toArray)) rfl rfl ?_
 refine Wk.rQ 1 14 (.agg ((Mur.attC ([63, 0, 0, 0, 0, 0, 0, 0, 0, 0, 0, 0, 0, 0, 0, 0, 0, 0, 0, 0, 0, 0, 0, 0, 0, 0, 0, 0, 0, 0, 0, 0]) Mur.z32 1 Mur.z32).toArray)) rfl rfl (Mur.run_built 32 _ rfl [(0, .agg ((b8s [63, 0, 0, 0, 0, 0, 0, 0, 0, 0, 0, 0, 0, 0, 0, 0, 0, 0, 0, 0, 0, 0, 0, 0, 0, 0, 0, 0, 0, 0, 0, 0]).toArray)), (2, .int .i64 1)] (by kernel_rfl) _ (built2 rfl)) ?_
 refine Wk.rEx 2 (some 3) _ rfl rfl (by kernel_rfl) (Wk.new_ex (.pointer (some ⟨W2.heap.size, 0, none⟩)) #[.int .u8 0, .int .u8 0, .int .u8 0, .int .u8 0, .int .u8 0, .int .u8 0, .int .u8 0, .int .u8 0, .int .u8 0, .int .u8 0, .int .u8 0, .int .u8 0, .int .u8 0, .int .u8 0, .int .u8 0, .int .u8 0, .int .u8 0, .int .u8 0, .int .u8 0, .int .u8 0, .int .u8 0, .int .u8 0, .int .u8 0, .int .u8 0, .int .u8 0, .int .u8 0, .int .u8 0, .int .u8 0, .int .u8 0, .int .u8 0, .int .u8 0, .int .u8 0, .int .u8 0, .int .u8 0, .int .u8 0, .int .u8 0, .int .u8 0, .int .u8 0, .int .u8 0, .int .u8 0, .int .u8 0, .int .u8 0, .int .u8 0, .int .u8 0, .int .u8 0, .int .u8 0, .int .u8 0, .int .u8 0, .int .u8 0, .int .u8 0, .int .u8 0, .int .u8 0, .int .u8 0, .int .u8 0, .int .u8 0, .int .u8 0, .int .u8 0, .int .u8 0, .int .u8 0, .int .u8 0, .int .u8 0, .int .u8 0, .int .u8 0, .int .u8 0, .int .i64 0, .int .u8 0, .int .u8 0, .int .u8 0, .int .u8 0, .int .u8 0, .int .u8 0, .int .u8 0, .int .u8 0, .int .u8 0, .int .u8 0, .int .u8 0, .int .u8 0, .int .u8 0, .int .u8 0, .int .u8 0, .int .u8 0, .int .u8 0, .int .u8 0, .int .u8 0, .int .u8 0, .int .u8 0, .int .u8 0, .int .u8 0, .int .u8 0, .int .u8 0, .int .u8 0, .int .u8 0, .int .u8 0, .int .u8 0, .int .u8 0, .int .u8 0, .int .u8 0] 32 (by kernel_rfl)) ?_
 rintro _ W3 ⟨rfl, hb1, ch3, sz1⟩
 have zz5 := ch3.size
 rw [← Mur.attC_zero] at hb1
 refine Wk.rExS 3 none _ rfl rfl (by kernel_rfl) (Mur.storeArr 32 (.tmp 3) (.tmp 14) rfl W2.heap.size (by kernel_rfl) (Mur.attC ([63, 0, 0, 0, 0, 0, 0, 0, 0, 0, 0, 0, 0, 0, 0, 0, 0, 0, 0, 0, 0, 0, 0, 0, 0, 0, 0, 0, 0, 0, 0, 0]) Mur.z32 1 Mur.z32).toArray 97 (Mur.attC_size rfl rfl rfl) Mur.attC_all (by kernel_rfl) (by kernel_rfl) 32 ((Mur.attC Mur.z32 Mur.z32 0 Mur.z32).toArray) hb1 (Mur.attC_size rfl rfl rfl)) ?_
 rintro W4 ⟨hb2, ch4⟩
 have zz6 := ch4.size
 refine Wk.rEnd 4 rfl (Wk.nxt (wp_seq (wp_seq (Wk.reg ?_))))
 refine Wk.rP 0 15 (.pointer (some ⟨w.heap.size, 0, none⟩)) rfl rfl ?_
 refine Wk.rP 1 16 (.bool false) rfl rfl ?_
 refine Wk.rP 2 17 (.bool false) rfl rfl ?_
 refine Wk.rP 3 18 (.pointer (some ⟨W1.heap.size, 0, none⟩)) rfl rfl ?_
 refine Wk.rP 4 19 (.bool false) rfl rfl ?_
 refine Wk.rP 5 20 (.bool false) rfl rfl ?_
 refine Wk.rP 6 21 (.bool false) rfl rfl ?_
 refine Wk.rP 7 22 (.pointer (some ⟨w.heap.size, 0, none⟩)) rfl rfl ?_
 refine Wk.rQ 8 23 (.agg ((Mur.attC ([63, 0, 0, 0, 0, 0, 0, 0, 0, 0, 0, 0, 0, 0, 0, 0, 0, 0, 0, 0, 0, 0, 0, 0, 0, 0, 0, 0, 0, 0, 0, 0]) Mur.z32 1 Mur.z32).toArray)) rfl rfl (Mur.loadArr 32 (.tmp 3) rfl _ Tryd.underlying32 rfl W2.heap.size (by kernel_rfl) (Mur.attC ([63, 0, 0, 0, 0, 0, 0, 0, 0, 0, 0, 0, 0, 0, 0, 0, 0, 0, 0, 0, 0, 0, 0, 0, 0, 0, 0, 0, 0, 0, 0, 0]) Mur.z32 1 Mur.z32).toArray 97 (Mur.attC_size rfl rfl rfl) (by kernel_rfl) 32 (0, 0) hb2) ?_
 refine Wk.rC 9 24 15 [.tmp 22, .tmp 23] #[24, 32] [.pointer (some ⟨w.heap.size, 0, none⟩), .agg ((Mur.attC ([63, 0, 0, 0, 0, 0, 0, 0, 0, 0, 0, 0, 0, 0, 0, 0, 0, 0, 0, 0, 0, 0, 0, 0, 0, 0, 0, 0, 0, 0, 0, 0]) Mur.z32 1 Mur.z32).toArray)] rfl rfl rfl ?_
 have hD3 := Mur.SetF.chg hD1 ch2 (fun s hs => trivial)
 have hD4 := Mur.SetF.chg hD3 ch3 (fun s hs => trivial)
 have hD5 := Mur.SetF.chg hD4 ch4 (fun s hs => ⟨by have := hM1 s hs; omega, trivial⟩)
 have hD6 := Mur.SetF.chg hD2 ch3 (fun s hs => trivial)
 have hD7 := Mur.SetF.chg hD6 ch4 (fun s hs => ⟨by have := hM2 s hs; omega, trivial⟩)
 refine (Add_any w.heap.size ([]) w.heap.size FF1 Mur.kA W4 hD5).mono ?_
 rw [Mur.kA_add]
 dsimp only
 rintro _ W5 ⟨FF3, rfl, hD8, ch5, no1⟩
 have hM3 := Mur.SetF.mem hD8
 have zz7 := ch5.size
 have hD9 := Mur.SetF.chg hD7 ch5 (fun s hs => Mur.Dj.off1 jj2 hs)
 have jj3 : Mur.Dj FF3 FF2 := fun s hs ht => by
  rcases Mur.newOr_iff.1 no1 s hs with h1 | h1
  ·exact jj2 s h1 ht
  ·have := hM2 s ht; omega
 have jj4 : Mur.Dj FF2 FF3 := fun s hs ht => jj3 s ht hs
 refine ⟨_, rfl, ?_⟩
 refine Wk.rQ 10 25 (.bool false) rfl rfl (Wk.boolF (b := ((0 : Int) != (0 : Int))) (bne_eq_false_iff_eq.2 (by decide)) (by kernel_rfl)) ?_
 refine Wk.rP 11 26 (.bool false) rfl rfl ?_
 refine Wk.rEnd 12 rfl (Wk.nxt (wp_cond_false (by kernel_rfl) (wp_skip (Wk.nxt (wp_seq (Wk.reg ?_))))))
 refine Wk.rP 0 27 (.pointer (some ⟨W1.heap.size, 0, none⟩)) rfl rfl ?_
 refine Wk.rC 1 28 52 [.tmp 27] #[24] [.pointer (some ⟨W1.heap.size, 0, none⟩)] rfl rfl rfl ?_
 have kk1 : Wk.Chg [] w W1 := Wk.Chg.step ((Wk.Chg.refl _).more (by simp)) ch1 trivial
 have kk2 := Wk.Chg.step kk1 ch2 trivial
 have kk3 := Wk.Chg.step kk2 ch3 trivial
 have kk4 := Wk.Chg.step kk3 ch4 ⟨.inr (by omega), trivial⟩
 have kk5 := Wk.Chg.step kk4 ch5 (Mur.newOr_iff.2 (fun t ht => .inr (by have := hM1 t ht; omega)))
 refine (Start_any W1.heap.size ([]) W1.heap.size FF2 W5 (HV.out.below (Wk.Chg.below0 kk5)) hD9).mono ?_
 rintro _ W6 ⟨gq1, dd1, AA1, nn1, nn2, hd1, hdl1, rfl, hb3, ow1, hq1, ch6⟩
 have zz8 := ch6.size
 have hq2 := (Array.getElem?_eq_some_iff.1 hb3).1
 have hq3 : nn1 = 0 := ow1.byt.1.symm
 have hq4 := ow1.nc
 have hq5 := ow1.cm
 refine ⟨_, rfl, ?_⟩
 refine Wk.rP 2 4 (.slice (some ⟨gq1, 0, none⟩) 1 1) rfl rfl ?_
 refine Wk.rEnd 3 rfl (Wk.nxt (wp_seq (wp_seq (Wk.reg ?_))))
 refine Wk.rP 0 29 (.slice (some ⟨gq1, 0, none⟩) 1 1) rfl rfl ?_
 refine Wk.rP 1 30 (.int .i64 1) rfl rfl ?_
 refine Wk.rQ 2 31 (.bool false) rfl rfl (Wk.boolF (b := ((1 : Int) != (1 : Int))) (bne_eq_false_iff_eq.2 (by decide)) (by kernel_rfl)) ?_
 refine Wk.rEnd 3 rfl (Wk.nxt (wp_cond_false (by kernel_rfl) (wp_skip (Wk.nxt (wp_seq (Wk.reg ?_))))))
 refine Wk.rP 0 33 (.pointer (some ⟨w.heap.size, 0, none⟩)) rfl rfl ?_
 refine Wk.rP 1 34 (.slice (some ⟨gq1, 0, none⟩) 1 1) rfl rfl ?_
 refine Wk.rQ 2 35 (.pointer (some ⟨gq1, 0, none⟩)) rfl rfl (Wk.index_sl 67 66 (.tmp 34) (.const (.int .i64 0)) rfl Tryd.underlying67 37 (by kernel_rfl) gq1 0 1 1 0 .i64 (by kernel_rfl) (by kernel_rfl) (by omega)) ?_
 refine Wk.rQ 3 36 (.agg ((Mur.msgC 1 AA1 nn1 nn2 dd1 (((Mur.belowL [] ([])).length : Nat) : Int) none 0 0 false).toArray)) rfl rfl (Mur.loadArr 66 (.tmp 35) rfl _ Tryd.underlying66 rfl gq1 (by kernel_rfl) (Mur.msgC 1 AA1 nn1 nn2 dd1 (((Mur.belowL [] ([])).length : Nat) : Int) none 0 0 false).toArray 37 (Mur.msgC_size hdl1) (by kernel_rfl) 66 (0, 0) hb3) ?_
 refine Wk.rC 4 37 36 [.tmp 33, .tmp 36] #[24, 66] [.pointer (some ⟨w.heap.size, 0, none⟩), .agg ((Mur.msgC 1 AA1 nn1 nn2 dd1 (((Mur.belowL [] ([])).length : Nat) : Int) none 0 0 false).toArray)] rfl rfl rfl ?_
 have hD10 := Mur.SetF.chg hD8 ch6 (fun s hs => trivial)
 have kk6 := Wk.Chg.step kk5 ch6 trivial
 refine (Hear_any w.heap.size ([Mur.kA]) w.heap.size FF3 1 ([]) AA1 nn1 nn2 dd1 (((Mur.belowL [] ([])).length : Nat) : Int) ([]) none 0 0 false W6 (HV.out.below (Wk.Chg.below0 kk6)) hD10 hdl1 ow1.byt ow1.nil (Mur.SlA.nil _ none) (by omega) (by omega)).mono ?_
 rintro _ W7 ⟨AA2, nn3, nn4, AA3, nn5, nn6, rfl, ow2, ow3, ch7⟩
 have zz9 := ch7.size
 have hq6 : nn3 ≤ 9223372036854775807 := Nat.le_trans ow2.nc (Nat.le_trans ow2.cm (by unfold Go.maxLen; omega))
 have hq7 : nn5 ≤ 9223372036854775807 := Nat.le_trans ow3.nc (Nat.le_trans ow3.cm (by unfold Go.maxLen; omega))
 rw [Mur.hears1 hd1.out] at ow2
 have hq8 := ow2.nc
 have hq9 := ow2.cm
 have hq10 := ow2.len
 have hq11 := ow3.nc
 have hq12 := ow3.cm
 have hq13 := ow3.sl.len
 have hnl1 : nn3 = 1 := ow2.len.symm
 subst hnl1
 refine ⟨_, rfl, ?_⟩
 refine Wk.rP 5 32 (.tuple #[.slice AA2 1 nn4, .slice AA3 nn5 nn6]) rfl rfl ?_
 refine Wk.rP 6 38 (.slice AA2 1 nn4) rfl rfl ?_
 refine Wk.rP 7 39 (.slice AA3 nn5 nn6) rfl rfl ?_
 refine Wk.rP 8 5 (.slice AA2 1 nn4) rfl rfl ?_
 refine Wk.rP 9 6 (.slice AA3 nn5 nn6) rfl rfl ?_
 refine Wk.rEnd 10 rfl (Wk.nxt (wp_seq (Wk.reg ?_)))
 refine Wk.rP 0 41 (.pointer (some ⟨W1.heap.size, 0, none⟩)) rfl rfl ?_
 refine Wk.rP 1 42 (.slice (some ⟨gq1, 0, none⟩) 1 1) rfl rfl ?_
 refine Wk.rQ 2 43 (.pointer (some ⟨gq1, 0, none⟩)) rfl rfl (Wk.index_sl 67 66 (.tmp 42) (.const (.int .i64 0)) rfl Tryd.underlying67 37 (by kernel_rfl) gq1 0 1 1 0 .i64 (by kernel_rfl) (by kernel_rfl) (by omega)) ?_
 refine Wk.rQ 3 44 (.agg ((Mur.msgC 1 AA1 nn1 nn2 dd1 (((Mur.belowL [] ([])).length : Nat) : Int) none 0 0 false).toArray)) rfl rfl (Mur.loadArr 66 (.tmp 43) rfl _ Tryd.underlying66 rfl gq1 (by kernel_rfl) (Mur.msgC 1 AA1 nn1 nn2 dd1 (((Mur.belowL [] ([])).length : Nat) : Int) none 0 0 false).toArray 37 (Mur.msgC_size hdl1) (by kernel_rfl) 66 (0, 0) (Wk.Chg.hp ch7 hb3 trivial)) ?_
 refine Wk.rC 4 45 36 [.tmp 41, .tmp 44] #[24, 66] [.pointer (some ⟨W1.heap.size, 0, none⟩), .agg ((Mur.msgC 1 AA1 nn1 nn2 dd1 (((Mur.belowL [] ([])).length : Nat) : Int) none 0 0 false).toArray)] rfl rfl rfl ?_
 have hD11 := Mur.SetF.chg hD9 ch6 (fun s hs => trivial)
 have hD12 := Mur.SetF.chg hD11 ch7 (fun s hs => trivial)
 have ow4 := Mur.own8 (Wk.own_chg ow1.own ch7 (fun q e _ _ => trivial))
 have kk7 := Wk.Chg.step kk6 ch7 trivial
 refine (Hear_any W1.heap.size ([]) W1.heap.size FF2 1 ([]) AA1 nn1 nn2 dd1 (((Mur.belowL [] ([])).length : Nat) : Int) ([]) none 0 0 false W7 (HV.out.below (Wk.Chg.below0 kk7)) hD12 hdl1 ow4.byt ow4.nil (Mur.SlA.nil _ none) (by omega) (by omega)).mono ?_
 rintro _ W8 ⟨AA4, nn7, nn8, AA5, nn9, nn10, rfl, ow5, ow6, ch8⟩
 have zz10 := ch8.size
 have hq14 : nn7 ≤ 9223372036854775807 := Nat.le_trans ow5.nc (Nat.le_trans ow5.cm (by unfold Go.maxLen; omega))
 have hq15 : nn9 ≤ 9223372036854775807 := Nat.le_trans ow6.nc (Nat.le_trans ow6.cm (by unfold Go.maxLen; omega))
 rw [Mur.hears2 hd1.out] at ow5
 have hq16 := ow5.nc
 have hq17 := ow5.cm
 have hq18 := ow5.len
 have hq19 := ow6.nc
 have hq20 := ow6.cm
 have hq21 := ow6.sl.len
 have hnl2 : nn7 = 0 := ow5.len.symm
 subst hnl2
 refine ⟨_, rfl, ?_⟩
 refine Wk.rP 5 40 (.tuple #[.slice AA4 0 nn8, .slice AA5 nn9 nn10]) rfl rfl ?_
 refine Wk.rP 6 46 (.slice AA4 0 nn8) rfl rfl ?_
 refine Wk.rP 7 47 (.slice AA5 nn9 nn10) rfl rfl ?_
 refine Wk.rP 8 7 (.slice AA4 0 nn8) rfl rfl ?_
 refine Wk.rP 9 8 (.slice AA5 nn9 nn10) rfl rfl ?_
 refine Wk.rEnd 10 rfl (Wk.nxt (wp_seq (wp_seq (Wk.reg ?_))))
 have ow7 := (Mur.MsgA.chg ow2 ch8 (fun _ _ _ _ => trivial))
 obtain ⟨⟨kd1, PA1, np1, cp1, sm_, cn_, QA1, nq1, cq1, an_, hsm1⟩, gm1, hA1, hrg1, ⟨rfl, rfl, rfl, rfl, hby1, hsl1, hnp1, hnq1, hac1, hpc1⟩, hgb1, hsb1⟩ := Mur.MsgA.row0 ow7 (show [(⟨2, [], Mur.z32, 0, [Mur.kA], false⟩ : Mur.Msg)][0]? = some ⟨2, [], Mur.z32, 0, [Mur.kA], false⟩ from rfl)
 replace hsm1 : (Mur.z32).length = 32 := hsm1
 replace hrg1 : W8.rangeAt gm1 (0) (msgC 2 PA1 np1 cp1 Mur.z32 0 QA1 nq1 cq1 false) := hrg1
 replace hby1 : Byt W8 PA1 np1 ([]) := hby1
 replace hsl1 : SlA W8 QA1 nq1 ([Mur.kA]) := hsl1
 replace hnp1 : PA1 = none → cp1 = 0 := hnp1
 replace hac1 : nq1 ≤ cq1 ∧ cq1 ≤ 9223372036854775807 := hac1
 replace hpc1 : np1 ≤ cp1 ∧ cp1 ≤ 9223372036854775807 := hpc1
 have hlp1 : ∀ g_ off_, PA1 = some ⟨g_, off_, none⟩ → 0 < np1 → W6.heap.size ≤ g_ ∧ g_ < W8.heap.size := fun g_ off_ e_ hn_ => hsb1 g_ (List.mem_append_left _ (Mur.pblk_mem e_ hn_))
 have hlq1 : ∀ g_ off_, QA1 = some ⟨g_, off_, none⟩ → 0 < nq1 → W6.heap.size ≤ g_ ∧ g_ < W8.heap.size := fun g_ off_ e_ hn_ => hsb1 g_ (List.mem_append_right _ (Mur.pblk_mem e_ hn_))
 have hpl1 : np1 = 0 := hby1.1.symm
 have hil1 : nq1 = 1 := hsl1.len.symm
 subst hil1
 subst hA1
 refine Wk.rP 0 48 (.slice (some ⟨gm1, 0, none⟩) 1 nn4) rfl rfl ?_
 refine Wk.rP 1 49 (.int .i64 1) rfl rfl ?_
 refine Wk.rQ 2 50 (.bool false) rfl rfl (Wk.boolF (b := ((1 : Int) != (1 : Int))) (bne_eq_false_iff_eq.2 (by decide)) (by kernel_rfl)) ?_
 refine Wk.rP 3 51 (.bool false) rfl rfl ?_
 refine Wk.rP 4 52 (.slice (some ⟨gm1, 0, none⟩) 1 nn4) rfl rfl ?_
 refine Wk.rQ 5 53 (.pointer (some ⟨gm1, 0, none⟩)) rfl rfl (Wk.index_sl 67 66 (.tmp 52) (.const (.int .i64 0)) rfl Tryd.underlying67 37 (by kernel_rfl) gm1 0 1 nn4 0 .i64 (by kernel_rfl) (by kernel_rfl) (by omega)) ?_
 refine Wk.rP 6 54 (.pointer (some ⟨gm1, 0, none⟩)) rfl rfl ?_
 refine Wk.rQ 7 55 (.int .u8 2) rfl rfl (Wk.load1 5 (.tmp 54) rfl (by kernel_rfl) ⟨gm1, 0, none⟩ (by kernel_rfl) (.int .u8 2) (Mur.msg_kind hrg1)) ?_
 refine Wk.rQ 8 56 (.bool false) rfl rfl (Wk.boolF (b := ((2 : Int) != (2 : Int))) (bne_eq_false_iff_eq.2 (by decide)) (by kernel_rfl)) ?_
 refine Wk.rP 9 57 (.bool false) rfl rfl ?_
 refine Wk.rP 10 58 (.bool false) rfl rfl ?_
 refine Wk.rP 11 59 (.slice (some ⟨gm1, 0, none⟩) 1 nn4) rfl rfl ?_
 refine Wk.rQ 12 60 (.pointer (some ⟨gm1, 0, none⟩)) rfl rfl (Wk.index_sl 67 66 (.tmp 59) (.const (.int .i64 0)) rfl Tryd.underlying67 37 (by kernel_rfl) gm1 0 1 nn4 0 .i64 (by kernel_rfl) (by kernel_rfl) (by omega)) ?_
 refine Wk.rP 13 61 (.pointer (some ⟨gm1, 35, none⟩)) rfl rfl ?_
 refine Wk.rQ 14 62 (.slice QA1 1 cq1) rfl rfl (Wk.load1 22 (.tmp 61) rfl (by kernel_rfl) ⟨gm1, 35, none⟩ (by kernel_rfl) (.slice QA1 1 cq1) (Mur.msg_items rfl hrg1)) ?_
 refine Wk.rP 15 63 (.int .i64 1) rfl rfl ?_
 refine Wk.rQ 16 64 (.bool false) rfl rfl (Wk.boolF (b := ((1 : Int) != (1 : Int))) (bne_eq_false_iff_eq.2 (by decide)) (by kernel_rfl)) ?_
 refine Wk.rP 17 65 (.bool false) rfl rfl ?_
 refine Wk.rP 18 66 (.bool false) rfl rfl ?_
 refine Wk.rP 19 67 (.slice AA4 0 nn8) rfl rfl ?_
 refine Wk.rP 20 68 (.int .i64 0) rfl rfl ?_
 refine Wk.rQ 21 69 (.bool false) rfl rfl (Wk.boolF (b := ((0 : Int) != (0 : Int))) (bne_eq_false_iff_eq.2 (by decide)) (by kernel_rfl)) ?_
 refine Wk.rP 22 70 (.bool false) rfl rfl ?_
 refine Wk.rEnd 23 rfl (Wk.nxt (wp_cond_false (by kernel_rfl) (wp_skip (Wk.nxt (wp_seq (Wk.reg ?_))))))
 refine Wk.rP 0 72 (.pointer (some ⟨W1.heap.size, 0, none⟩)) rfl rfl ?_
 refine Wk.rP 1 73 (.slice (some ⟨gm1, 0, none⟩) 1 nn4) rfl rfl ?_
 refine Wk.rQ 2 74 (.pointer (some ⟨gm1, 0, none⟩)) rfl rfl (Wk.index_sl 67 66 (.tmp 73) (.const (.int .i64 0)) rfl Tryd.underlying67 37 (by kernel_rfl) gm1 0 1 nn4 0 .i64 (by kernel_rfl) (by kernel_rfl) (by omega)) ?_
 refine Wk.rQ 3 75 (.agg ((Mur.msgC 2 PA1 np1 cp1 Mur.z32 0 QA1 1 cq1 false).toArray)) rfl rfl (Wk.loadR 66 (.tmp 74) rfl _ Tryd.underlying66 rfl gm1 0 (by kernel_rfl) (Mur.msgC 2 PA1 np1 cp1 Mur.z32 0 QA1 1 cq1 false) (by rw [Mur.msgC_length rfl]; kernel_rfl) hrg1) ?_
 refine Wk.rC 4 76 36 [.tmp 72, .tmp 75] #[24, 66] [.pointer (some ⟨W1.heap.size, 0, none⟩), .agg ((Mur.msgC 2 PA1 np1 cp1 Mur.z32 0 QA1 1 cq1 false).toArray)] rfl rfl rfl ?_
 have hD13 := Mur.SetF.chg hD12 ch8 (fun s hs => trivial)
 have kk8 := Wk.Chg.step kk7 ch8 trivial
 refine (Hear_any W1.heap.size ([]) W1.heap.size FF2 2 ([]) PA1 np1 cp1 Mur.z32 0 ([Mur.kA]) QA1 1 cq1 false W8 (HV.out.below (Wk.Chg.below0 kk8)) hD13 rfl hby1 hnp1 hsl1 (by omega) (by omega)).mono ?_
 rintro _ W10 ⟨AA6, nn11, nn12, AA7, nn13, nn14, rfl, ow8, ow9, ch9⟩
 have zz11 := ch9.size
 have hq22 : nn11 ≤ 9223372036854775807 := Nat.le_trans ow8.nc (Nat.le_trans ow8.cm (by unfold Go.maxLen; omega))
 have hq23 : nn13 ≤ 9223372036854775807 := Nat.le_trans ow9.nc (Nat.le_trans ow9.cm (by unfold Go.maxLen; omega))
 rw [Mur.hears3.1] at ow8
 rw [Mur.hears3.2] at ow9
 have hq24 := ow8.nc
 have hq25 := ow8.cm
 have hq26 := ow8.len
 have hq27 := ow9.nc
 have hq28 := ow9.cm
 have hq29 := ow9.sl.len
 have hnl3 : nn11 = 0 := ow8.len.symm
 subst hnl3
 have hnl4 : nn13 = 1 := ow9.sl.len.symm
 subst hnl4
 refine ⟨_, rfl, ?_⟩
 refine Wk.rP 5 71 (.tuple #[.slice AA6 0 nn12, .slice AA7 1 nn14]) rfl rfl ?_
 obtain ⟨gm2, rfl, _, _⟩ := ow9.ex (by omega)
 refine Wk.rP 6 77 (.slice AA6 0 nn12) rfl rfl ?_
 refine Wk.rP 7 78 (.slice (some ⟨gm2, 0, none⟩) 1 nn14) rfl rfl ?_
 refine Wk.rP 8 9 (.slice AA6 0 nn12) rfl rfl ?_
 refine Wk.rP 9 10 (.slice (some ⟨gm2, 0, none⟩) 1 nn14) rfl rfl ?_
 refine Wk.rEnd 10 rfl (Wk.nxt (wp_seq ?_))
 refine Wk.dReg ([]) (by kernel_rfl) ?_
 intro W11 ch10 sz2
 have zz12 := ch10.size
 have sS1 : Wk.Chg ([]) W11 W11 := (Wk.Chg.refl _).more (by simp)
 refine Wk.dV 0 79 (.slice AA6 0 nn12) rfl rfl (fun _ _ => by kernel_rfl) sS1 ?_
 refine Wk.dV 1 80 (.int .i64 0) rfl rfl (fun _ _ => by kernel_rfl) sS1 ?_
 refine Wk.dV 2 81 (.bool true) rfl rfl (fun w' hw' => (Wk.boolT (b := ((0 : Int) == (0 : Int))) (beq_iff_eq.2 (by decide)) (by kernel_rfl))) sS1 ?_
 refine Wk.dV 3 82 (.bool true) rfl rfl (fun _ _ => by kernel_rfl) sS1 ?_
 refine Wk.dV 4 83 (.slice (some ⟨gm2, 0, none⟩) 1 nn14) rfl rfl (fun _ _ => by kernel_rfl) sS1 ?_
 refine Wk.dV 5 84 (.int .i64 1) rfl rfl (fun _ _ => by kernel_rfl) sS1 ?_
 refine Wk.dV 6 85 (.bool true) rfl rfl (fun w' hw' => (Wk.boolT (b := ((1 : Int) == (1 : Int))) (beq_iff_eq.2 (by decide)) (by kernel_rfl))) sS1 ?_
 refine Wk.dV 7 86 (.bool true) rfl rfl (fun _ _ => by kernel_rfl) sS1 ?_
 refine Wk.dV 8 87 (.bool true) rfl rfl (fun _ _ => by kernel_rfl) sS1 ?_
 refine Wk.dV 9 88 (.slice (some ⟨gm2, 0, none⟩) 1 nn14) rfl rfl (fun _ _ => by kernel_rfl) sS1 ?_
 refine Wk.dV 10 89 (.pointer (some ⟨gm2, 0, none⟩)) rfl rfl (fun w' hw' => (Wk.index_sl 22 32 (.tmp 88) (.const (.int .i64 0)) rfl Tryd.underlying22 97 (by kernel_rfl) gm2 0 1 nn14 0 .i64 (by kernel_rfl) (by kernel_rfl) (by omega))) sS1 ?_
 refine Wk.dV 11 90 (.agg ((Mur.attC Mur.kA.k Mur.kA.r Mur.kA.n Mur.kA.t).toArray)) rfl rfl (fun w' hw' => (Wk.loadR 32 (.tmp 89) rfl _ Tryd.underlying32 rfl gm2 0 (by kernel_rfl) (Mur.attC Mur.kA.k Mur.kA.r Mur.kA.n Mur.kA.t) (by rw [Mur.attC_length Mur.kA.hk Mur.kA.hr Mur.kA.ht]; kernel_rfl) ((Mur.SlA.chg (Mur.SlA.chg ow9.sl ch10 (fun g off e hl => trivial)) hw' (fun g off e hl => trivial)).elem (show [Mur.kA][0]? = some Mur.kA from rfl)))) sS1 ?_
 refine Wk.dV 12 91 (.agg ((Mur.attC ([63, 0, 0, 0, 0, 0, 0, 0, 0, 0, 0, 0, 0, 0, 0, 0, 0, 0, 0, 0, 0, 0, 0, 0, 0, 0, 0, 0, 0, 0, 0, 0]) Mur.z32 1 Mur.z32).toArray)) rfl rfl (fun w' hw' => (Mur.loadArr 32 (.tmp 3) rfl _ Tryd.underlying32 rfl W2.heap.size (by kernel_rfl) (Mur.attC ([63, 0, 0, 0, 0, 0, 0, 0, 0, 0, 0, 0, 0, 0, 0, 0, 0, 0, 0, 0, 0, 0, 0, 0, 0, 0, 0, 0, 0, 0, 0, 0]) Mur.z32 1 Mur.z32).toArray 97 (Mur.attC_size rfl rfl rfl) (by kernel_rfl) 32 (0, 0) (Wk.Chg.hp hw' (Wk.Chg.hp ch10 (Wk.Chg.hp ch9 (Wk.Chg.hp ch8 (Wk.Chg.hp ch7 (Wk.Chg.hp ch6 (Wk.Chg.hp ch5 hb2 (Mur.off_iff.2 (fun t ht => by have := hM1 t ht; omega))) trivial) trivial) trivial) trivial) trivial) trivial))) sS1 ?_
 refine Wk.dV 13 92 (.bool true) rfl rfl (fun w' hw' => (Wk.boolT (b := decide (Mur.kA.k = ([63, 0, 0, 0, 0, 0, 0, 0, 0, 0, 0, 0, 0, 0, 0, 0, 0, 0, 0, 0, 0, 0, 0, 0, 0, 0, 0, 0, 0, 0, 0, 0]) ∧ Mur.kA.r = Mur.z32 ∧ Mur.kA.n = 1 ∧ Mur.kA.t = Mur.z32)) (decide_eq_true (⟨rfl, rfl, rfl, rfl⟩)) (run_eql_att (.tmp 90) (.tmp 91) 32 rfl Mur.kA.hk Mur.kA.hr Mur.kA.ht rfl rfl rfl Mur.kA.hn (by decide) (by kernel_rfl) (by kernel_rfl)))) sS1 ?_
 refine Wk.dV 14 93 (.bool true) rfl rfl (fun _ _ => by kernel_rfl) sS1 ?_
 refine Wk.dV 15 0 (.bool true) rfl rfl (fun _ _ => by kernel_rfl) sS1 ?_
 refine Wk.dEnd (by kernel_rfl) (Wk.nxt (wp_ret ?_))
 have kk9 := Wk.Chg.step kk8 ch9 trivial
 have kk10 := Wk.Chg.step kk9 ch10 trivial
 refine Wk.ret (.bool true) rfl (by kernel_rfl) ?_
 exact ⟨rfl, kk10⟩
end Go.Proofs.YtfhneademopciaaDoor
namespace Go.Proofs.YtfhneademopciaaDoor
open Go.RowKit
open Mur (b8s Byt Own8 Seg Segs flat cutA attC Att SlA OwnA rowA msgC)
open Mur (u32s)
set_option maxRecDepth 100000
set_option maxHeartbeats 4000000
def ShnG_F1 (b : Array Value) (u0 : Value) (u1 : Value) (u2 : Value) (u3 : Value) (u11 : Value) : Act := ⟨#[u0, u1, u2, u3, b.getD 4 undef, b.getD 5 undef, b.getD 6 undef, b.getD 7 undef, b.getD 8 undef, b.getD 9 undef, b.getD 10 undef, u11, b.getD 12 undef, b.getD 13 undef, b.getD 14 undef, b.getD 15 undef, b.getD 16 undef, b.getD 17 undef, b.getD 18 undef, b.getD 19 undef, b.getD 20 undef, b.getD 21 undef, b.getD 22 undef, b.getD 23 undef, b.getD 24 undef, b.getD 25 undef, b.getD 26 undef, b.getD 27 undef, b.getD 28 undef, b.getD 29 undef, b.getD 30 undef, b.getD 31 undef, b.getD 32 undef, b.getD 33 undef, b.getD 34 undef, b.getD 35 undef, b.getD 36 undef, b.getD 37 undef, b.getD 38 undef, b.getD 39 undef, b.getD 40 undef, b.getD 41 undef, b.getD 42 undef, b.getD 43 undef, b.getD 44 undef, b.getD 45 undef, b.getD 46 undef, b.getD 47 undef, b.getD 48 undef, b.getD 49 undef, b.getD 50 undef, b.getD 51 undef, b.getD 52 undef, b.getD 53 undef, b.getD 54 undef], []⟩
def ShnG_F2 (b : Array Value) (u0 : Value) (u1 : Value) (u2 : Value) (u3 : Value) (u11 : Value) : Act := ⟨#[u0, u1, u2, u3, b.getD 4 undef, b.getD 5 undef, b.getD 6 undef, b.getD 7 undef, b.getD 8 undef, b.getD 9 undef, b.getD 10 undef, u11, b.getD 12 undef, b.getD 13 undef, b.getD 14 undef, b.getD 15 undef, b.getD 16 undef, b.getD 17 undef, b.getD 18 undef, b.getD 19 undef, b.getD 20 undef, b.getD 21 undef, b.getD 22 undef, b.getD 23 undef, b.getD 24 undef, b.getD 25 undef, b.getD 26 undef, b.getD 27 undef, b.getD 28 undef, b.getD 29 undef, b.getD 30 undef, b.getD 31 undef, b.getD 32 undef, b.getD 33 undef, b.getD 34 undef, b.getD 35 undef, b.getD 36 undef, b.getD 37 undef, b.getD 38 undef, b.getD 39 undef, b.getD 40 undef, b.getD 41 undef, b.getD 42 undef, b.getD 43 undef, b.getD 44 undef, b.getD 45 undef, b.getD 46 undef, b.getD 47 undef, b.getD 48 undef, b.getD 49 undef, b.getD 50 undef, b.getD 51 undef, b.getD 52 undef, b.getD 53 undef, b.getD 54 undef], []⟩
theorem Shown_any (hc kc : Array Value) (Hh : Hid (hc = stCells Mur.H0)) (Hk : Hid (kc = Mur.u32s Mur.K)) (g : Nat) (A : Option Addr) (n c : Nat) (L0 : List Att) (B : Option Addr) (m dd : Nat) (L1 : List Att) (hn : n ≤ 200) (hm : m ≤ 200) : ∀ (d : Nat) (p : List UInt8) (PA : Option Addr) (pn pc : Nat) (w : World), p.length + d = 8 → Mur.isPre p = true → w.heap[g]? = some (.cells (hc ++ kc) 97 (0, 0)) → SlA w A n L0 → SlA w B m L1 → Byt w PA pn p → (PA = none → pc = 0) → Calls Tryd.prog 35 #[.pointer (some ⟨g, 0, none⟩), .slice A n c, .slice B m dd, .slice PA pn pc] w fun e w' => ∃ r, e = .returned (.bool r) ∧ (Mur.BadP p L0 L1 → r = true) ∧ Wk.Chg [] w w' := by
 intro d
 induction d using Nat.strongRecOn with
 | _ d ih =>
  intro p PA pn pc w hpd hp hg hA_ hB_ hb hnil
  have hpl_ := hb.1
  have hAl_ := hA_.len
  have hBl_ := hB_.len
  have hgl_ := (Array.getElem?_eq_some_iff.1 hg).1
  have hcs := hc_size Hh.out
  have kcs := kc_size Hk.out
  refine calls_of_wp Tryd.func35 rfl ?_
  refine wp_seq (Wk.reg ?_)
  refine Wk.rP 0 8 (.bool false) rfl rfl ?_
  refine Wk.rEnd 1 rfl (Wk.nxt (wp_seq (Wk.reg ?_)))
  refine Wk.rP 0 12 (.slice A n c) rfl rfl ?_
  refine Wk.rP 1 13 (.slice PA pn pc) rfl rfl ?_
  refine Wk.rC 2 14 29 [.tmp 12, .tmp 13] #[50, 38] [.slice A n c, .slice PA pn pc] rfl rfl rfl ?_
  refine (Rbelow_any A n c L0 p PA pn pc w hA_ hb (by omega) (by omega)).mono ?_
  rintro _ W1 ⟨AA1, nn1, nn2, rfl, ow1, ch1⟩
  have zz1 := ch1.size
  have hq1 := ow1.nc
  have hq2 := ow1.cm
  have hq3 := ow1.sl.len
  have hq4 := Mur.belowL_len p L0
  refine ⟨_, rfl, ?_⟩
  refine Wk.rP 3 15 (.slice B m dd) rfl rfl ?_
  refine Wk.rP 4 16 (.slice PA pn pc) rfl rfl ?_
  refine Wk.rC 5 17 29 [.tmp 15, .tmp 16] #[50, 38] [.slice B m dd, .slice PA pn pc] rfl rfl rfl ?_
  have kk1 : Wk.Chg [] w W1 := Wk.Chg.step ((Wk.Chg.refl _).more (by simp)) ch1 trivial
  refine (Rbelow_any B m dd L1 p PA pn pc W1 (Mur.SlA.chg hB_ kk1 (fun g off e hl => trivial)) (Mur.byt_chg hb kk1 (fun g off e hl => trivial)) (by omega) (by omega)).mono ?_
  rintro _ W2 ⟨AA2, nn3, nn4, rfl, ow2, ch2⟩
  have zz2 := ch2.size
  have hq5 := ow2.nc
  have hq6 := ow2.cm
  have hq7 := ow2.sl.len
  have hq8 := Mur.belowL_len p L1
  refine ⟨_, rfl, ?_⟩
  refine Wk.rP 6 9 (.slice AA1 nn1 nn2) rfl rfl ?_
  refine Wk.rP 7 10 (.slice AA2 nn3 nn4) rfl rfl ?_
  refine Wk.rEnd 8 rfl (Wk.nxt (wp_seq (wp_seq (Wk.reg ?_))))
  refine Wk.rP 0 18 (.slice AA1 nn1 nn2) rfl rfl ?_
  refine Wk.rP 1 19 (.slice AA2 nn3 nn4) rfl rfl ?_
  refine Wk.rC 2 20 17 [.tmp 18, .tmp 19] #[22, 22] [.slice AA1 nn1 nn2, .slice AA2 nn3 nn4] rfl rfl rfl ?_
  have ow3 := Mur.OwnA.chg ow1 ch2 (fun q e _ _ => trivial)
  refine (Same20_any AA1 nn1 nn2 (Mur.belowL p L0) AA2 nn3 nn4 (Mur.belowL p L1) W2 ow3.sl ow2.sl (by omega)).mono ?_
  by_cases hsa1 : (Mur.belowL p L0) = (Mur.belowL p L1)
  ·rw [decide_eq_true (hsa1 : (Mur.belowL p L0) = (Mur.belowL p L1))]
   rintro _ W3 ⟨rfl, ch3⟩
   have zz3 := ch3.size
   refine ⟨_, rfl, ?_⟩
   refine Wk.rEnd 3 rfl (Wk.nxt (wp_cond_true (by kernel_rfl) (wp_seq (Wk.reg ?_))))
   refine Wk.rP 0 8 (.bool false) rfl rfl ?_
   refine Wk.rEnd 1 rfl (Wk.nxt (wp_ret (Wk.thR ?_)))
   have kk2 := Wk.Chg.step kk1 ch2 trivial
   have kk3 := Wk.Chg.step kk2 ch3 trivial
   refine Wk.ret (.bool false) rfl (by kernel_rfl) ?_
   exact ⟨_, rfl, fun h_ => absurd h_ (Mur.badP_same hp hsa1), kk3⟩
  ·rw [decide_eq_false (hsa1 : ¬ ((Mur.belowL p L0) = (Mur.belowL p L1)))]
   rintro _ W3 ⟨rfl, ch3⟩
   have zz4 := ch3.size
   refine ⟨_, rfl, ?_⟩
   refine Wk.rEnd 3 rfl (Wk.nxt (wp_cond_false (by kernel_rfl) (wp_skip (Wk.nxt (wp_seq (wp_seq (Wk.reg ?_)))))))
   refine Wk.rP 0 21 (.slice AA1 nn1 nn2) rfl rfl ?_
   refine Wk.rP 1 22 (.int .i64 ((nn1 : Nat) : Int)) rfl rfl ?_
   refine Wk.rP 2 23 (.slice AA2 nn3 nn4) rfl rfl ?_
   refine Wk.rP 3 24 (.int .i64 ((nn3 : Nat) : Int)) rfl rfl ?_
   by_cases hlx : (Mur.belowL p L0).length = (Mur.belowL p L1).length
   ·refine Wk.rQ 4 25 (.bool true) rfl rfl (Wk.boolT (b := (((nn1 : Nat) : Int) == ((nn3 : Nat) : Int))) (beq_iff_eq.2 (by omega)) (by kernel_rfl)) ?_
    refine Wk.rP 5 26 (.bool true) rfl rfl ?_
    refine Wk.rP 6 27 (.pointer (some ⟨g, 0, none⟩)) rfl rfl ?_
    refine Wk.rP 7 28 (.slice AA1 nn1 nn2) rfl rfl ?_
    refine Wk.rC 8 29 21 [.tmp 28] #[22] [.slice AA1 nn1 nn2] rfl rfl rfl ?_
    have ow4 := Mur.OwnA.chg ow3 ch3 (fun q e _ _ => trivial)
    refine (Row_any AA1 nn1 nn2 (Mur.belowL p L0) W3 ow4.sl (by omega)).mono ?_
    rintro _ W4 ⟨AA3, nn5, nn6, rfl, ow5, ch4⟩
    have zz5 := ch4.size
    have hrl1 := ow5.byt.1
    rw [Mur.rowL_length] at hrl1
    have hq9 := ow5.nc
    have hq10 := ow5.cm
    refine ⟨_, rfl, ?_⟩
    refine Wk.rC 9 30 22 [.tmp 27, .tmp 29] #[41, 38] [.pointer (some ⟨g, 0, none⟩), .slice AA3 nn5 nn6] rfl rfl rfl ?_
    have kk4 := Wk.Chg.step kk1 ch2 trivial
    have kk5 := Wk.Chg.step kk4 ch3 trivial
    have kk6 := Wk.Chg.step kk5 ch4 trivial
    refine (Hsum_any hc kc Hh Hk g (Mur.rowL (Mur.belowL p L0)) AA3 nn5 nn6 W4 (Wk.Chg.hp kk6 hg trivial) ow5.byt (by omega) ow5.nil (by omega)).mono ?_
    rintro _ W5 ⟨dd1, hd1, hdl1, rfl, ch5⟩
    have zz6 := ch5.size
    refine ⟨_, rfl, ?_⟩
    refine Wk.rP 10 31 (.pointer (some ⟨g, 0, none⟩)) rfl rfl ?_
    refine Wk.rP 11 32 (.slice AA2 nn3 nn4) rfl rfl ?_
    refine Wk.rC 12 33 21 [.tmp 32] #[22] [.slice AA2 nn3 nn4] rfl rfl rfl ?_
    have ow6 := Mur.OwnA.chg ow2 ch3 (fun q e _ _ => trivial)
    have ow7 := Mur.OwnA.chg ow6 ch4 (fun q e _ _ => trivial)
    have ow8 := Mur.OwnA.chg ow7 ch5 (fun q e _ _ => trivial)
    refine (Row_any AA2 nn3 nn4 (Mur.belowL p L1) W5 ow8.sl (by omega)).mono ?_
    rintro _ W6 ⟨AA4, nn7, nn8, rfl, ow9, ch6⟩
    have zz7 := ch6.size
    have hrl2 := ow9.byt.1
    rw [Mur.rowL_length] at hrl2
    have hq11 := ow9.nc
    have hq12 := ow9.cm
    refine ⟨_, rfl, ?_⟩
    refine Wk.rC 13 34 22 [.tmp 31, .tmp 33] #[41, 38] [.pointer (some ⟨g, 0, none⟩), .slice AA4 nn7 nn8] rfl rfl rfl ?_
    have kk7 := Wk.Chg.step kk6 ch5 trivial
    have kk8 := Wk.Chg.step kk7 ch6 trivial
    refine (Hsum_any hc kc Hh Hk g (Mur.rowL (Mur.belowL p L1)) AA4 nn7 nn8 W6 (Wk.Chg.hp kk8 hg trivial) ow9.byt (by omega) ow9.nil (by omega)).mono ?_
    rintro _ W7 ⟨dd2, hd2, hdl2, rfl, ch7⟩
    have zz8 := ch7.size
    refine ⟨_, rfl, ?_⟩
    have he1_ := hd1.out
    have he2_ := hd2.out
    by_cases hds : dd1 = dd2
    ·refine Wk.rQ 14 35 (.bool true) rfl rfl (Mur.run_eql_yes digT dd1 dd2 hdl1 hdl2 hds _ (.tmp 30) (.tmp 34) 30 rfl (by kernel_rfl) (by kernel_rfl)) ?_
     refine Wk.rP 15 36 (.bool true) rfl rfl ?_
     refine Wk.rEnd 16 rfl (Wk.nxt (wp_cond_true (by kernel_rfl) (wp_seq (Wk.reg ?_))))
     refine Wk.rP 0 8 (.bool true) rfl rfl ?_
     refine Wk.rEnd 1 rfl (Wk.nxt (wp_ret (Wk.thR ?_)))
     have kk9 := Wk.Chg.step kk8 ch7 trivial
     refine Wk.ret (.bool true) rfl (by kernel_rfl) ?_
     exact ⟨_, rfl, fun _ => rfl, kk9⟩
    ·have hnb_ : ¬ (Mur.cntL p L0 = Mur.cntL p L1 ∧ Mur.sumL p L0 = Mur.sumL p L1) := fun h_ => hds (by rw [he1_, he2_, ← Mur.sumL_ok hp, ← Mur.sumL_ok hp]; exact h_.2)
     refine Wk.rQ 14 35 (.bool false) rfl rfl (Mur.run_eql_no digT dd1 dd2 hdl1 hdl2 hds _ (.tmp 30) (.tmp 34) 30 rfl (by kernel_rfl) (by kernel_rfl)) ?_
     refine Wk.rP 15 36 (.bool false) rfl rfl ?_
     refine Wk.rEnd 16 rfl (Wk.nxt (wp_cond_false (by kernel_rfl) (wp_skip (Wk.nxt (wp_seq (wp_seq (Wk.reg ?_)))))))
     refine Wk.rP 0 37 (.slice PA pn pc) rfl rfl ?_
     refine Wk.rP 1 38 (.int .i64 ((pn : Nat) : Int)) rfl rfl ?_
     by_cases hx1 : ((pn : Nat) : Int) = (8 : Int)
     ·refine Wk.rQ 2 39 (.bool true) rfl rfl (Wk.boolT (b := (((pn : Nat) : Int) == (8 : Int))) (beq_iff_eq.2 (by first | exact hx1 | omega)) (by kernel_rfl)) ?_
      refine Wk.rEnd 3 rfl (Wk.nxt (wp_cond_true (by kernel_rfl) (wp_seq (Wk.reg ?_))))
      refine Wk.rP 0 8 (.bool false) rfl rfl ?_
      refine Wk.rEnd 1 rfl (Wk.nxt (wp_ret (Wk.thR ?_)))
      have kk10 := Wk.Chg.step kk8 ch7 trivial
      refine Wk.ret (.bool false) rfl (by kernel_rfl) ?_
      exact ⟨_, rfl, fun h_ => absurd h_ (Mur.badP_no hnb_ fun k_ => by omega), kk10⟩
     ·refine Wk.rQ 2 39 (.bool false) rfl rfl (Wk.boolF (b := (((pn : Nat) : Int) == (8 : Int))) (beq_eq_false_iff_ne.2 (by first | exact hx1 | omega)) (by kernel_rfl)) ?_
      refine Wk.rEnd 3 rfl (Wk.nxt (wp_cond_false (by kernel_rfl) (wp_skip (Wk.nxt (wp_seq (wp_seq (Wk.reg ?_)))))))
      refine Wk.rP 0 11 (.int .i64 0) rfl rfl ?_
      refine Wk.rEnd 1 rfl (Wk.nxt (wp_block ?_))
      refine Wk.loop (fun m_ a wr => ∃ (i : Nat), m_ = 16 - i ∧ a = ShnG_F1 a.tmps (.pointer (some ⟨g, 0, none⟩)) (.slice A n c) (.slice B m dd) (.slice PA pn pc) (.int .i64 ((i : Nat) : Int)) ∧ i ≤ 16 ∧ (∀ u : UInt8, u.toNat < i → ¬ Mur.BadP (p ++ [u]) L0 L1) ∧ Wk.Chg [] w wr) (16 - 0) ?_ ?_
      ·have kk11 := Wk.Chg.step kk8 ch7 trivial
       refine ⟨0, rfl, by kernel_rfl, Nat.zero_le _, (fun u_ h_ => by omega), kk11⟩
      ·rintro mm1 aa1 W8 ⟨i, hmm1, hF1, hi, hno, HB⟩
       generalize aa1.tmps = bb1 at hF1
       subst hF1
       have hzB := HB.size
       by_cases hlt : i < 16
       ·obtain ⟨u, rfl⟩ : ∃ u : UInt8, u.toNat = i := ⟨UInt8.ofNat i, by simp; omega⟩
        have hul := u.toNat_lt
        refine wp_seq (wp_seq (Wk.reg ?_))
        refine Wk.rP 0 40 (.int .i64 ((u.toNat : Nat) : Int)) rfl rfl ?_
        refine Wk.rQ 1 41 (.bool true) rfl rfl (Wk.boolT (b := decide (((u.toNat : Nat) : Int) < (16 : Int))) (decide_eq_true (by omega)) (by kernel_rfl)) ?_
        refine Wk.rEnd 2 rfl (Wk.nxt (wp_cond_true (by kernel_rfl) (wp_skip (Wk.nxt (wp_seq (wp_block (wp_seq (Wk.reg ?_))))))))
        refine Wk.rP 0 44 (.pointer (some ⟨g, 0, none⟩)) rfl rfl ?_
        refine Wk.rP 1 45 (.slice A n c) rfl rfl ?_
        refine Wk.rP 2 46 (.slice B m dd) rfl rfl ?_
        refine Wk.rEx 3 (some 47) _ rfl rfl (by kernel_rfl) (Wk.new_ex (.slice (some ⟨W8.heap.size, 0, none⟩) 0 0) #[] 5 (by kernel_rfl)) ?_
        rintro _ W10 ⟨rfl, hb1, ch8, sz1⟩
        have zz9 := ch8.size
        refine Wk.rP 4 48 (.slice PA pn pc) rfl rfl ?_
        have ow10 := Mur.own8_empty hb1 (Nat.le_refl _)
        have kk12 := Wk.Chg.step HB ch8 trivial
        refine Wk.rEx 5 (some 49) _ rfl rfl (by kernel_rfl) (Mur.append8 (.tmp 47) (.tmp 48) 38 5 rfl Tryd.underlying38 (by kernel_rfl) W8.heap.size (some ⟨W8.heap.size, 0, none⟩) 0 0 ([]) PA pn pc p (by kernel_rfl) (by kernel_rfl) ow10.own (Mur.byt_chg hb kk12 (fun g off e hl => trivial)) hnil (by omega) (by omega) pn (by omega) p rfl) ?_
        rintro _ W11 ⟨AA5, nn9, rfl, ow11, ch9, ha1⟩
        have zz10 := ch9.size
        have hq13 := ow11.nc
        have hq14 := ow11.cm
        refine Wk.rP 6 50 (.int .i64 ((u.toNat : Nat) : Int)) rfl rfl ?_
        refine Wk.rQ 7 51 (.int .u8 ((u.toNat : Nat) : Int)) rfl rfl (Mur.conv_int 3 5 (.tmp 50) rfl (by kernel_rfl) .u8 Tryd.underlying5 .i64 _ (by kernel_rfl) (show ((u.toNat : Nat) : Int) % 256 = _ by omega)) ?_
        refine Wk.rEx 8 (some 52) _ rfl rfl (by kernel_rfl) (Wk.new_ex (.slice (some ⟨W11.heap.size, 0, none⟩) 1 1) #[.int .u8 ((u.toNat : Nat) : Int)] 5 (by kernel_rfl)) ?_
        rintro _ W12 ⟨rfl, hb2, ch10, sz2⟩
        have zz11 := ch10.size
        have ow12 := Mur.own8 (Wk.own_chg ow11.own ch10 (fun q e _ _ => trivial))
        refine Wk.rEx 9 (some 53) _ rfl rfl (by kernel_rfl) (Mur.append8 (.tmp 49) (.tmp 52) 38 5 rfl Tryd.underlying38 (by kernel_rfl) W8.heap.size AA5 pn nn9 p (some ⟨W11.heap.size, 0, none⟩) 1 1 ([u]) (by kernel_rfl) (by kernel_rfl) ow12.own (Mur.byt_row [u] hb2) (fun h => by cases h) (by omega) (by omega) (pn + 1) (by omega) (p ++ ([u])) rfl) ?_
        rintro _ W13 ⟨AA6, nn10, rfl, ow13, ch11, ha2⟩
        have zz12 := ch11.size
        have hq15 := ow13.nc
        have hq16 := ow13.cm
        refine Wk.rC 10 54 35 [.tmp 44, .tmp 45, .tmp 46, .tmp 53] #[41, 50, 50, 38] [.pointer (some ⟨g, 0, none⟩), .slice A n c, .slice B m dd, .slice AA6 (pn + 1) nn10] rfl rfl rfl ?_
        have kk13 := Wk.Chg.step kk12 ch9 (Wk.newOr_blk (fun g hg => by have := ow10.lt g hg; omega))
        have kk14 := Wk.Chg.step kk13 ch10 trivial
        have kk15 := Wk.Chg.step kk14 ch11 (Wk.newOr_blk (fun g hg => by have := ow11.lt g hg; omega))
        refine (ih (d - 1) (by omega) (p ++ ([u])) AA6 (pn + 1) nn10 W13 (by rw [List.length_append, List.length_singleton]; omega) (Mur.pre_snoc hp (by omega) (by omega)) (Wk.Chg.hp kk15 hg trivial) (Mur.SlA.chg hA_ kk15 (fun g off e hl => trivial)) (Mur.SlA.chg hB_ kk15 (fun g off e hl => trivial)) ow13.byt ow13.nil).mono ?_
        rintro _ W14 ⟨rs1, rfl, hrs1, ch12⟩
        have zz13 := ch12.size
        cases rs1
        ·refine ⟨_, rfl, ?_⟩
         refine Wk.rEnd 11 rfl (Wk.nxt (wp_cond_false (by kernel_rfl) (wp_skip (Wk.inN (Wk.nxt (Wk.reg ?_))))))
         refine Wk.rP 0 42 (.int .i64 ((u.toNat : Nat) : Int)) rfl rfl ?_
         refine Wk.rQ 1 43 (.int .i64 ((u.toNat + 1 : Nat) : Int)) rfl rfl (Wk.int64 (n := ((u.toNat : Nat) : Int) + 1) (z := ((u.toNat + 1 : Nat) : Int)) (by omega) (by omega) (by omega) (by kernel_rfl)) ?_
         refine Wk.rP 2 11 (.int .i64 ((u.toNat + 1 : Nat) : Int)) rfl rfl ?_
         refine Wk.rEnd 3 rfl (Wk.nxt ?_)
         have kk16 := Wk.Chg.step kk15 ch12 trivial
         refine ⟨_, ?_, u.toNat + 1, rfl, by kernel_rfl, (by omega), (fun v_ h_ => by rcases Mur.u8_lt_succ h_ with h1_ | h1_ <;> first | exact hno v_ h1_ | (subst h1_; exact fun h2_ => absurd (hrs1 h2_) (by decide))), kk16⟩
         ·omega
        ·refine ⟨_, rfl, ?_⟩
         refine Wk.rEnd 11 rfl (Wk.nxt (wp_cond_true (by kernel_rfl) (wp_seq (Wk.reg ?_))))
         refine Wk.rP 0 8 (.bool true) rfl rfl ?_
         refine Wk.rEnd 1 rfl (Wk.nxt (wp_ret (Wk.inR (Wk.thR (Wk.thR (Wk.inR (Wk.thR ?_)))))))
         have kk17 := Wk.Chg.step kk15 ch12 trivial
         refine Wk.ret (.bool true) rfl (by kernel_rfl) ?_
         exact ⟨_, rfl, fun _ => rfl, kk17⟩
       ·refine wp_seq (wp_seq (Wk.reg ?_))
        refine Wk.rP 0 40 (.int .i64 ((i : Nat) : Int)) rfl rfl ?_
        refine Wk.rQ 1 41 (.bool false) rfl rfl (Wk.boolF (b := decide (((i : Nat) : Int) < (16 : Int))) (decide_eq_false (by omega)) (by kernel_rfl)) ?_
        refine Wk.rEnd 2 rfl (Wk.nxt (wp_cond_false (by kernel_rfl) (wp_exit (Wk.thX (Wk.thX (Wk.inX (Wk.nxt (wp_seq (Wk.reg ?_)))))))))
        refine Wk.rP 0 8 (.bool false) rfl rfl ?_
        refine Wk.rEnd 1 rfl (Wk.nxt (wp_ret ?_))
        refine Wk.ret (.bool false) rfl (by kernel_rfl) ?_
        exact ⟨_, rfl, fun h_ => absurd h_ (Mur.badP_no hnb_ fun _ u_ hu_ => hno u_ (by omega)), HB⟩
   ·have hnb_ : ¬ (Mur.cntL p L0 = Mur.cntL p L1 ∧ Mur.sumL p L0 = Mur.sumL p L1) := fun h_ => hlx h_.1
    refine Wk.rQ 4 25 (.bool false) rfl rfl (Wk.boolF (b := (((nn1 : Nat) : Int) == ((nn3 : Nat) : Int))) (beq_eq_false_iff_ne.2 (by omega)) (by kernel_rfl)) ?_
    refine Wk.rP 5 26 (.bool false) rfl rfl ?_
    refine Wk.rPass 6 (some 27) rfl rfl (by kernel_rfl) ?_
    refine Wk.rPass 7 (some 28) rfl rfl (by kernel_rfl) ?_
    refine Wk.rPass 8 (some 29) rfl rfl (by kernel_rfl) ?_
    refine Wk.rPass 9 (some 30) rfl rfl (by kernel_rfl) ?_
    refine Wk.rPass 10 (some 31) rfl rfl (by kernel_rfl) ?_
    refine Wk.rPass 11 (some 32) rfl rfl (by kernel_rfl) ?_
    refine Wk.rPass 12 (some 33) rfl rfl (by kernel_rfl) ?_
    refine Wk.rPass 13 (some 34) rfl rfl (by kernel_rfl) ?_
    refine Wk.rPass 14 (some 35) rfl rfl (by kernel_rfl) ?_
    refine Wk.rP 15 36 (.bool false) rfl rfl ?_
    refine Wk.rEnd 16 rfl (Wk.nxt (wp_cond_false (by kernel_rfl) (wp_skip (Wk.nxt (wp_seq (wp_seq (Wk.reg ?_)))))))
    refine Wk.rP 0 37 (.slice PA pn pc) rfl rfl ?_
    refine Wk.rP 1 38 (.int .i64 ((pn : Nat) : Int)) rfl rfl ?_
    by_cases hx2 : ((pn : Nat) : Int) = (8 : Int)
    ·refine Wk.rQ 2 39 (.bool true) rfl rfl (Wk.boolT (b := (((pn : Nat) : Int) == (8 : Int))) (beq_iff_eq.2 (by first | exact hx2 | omega)) (by kernel_rfl)) ?_
     refine Wk.rEnd 3 rfl (Wk.nxt (wp_cond_true (by kernel_rfl) (wp_seq (Wk.reg ?_))))
     refine Wk.rP 0 8 (.bool false) rfl rfl ?_
     refine Wk.rEnd 1 rfl (Wk.nxt (wp_ret (Wk.thR ?_)))
     have kk18 := Wk.Chg.step kk1 ch2 trivial
     have kk19 := Wk.Chg.step kk18 ch3 trivial
     refine Wk.ret (.bool false) rfl (by kernel_rfl) ?_
     exact ⟨_, rfl, fun h_ => absurd h_ (Mur.badP_no hnb_ fun k_ => by omega), kk19⟩
    ·refine Wk.rQ 2 39 (.bool false) rfl rfl (Wk.boolF (b := (((pn : Nat) : Int) == (8 : Int))) (beq_eq_false_iff_ne.2 (by first | exact hx2 | omega)) (by kernel_rfl)) ?_
     refine Wk.rEnd 3 rfl (Wk.nxt (wp_cond_false (by kernel_rfl) (wp_skip (Wk.nxt (wp_seq (wp_seq (Wk.reg ?_)))))))
     refine Wk.rP 0 11 (.int .i64 0) rfl rfl ?_
     refine Wk.rEnd 1 rfl (Wk.nxt (wp_block ?_))
     refine Wk.loop (fun m_ a wr => ∃ (i : Nat), m_ = 16 - i ∧ a = ShnG_F2 a.tmps (.pointer (some ⟨g, 0, none⟩)) (.slice A n c) (.slice B m dd) (.slice PA pn pc) (.int .i64 ((i : Nat) : Int)) ∧ i ≤ 16 ∧ (∀ u : UInt8, u.toNat < i → ¬ Mur.BadP (p ++ [u]) L0 L1) ∧ Wk.Chg [] w wr) (16 - 0) ?_ ?_
     ·have kk20 := Wk.Chg.step kk1 ch2 trivial
      have kk21 := Wk.Chg.step kk20 ch3 trivial
      refine ⟨0, rfl, by kernel_rfl, Nat.zero_le _, (fun u_ h_ => by omega), kk21⟩
     ·rintro mm2 aa2 W15 ⟨i, hmm2, hF2, hi, hno, HB⟩
      generalize aa2.tmps = bb2 at hF2
      subst hF2
      have hzB := HB.size
      by_cases hlt : i < 16
      ·obtain ⟨u, rfl⟩ : ∃ u : UInt8, u.toNat = i := ⟨UInt8.ofNat i, by simp; omega⟩
       have hul := u.toNat_lt
       refine wp_seq (wp_seq (Wk.reg ?_))
       refine Wk.rP 0 40 (.int .i64 ((u.toNat : Nat) : Int)) rfl rfl ?_
       refine Wk.rQ 1 41 (.bool true) rfl rfl (Wk.boolT (b := decide (((u.toNat : Nat) : Int) < (16 : Int))) (decide_eq_true (by omega)) (by kernel_rfl)) ?_
       refine Wk.rEnd 2 rfl (Wk.nxt (wp_cond_true (by kernel_rfl) (wp_skip (Wk.nxt (wp_seq (wp_block (wp_seq (Wk.reg ?_))))))))
       refine Wk.rP 0 44 (.pointer (some ⟨g, 0, none⟩)) rfl rfl ?_
       refine Wk.rP 1 45 (.slice A n c) rfl rfl ?_
       refine Wk.rP 2 46 (.slice B m dd) rfl rfl ?_
       refine Wk.rEx 3 (some 47) _ rfl rfl (by kernel_rfl) (Wk.new_ex (.slice (some ⟨W15.heap.size, 0, none⟩) 0 0) #[] 5 (by kernel_rfl)) ?_
       rintro _ W16 ⟨rfl, hb3, ch13, sz3⟩
       have zz14 := ch13.size
       refine Wk.rP 4 48 (.slice PA pn pc) rfl rfl ?_
       have ow14 := Mur.own8_empty hb3 (Nat.le_refl _)
       have kk22 := Wk.Chg.step HB ch13 trivial
       refine Wk.rEx 5 (some 49) _ rfl rfl (by kernel_rfl) (Mur.append8 (.tmp 47) (.tmp 48) 38 5 rfl Tryd.underlying38 (by kernel_rfl) W15.heap.size (some ⟨W15.heap.size, 0, none⟩) 0 0 ([]) PA pn pc p (by kernel_rfl) (by kernel_rfl) ow14.own (Mur.byt_chg hb kk22 (fun g off e hl => trivial)) hnil (by omega) (by omega) pn (by omega) p rfl) ?_
       rintro _ W17 ⟨AA7, nn11, rfl, ow15, ch14, ha3⟩
       have zz15 := ch14.size
       have hq17 := ow15.nc
       have hq18 := ow15.cm
       refine Wk.rP 6 50 (.int .i64 ((u.toNat : Nat) : Int)) rfl rfl ?_
       refine Wk.rQ 7 51 (.int .u8 ((u.toNat : Nat) : Int)) rfl rfl (Mur.conv_int 3 5 (.tmp 50) rfl (by kernel_rfl) .u8 Tryd.underlying5 .i64 _ (by kernel_rfl) (show ((u.toNat : Nat) : Int) % 256 = _ by omega)) ?_
       refine Wk.rEx 8 (some 52) _ rfl rfl (by kernel_rfl) (Wk.new_ex (.slice (some ⟨W17.heap.size, 0, none⟩) 1 1) #[.int .u8 ((u.toNat : Nat) : Int)] 5 (by kernel_rfl)) ?_
       rintro _ W18 ⟨rfl, hb4, ch15, sz4⟩
       have zz16 := ch15.size
       have ow16 := Mur.own8 (Wk.own_chg ow15.own ch15 (fun q e _ _ => trivial))
       refine Wk.rEx 9 (some 53) _ rfl rfl (by kernel_rfl) (Mur.append8 (.tmp 49) (.tmp 52) 38 5 rfl Tryd.underlying38 (by kernel_rfl) W15.heap.size AA7 pn nn11 p (some ⟨W17.heap.size, 0, none⟩) 1 1 ([u]) (by kernel_rfl) (by kernel_rfl) ow16.own (Mur.byt_row [u] hb4) (fun h => by cases h) (by omega) (by omega) (pn + 1) (by omega) (p ++ ([u])) rfl) ?_
       rintro _ W19 ⟨AA8, nn12, rfl, ow17, ch16, ha4⟩
       have zz17 := ch16.size
       have hq19 := ow17.nc
       have hq20 := ow17.cm
       refine Wk.rC 10 54 35 [.tmp 44, .tmp 45, .tmp 46, .tmp 53] #[41, 50, 50, 38] [.pointer (some ⟨g, 0, none⟩), .slice A n c, .slice B m dd, .slice AA8 (pn + 1) nn12] rfl rfl rfl ?_
       have kk23 := Wk.Chg.step kk22 ch14 (Wk.newOr_blk (fun g hg => by have := ow14.lt g hg; omega))
       have kk24 := Wk.Chg.step kk23 ch15 trivial
       have kk25 := Wk.Chg.step kk24 ch16 (Wk.newOr_blk (fun g hg => by have := ow15.lt g hg; omega))
       refine (ih (d - 1) (by omega) (p ++ ([u])) AA8 (pn + 1) nn12 W19 (by rw [List.length_append, List.length_singleton]; omega) (Mur.pre_snoc hp (by omega) (by omega)) (Wk.Chg.hp kk25 hg trivial) (Mur.SlA.chg hA_ kk25 (fun g off e hl => trivial)) (Mur.SlA.chg hB_ kk25 (fun g off e hl => trivial)) ow17.byt ow17.nil).mono ?_
       rintro _ W20 ⟨rs2, rfl, hrs2, ch17⟩
       have zz18 := ch17.size
       cases rs2
       ·refine ⟨_, rfl, ?_⟩
        refine Wk.rEnd 11 rfl (Wk.nxt (wp_cond_false (by kernel_rfl) (wp_skip (Wk.inN (Wk.nxt (Wk.reg ?_))))))
        refine Wk.rP 0 42 (.int .i64 ((u.toNat : Nat) : Int)) rfl rfl ?_
        refine Wk.rQ 1 43 (.int .i64 ((u.toNat + 1 : Nat) : Int)) rfl rfl (Wk.int64 (n := ((u.toNat : Nat) : Int) + 1) (z := ((u.toNat + 1 : Nat) : Int)) (by omega) (by omega) (by omega) (by kernel_rfl)) ?_
        refine Wk.rP 2 11 (.int .i64 ((u.toNat + 1 : Nat) : Int)) rfl rfl ?_
        refine Wk.rEnd 3 rfl (Wk.nxt ?_)
        have kk26 := Wk.Chg.step kk25 ch17 trivial
        refine ⟨_, ?_, u.toNat + 1, rfl, by kernel_rfl, (by omega), (fun v_ h_ => by rcases Mur.u8_lt_succ h_ with h1_ | h1_ <;> first | exact hno v_ h1_ | (subst h1_; exact fun h2_ => absurd (hrs2 h2_) (by decide))), kk26⟩
        ·omega
       ·refine ⟨_, rfl, ?_⟩
        refine Wk.rEnd 11 rfl (Wk.nxt (wp_cond_true (by kernel_rfl) (wp_seq (Wk.reg ?_))))
        refine Wk.rP 0 8 (.bool true) rfl rfl ?_
        refine Wk.rEnd 1 rfl (Wk.nxt (wp_ret (Wk.inR (Wk.thR (Wk.thR (Wk.inR (Wk.thR ?_)))))))
        have kk27 := Wk.Chg.step kk25 ch17 trivial
        refine Wk.ret (.bool true) rfl (by kernel_rfl) ?_
        exact ⟨_, rfl, fun _ => rfl, kk27⟩
      ·refine wp_seq (wp_seq (Wk.reg ?_))
       refine Wk.rP 0 40 (.int .i64 ((i : Nat) : Int)) rfl rfl ?_
       refine Wk.rQ 1 41 (.bool false) rfl rfl (Wk.boolF (b := decide (((i : Nat) : Int) < (16 : Int))) (decide_eq_false (by omega)) (by kernel_rfl)) ?_
       refine Wk.rEnd 2 rfl (Wk.nxt (wp_cond_false (by kernel_rfl) (wp_exit (Wk.thX (Wk.thX (Wk.inX (Wk.nxt (wp_seq (Wk.reg ?_)))))))))
       refine Wk.rP 0 8 (.bool false) rfl rfl ?_
       refine Wk.rEnd 1 rfl (Wk.nxt (wp_ret ?_))
       refine Wk.ret (.bool false) rfl (by kernel_rfl) ?_
       exact ⟨_, rfl, fun h_ => absurd h_ (Mur.badP_no hnb_ fun _ u_ hu_ => hno u_ (by omega)), HB⟩
end Go.Proofs.YtfhneademopciaaDoor
