/- What the row rests on, part 13. -/
import Derived.Test.YtfhneademopciaaDoorPT12
import Derived.Test.YtfhneademopciaaDoorPT6
import Derived.Test.YtfhneademopciaaDoorPT8
import Derived.Test.YtfhneademopciaaDoorPT9
import Derived.Test.YtfhneademopciaaDoorPT10
namespace Go.Proofs.YtfhneademopciaaDoor
open Go.RowKit Wk
open Mur (b8s Byt Own8 Seg Segs flat cutA attC Att SlA OwnA rowA msgC)
set_option maxRecDepth 100000
set_option maxHeartbeats 4000000
def Exch_F2 (b : Array Value) (u1 : Value) (u2 : Value) (u5 : Value) (u8 : Value) : Act := ⟨#[gd b 0, u1, u2, gd b 3, gd b 4, u5, gd b 6, gd b 7, u8, gd b 9, gd b 10, gd b 11, gd b 12, gd b 13, gd b 14, gd b 15, gd b 16, gd b 17, gd b 18, gd b 19, gd b 20, gd b 21, gd b 22, gd b 23, gd b 24, gd b 25, gd b 26, gd b 27, gd b 28, gd b 29, gd b 30, gd b 31, gd b 32, gd b 33, gd b 34, gd b 35, gd b 36, gd b 37, gd b 38, gd b 39, gd b 40, gd b 41, gd b 42, gd b 43, gd b 44, gd b 45, gd b 46, gd b 47, gd b 48, gd b 49, gd b 50, gd b 51, gd b 52, gd b 53, gd b 54, gd b 55, gd b 56, gd b 57, gd b 58, gd b 59, gd b 60, gd b 61, gd b 62, gd b 63, gd b 64, gd b 65, gd b 66, gd b 67, gd b 68, gd b 69, gd b 70, gd b 71, gd b 72, gd b 73, gd b 74, gd b 75, gd b 76, gd b 77, gd b 78, gd b 79, gd b 80, gd b 81, gd b 82, gd b 83, gd b 84, gd b 85, gd b 86, gd b 87, gd b 88, gd b 89, gd b 90, gd b 91, gd b 92, gd b 93, gd b 94, gd b 95, gd b 96, gd b 97, gd b 98], []⟩
def Exch_J13_1 (b : Array Value) (u1 : Value) (u2 : Value) (u5 : Value) (u8 : Value) (u9 : Value) : Act := ⟨#[gd b 0, u1, u2, gd b 3, gd b 4, u5, gd b 6, gd b 7, u8, u9, gd b 10, gd b 11, gd b 12, gd b 13, gd b 14, gd b 15, gd b 16, gd b 17, gd b 18, gd b 19, gd b 20, gd b 21, gd b 22, gd b 23, gd b 24, gd b 25, gd b 26, gd b 27, gd b 28, gd b 29, gd b 30, gd b 31, gd b 32, gd b 33, gd b 34, gd b 35, gd b 36, gd b 37, gd b 38, gd b 39, gd b 40, gd b 41, gd b 42, gd b 43, gd b 44, gd b 45, gd b 46, gd b 47, gd b 48, gd b 49, gd b 50, gd b 51, gd b 52, gd b 53, gd b 54, gd b 55, gd b 56, gd b 57, gd b 58, gd b 59, gd b 60, gd b 61, gd b 62, gd b 63, gd b 64, gd b 65, gd b 66, gd b 67, gd b 68, gd b 69, gd b 70, gd b 71, gd b 72, gd b 73, gd b 74, gd b 75, gd b 76, gd b 77, gd b 78, gd b 79, gd b 80, gd b 81, gd b 82, gd b 83, gd b 84, gd b 85, gd b 86, gd b 87, gd b 88, gd b 89, gd b 90, gd b 91, gd b 92, gd b 93, gd b 94, gd b 95, gd b 96, gd b 97, gd b 98], []⟩
def Exch_F3 (b : Array Value) (u1 : Value) (u2 : Value) (u5 : Value) (u8 : Value) (u10 : Value) (u11 : Value) (u71 : Value) (u72 : Value) (u73 : Value) : Act := ⟨#[gd b 0, u1, u2, gd b 3, gd b 4, u5, gd b 6, gd b 7, u8, gd b 9, u10, u11, gd b 12, gd b 13, gd b 14, gd b 15, gd b 16, gd b 17, gd b 18, gd b 19, gd b 20, gd b 21, gd b 22, gd b 23, gd b 24, gd b 25, gd b 26, gd b 27, gd b 28, gd b 29, gd b 30, gd b 31, gd b 32, gd b 33, gd b 34, gd b 35, gd b 36, gd b 37, gd b 38, gd b 39, gd b 40, gd b 41, gd b 42, gd b 43, gd b 44, gd b 45, gd b 46, gd b 47, gd b 48, gd b 49, gd b 50, gd b 51, gd b 52, gd b 53, gd b 54, gd b 55, gd b 56, gd b 57, gd b 58, gd b 59, gd b 60, gd b 61, gd b 62, gd b 63, gd b 64, gd b 65, gd b 66, gd b 67, gd b 68, gd b 69, gd b 70, u71, u72, u73, gd b 74, gd b 75, gd b 76, gd b 77, gd b 78, gd b 79, gd b 80, gd b 81, gd b 82, gd b 83, gd b 84, gd b 85, gd b 86, gd b 87, gd b 88, gd b 89, gd b 90, gd b 91, gd b 92, gd b 93, gd b 94, gd b 95, gd b 96, gd b 97, gd b 98], []⟩
def Exch_F4 (b : Array Value) (u1 : Value) (u2 : Value) (u5 : Value) (u8 : Value) (u10 : Value) (u84 : Value) (u85 : Value) (u86 : Value) : Act := ⟨#[gd b 0, u1, u2, gd b 3, gd b 4, u5, gd b 6, gd b 7, u8, gd b 9, u10, gd b 11, gd b 12, gd b 13, gd b 14, gd b 15, gd b 16, gd b 17, gd b 18, gd b 19, gd b 20, gd b 21, gd b 22, gd b 23, gd b 24, gd b 25, gd b 26, gd b 27, gd b 28, gd b 29, gd b 30, gd b 31, gd b 32, gd b 33, gd b 34, gd b 35, gd b 36, gd b 37, gd b 38, gd b 39, gd b 40, gd b 41, gd b 42, gd b 43, gd b 44, gd b 45, gd b 46, gd b 47, gd b 48, gd b 49, gd b 50, gd b 51, gd b 52, gd b 53, gd b 54, gd b 55, gd b 56, gd b 57, gd b 58, gd b 59, gd b 60, gd b 61, gd b 62, gd b 63, gd b 64, gd b 65, gd b 66, gd b 67, gd b 68, gd b 69, gd b 70, gd b 71, gd b 72, gd b 73, gd b 74, gd b 75, gd b 76, gd b 77, gd b 78, gd b 79, gd b 80, gd b 81, gd b 82, gd b 83, u84, u85, u86, gd b 87, gd b 88, gd b 89, gd b 90, gd b 91, gd b 92, gd b 93, gd b 94, gd b 95, gd b 96, gd b 97, gd b 98], []⟩
def Exch_F5 (b : Array Value) (u1 : Value) (u2 : Value) (u5 : Value) (u8 : Value) (u10 : Value) (u11 : Value) (u71 : Value) (u72 : Value) (u73 : Value) : Act := ⟨#[gd b 0, u1, u2, gd b 3, gd b 4, u5, gd b 6, gd b 7, u8, gd b 9, u10, u11, gd b 12, gd b 13, gd b 14, gd b 15, gd b 16, gd b 17, gd b 18, gd b 19, gd b 20, gd b 21, gd b 22, gd b 23, gd b 24, gd b 25, gd b 26, gd b 27, gd b 28, gd b 29, gd b 30, gd b 31, gd b 32, gd b 33, gd b 34, gd b 35, gd b 36, gd b 37, gd b 38, gd b 39, gd b 40, gd b 41, gd b 42, gd b 43, gd b 44, gd b 45, gd b 46, gd b 47, gd b 48, gd b 49, gd b 50, gd b 51, gd b 52, gd b 53, gd b 54, gd b 55, gd b 56, gd b 57, gd b 58, gd b 59, gd b 60, gd b 61, gd b 62, gd b 63, gd b 64, gd b 65, gd b 66, gd b 67, gd b 68, gd b 69, gd b 70, u71, u72, u73, gd b 74, gd b 75, gd b 76, gd b 77, gd b 78, gd b 79, gd b 80, gd b 81, gd b 82, gd b 83, gd b 84, gd b 85, gd b 86, gd b 87, gd b 88, gd b 89, gd b 90, gd b 91, gd b 92, gd b 93, gd b 94, gd b 95, gd b 96, gd b 97, gd b 98], []⟩
def Exch_F6 (b : Array Value) (u1 : Value) (u2 : Value) (u5 : Value) (u8 : Value) (u10 : Value) (u84 : Value) (u85 : Value) (u86 : Value) : Act := ⟨#[gd b 0, u1, u2, gd b 3, gd b 4, u5, gd b 6, gd b 7, u8, gd b 9, u10, gd b 11, gd b 12, gd b 13, gd b 14, gd b 15, gd b 16, gd b 17, gd b 18, gd b 19, gd b 20, gd b 21, gd b 22, gd b 23, gd b 24, gd b 25, gd b 26, gd b 27, gd b 28, gd b 29, gd b 30, gd b 31, gd b 32, gd b 33, gd b 34, gd b 35, gd b 36, gd b 37, gd b 38, gd b 39, gd b 40, gd b 41, gd b 42, gd b 43, gd b 44, gd b 45, gd b 46, gd b 47, gd b 48, gd b 49, gd b 50, gd b 51, gd b 52, gd b 53, gd b 54, gd b 55, gd b 56, gd b 57, gd b 58, gd b 59, gd b 60, gd b 61, gd b 62, gd b 63, gd b 64, gd b 65, gd b 66, gd b 67, gd b 68, gd b 69, gd b 70, gd b 71, gd b 72, gd b 73, gd b 74, gd b 75, gd b 76, gd b 77, gd b 78, gd b 79, gd b 80, gd b 81, gd b 82, gd b 83, u84, u85, u86, gd b 87, gd b 88, gd b 89, gd b 90, gd b 91, gd b 92, gd b 93, gd b 94, gd b 95, gd b 96, gd b 97, gd b 98], []⟩
theorem exchange_any (wb : World) (L0 L1 U : List Att) (T : Mur.Two (Mur.S2 L0 L1) U) (lo0 lo1 g0 g1 : Nat) (F0 F1 : List Nat) (back : Bool) (w : World) (hv : ShaVars wb) (hB0 : Below wb.heap.size wb w) (hlo : wb.heap.size ≤ lo0 ∧ wb.heap.size ≤ lo1) (h0 : Mur.SetF 32 57 lo0 w g0 L0 F0) (h1 : Mur.SetF 32 57 lo1 w g1 L1 F1) (hJ : Mur.Dj F0 F1) : Calls Tryd.prog 34 #[.agg #[.pointer (some ⟨g0, 0, none⟩), .pointer (some ⟨g1, 0, none⟩)], .bool back] w fun e w' => ∃ (r : Nat) (S0 S1 : List Att) (E0 E1 : List Nat), e = .returned (.int .i64 ((r : Nat) : Int)) ∧ (L0 = L1 → r = 1) ∧ (¬ Mur.Bad (Mur.S2 L0 L1) → S0 = U ∧ S1 = U) ∧ Mur.SetF 32 57 lo0 w' g0 S0 E0 ∧ Mur.SetF 32 57 lo1 w' g1 S1 E1 ∧ Mur.Dj E0 E1 ∧ (∀ t, t ∈ E0 → t ∈ F0 ∨ w.heap.size ≤ t) ∧ (∀ t, t ∈ E1 → t ∈ F1 ∨ w.heap.size ≤ t) ∧ Chg (F0 ++ F1) w w' := by
 have HV := Go.Lib.hid hv
 clear hv
 have HVw := Go.Lib.hid (HV.out.below hB0)
 have hM0i_ := Mur.SetF.mem h0
 have hM1i_ := Mur.SetF.mem h1
 have hg0i_ := hM0i_ _ (Mur.SetF.self h0)
 have hg1i_ := hM1i_ _ (Mur.SetF.self h1)
 have hJi2_ : Mur.Dj F1 F0 := fun s_ h_ k_ => hJ s_ k_ h_
 refine calls_of_wp Tryd.func34 rfl ?_
 refine wp_seq (reg ?_)
 refine rX 0 2 rfl rfl (new_ex (.pointer (some ⟨w.heap.size, 0, none⟩)) #[.pointer (some ⟨g0, 0, none⟩), .pointer (some ⟨g1, 0, none⟩)] 62 (by kernel_rfl)) ?_
 rintro _ W1 ⟨rfl, hb1, ch1, sz1⟩
 have zz1 := ch1.size
 refine rP 1 4 (.int .i64 0) rfl rfl ?_
 refine rEnd 2 rfl (nxt (wp_seq (reg ?_)))
 refine rP 0 5 (.slice none 0 0) rfl rfl ?_
 refine rEnd 1 rfl (nxt (wp_seq (wp_seq (reg ?_))))
 refine rQ 0 17 (.pointer (some ⟨w.heap.size, 0, none⟩)) rfl rfl (Wk.index_arr 62 24 (.tmp 2) (.const (.int .i64 0)) rfl 2 Tryd.underlying62 1 (by kernel_rfl) w.heap.size 0 0 .i64 (by kernel_rfl) (by kernel_rfl) (by decide)) ?_
 refine rQ 1 18 _ rfl rfl (load1 24 (.tmp 17) rfl (by kernel_rfl) ⟨w.heap.size, 0, none⟩ (by kernel_rfl) (.pointer (some ⟨g0, 0, none⟩)) ((cell_of_row _ _ 0 _ _ _ hb1).trans rfl)) ?_
 refine rC 2 19 52 [.tmp 18] #[24] [.pointer (some ⟨g0, 0, none⟩)] rfl rfl rfl ?_
 have hD1 := Mur.SetF.chg h0 ch1 (fun s hs => trivial)
 have kk1 : Chg [] w W1 := Chg.step ((Chg.refl _).more (by simp)) ch1 trivial
 refine (Start_any lo0 L0 g0 F0 W1 (HVw.out.below (Chg.below0 kk1)) hD1).mono ?_
 rintro _ W2 ⟨gq1, dd1, AA1, nn1, nn2, hd1, hdl1, rfl, hb2, ow1, hq1, ch2⟩
 have zz2 := ch2.size
 have hq2 := (Array.getElem?_eq_some_iff.1 hb2).1
 have hq3 : nn1 = 0 := ow1.byt.1.symm
 have hq4 := ow1.nc
 have hq5 := ow1.cm
 refine ⟨_, rfl, ?_⟩
 refine rP 3 20 (.int .i64 1) rfl rfl ?_
 refine rP 4 21 (.int .i64 0) rfl rfl ?_
 refine rEnd 5 rfl (nxt (wp_block ?_))
 refine Wk.loopN 2 ?_
 refine Wk.rdS (wp_seq (reg ?_))
 refine rQ 0 22 _ rfl rfl (qboolT (b := decide ((0 : Int) < (1 : Int))) (decide_eq_true (by decide))) ?_
 refine rEnd 1 rfl (nxt (wp_seq (wp_cond_true (by kernel_rfl) (wp_skip (nxt (wp_seq (wp_block (wp_seq (reg ?_)))))))))
 refine rQ 0 23 (.pointer (some ⟨gq1, 0, none⟩)) rfl rfl (index_sl 67 66 (.tmp 19) (.tmp 21) rfl Tryd.underlying67 37 (by kernel_rfl) gq1 0 1 1 0 .i64 (by kernel_rfl) (by kernel_rfl) (by omega)) ?_
 refine rQ 1 24 (.agg ((Mur.msgC 1 AA1 nn1 nn2 dd1 (((Mur.belowL [] L0).length : Nat) : Int) none 0 0 false).toArray)) rfl rfl (Mur.loadArr 66 (.tmp 23) rfl _ Tryd.underlying66 rfl gq1 (by kernel_rfl) (Mur.msgC 1 AA1 nn1 nn2 dd1 (((Mur.belowL [] L0).length : Nat) : Int) none 0 0 false).toArray 37 (Mur.msgC_size hdl1) (by kernel_rfl) 66 (0, 0) hb2) ?_
 refine rX 2 7 rfl rfl (new_ex (.pointer (some ⟨W2.heap.size, 0, none⟩)) #[.int .u8 0, .slice none 0 0, .int .u8 0, .int .u8 0, .int .u8 0, .int .u8 0, .int .u8 0, .int .u8 0, .int .u8 0, .int .u8 0, .int .u8 0, .int .u8 0, .int .u8 0, .int .u8 0, .int .u8 0, .int .u8 0, .int .u8 0, .int .u8 0, .int .u8 0, .int .u8 0, .int .u8 0, .int .u8 0, .int .u8 0, .int .u8 0, .int .u8 0, .int .u8 0, .int .u8 0, .int .u8 0, .int .u8 0, .int .u8 0, .int .u8 0, .int .u8 0, .int .u8 0, .int .u8 0, .int .i64 0, .slice none 0 0, .bool false] 66 (by kernel_rfl)) ?_
 rintro _ W3 ⟨rfl, hb3, ch3, sz2⟩
 have zz3 := ch3.size
 refine rY 3 rfl rfl (Mur.storeArr 66 (.tmp 7) (.tmp 24) rfl W2.heap.size (by kernel_rfl) (Mur.msgC 1 AA1 nn1 nn2 dd1 (((Mur.belowL [] L0).length : Nat) : Int) none 0 0 false).toArray 37 (Mur.msgC_size hdl1) Mur.msgC_all (by kernel_rfl) (by kernel_rfl) 66 #[.int .u8 0, .slice none 0 0, .int .u8 0, .int .u8 0, .int .u8 0, .int .u8 0, .int .u8 0, .int .u8 0, .int .u8 0, .int .u8 0, .int .u8 0, .int .u8 0, .int .u8 0, .int .u8 0, .int .u8 0, .int .u8 0, .int .u8 0, .int .u8 0, .int .u8 0, .int .u8 0, .int .u8 0, .int .u8 0, .int .u8 0, .int .u8 0, .int .u8 0, .int .u8 0, .int .u8 0, .int .u8 0, .int .u8 0, .int .u8 0, .int .u8 0, .int .u8 0, .int .u8 0, .int .u8 0, .int .i64 0, .slice none 0 0, .bool false] hb3 (by kernel_rfl)) ?_
 rintro W4 ⟨hb4, ch4⟩
 have zz4 := ch4.size
 refine rEnd 4 rfl (nxt (reg ?_))
 refine rP 0 25 (.slice none 0 0) rfl rfl ?_
 refine rQ 1 26 (.agg ((Mur.msgC 1 AA1 nn1 nn2 dd1 (((Mur.belowL [] L0).length : Nat) : Int) none 0 0 false).toArray)) rfl rfl (Mur.loadArr 66 (.tmp 7) rfl _ Tryd.underlying66 rfl W2.heap.size (by kernel_rfl) (Mur.msgC 1 AA1 nn1 nn2 dd1 (((Mur.belowL [] L0).length : Nat) : Int) none 0 0 false).toArray 37 (Mur.msgC_size hdl1) (by kernel_rfl) 66 (0, 0) hb4) ?_
 refine rQ 2 27 (.agg ((Mur.letC true (Mur.msgC 1 AA1 nn1 nn2 dd1 (((Mur.belowL [] L0).length : Nat) : Int) none 0 0 false)).toArray)) rfl rfl (Mur.run_built 104 _ rfl [(0, .int .i64 1), (1, .agg ((Mur.msgC 1 AA1 nn1 nn2 dd1 (((Mur.belowL [] L0).length : Nat) : Int) none 0 0 false).toArray))] (by kernel_rfl) _ (built_letter true (Mur.msgC_length hdl1))) ?_
 refine rX 3 28 rfl rfl (Mur.buildR1 102 104 (.tmp 27) rfl Tryd.underlying102 (Mur.letC false Mur.msgZ) 38 112 lettI (Mur.letC_length rfl) (by decide) (by decide) (Mur.letC true (Mur.msgC 1 AA1 nn1 nn2 dd1 (((Mur.belowL [] L0).length : Nat) : Int) none 0 0 false)) (Mur.letC_length (Mur.msgC_length hdl1)) (by kernel_rfl)) ?_
 rintro _ W5 ⟨rfl, hb5, ch5, sz3⟩
 have zz5 := ch5.size
 have hPl1 := Mur.letA_nil W5 (w.heap.size + 1) 104
 have hlt1 : ∀ k_, (Value.slice none 0 0).ownBlock = some k_ → w.heap.size + 1 ≤ k_ ∧ k_ < W5.heap.size := fun k_ h_ => by cases h_
 have ow2 := Mur.own8 (own_chg ow1.own ch3 (fun q e _ _ => trivial))
 have ow3 := Mur.own8 (own_chg ow2.own ch4 (fun q e _ _ => ⟨by have := ow1.lt q e; omega, trivial⟩))
 have ow4 := Mur.own8 (own_chg ow3.own ch5 (fun q e _ _ => trivial))
 have hsub1 := Mur.subs_own1 (kd := 1) (s := dd1) (k := (((Mur.belowL [] L0).length : Nat) : Int)) (b := false) ow4 hdl1
 refine rX 4 29 rfl rfl (Mur.appendL (.tmp 25) (.tmp 28) 102 104 rfl Tryd.underlying102 lettI (w.heap.size + 1) ([]) none 0 0 ([]) W4.heap.size true ⟨1, AA1, nn1, nn2, dd1, (((Mur.belowL [] L0).length : Nat) : Int), none, 0, 0, false, hdl1⟩ (Mur.summaryM [] L0) (by kernel_rfl) (by kernel_rfl) hPl1 hb5 (Mur.rawok_sum ow4 hd1.out hdl1) (fun q_ hq_ => ⟨by have := hsub1 q_ hq_; omega, fun e_ => by cases e_⟩) (by omega) (by omega)) ?_
 rintro _ W6 ⟨AA2, nn3, XX1, rfl, hPl2, ch6, hXl1, hol1⟩
 have zz6 := ch6.size
 have hq6 := hPl2.nc
 refine rP 5 5 (.slice AA2 1 nn3) rfl rfl ?_
 refine rEnd 6 rfl (inN (nxt (reg ?_)))
 refine rQ 0 30 _ rfl rfl (qint64 (n := 0 + 1) (z := 1) (by omega) (by omega) (by omega)) ?_
 refine rP 1 21 (.int .i64 1) rfl rfl ?_
 refine rEnd 2 rfl (nxt (Wk.rdS (wp_seq (reg ?_))))
 refine rQ 0 22 _ rfl rfl (qboolF (b := decide ((1 : Int) < (1 : Int))) (decide_eq_false (by decide))) ?_
 refine rEnd 1 rfl (nxt (wp_seq (wp_cond_false (by kernel_rfl) (wp_exit (thX (thX (inX (nxt (wp_seq (wp_seq (reg ?_)))))))))))
 refine rP 0 8 (.int .i64 0) rfl rfl ?_
 refine rEnd 1 rfl (nxt (wp_block ?_))
 have hD2 := Mur.SetF.chg hD1 ch2 (fun s hs => trivial)
 have hD3 := Mur.SetF.chg hD2 ch3 (fun s hs => trivial)
 have hD4 := Mur.SetF.chg hD3 ch4 (fun s hs => ⟨by have := hM0i_ s hs; omega, trivial⟩)
 have hD5 := Mur.SetF.chg hD4 ch5 (fun s hs => trivial)
 have hD6 := Mur.SetF.chg hD5 ch6 (fun s hs => (off_blk (fun gz hgz => by have := hlt1 gz hgz; have := hM0i_ s hs; omega)))
 have hD7 := Mur.SetF.chg h1 ch1 (fun s hs => trivial)
 have hD8 := Mur.SetF.chg hD7 ch2 (fun s hs => trivial)
 have hD9 := Mur.SetF.chg hD8 ch3 (fun s hs => trivial)
 have hD10 := Mur.SetF.chg hD9 ch4 (fun s hs => ⟨by have := hM1i_ s hs; omega, trivial⟩)
 have hD11 := Mur.SetF.chg hD10 ch5 (fun s hs => trivial)
 have hD12 := Mur.SetF.chg hD11 ch6 (fun s hs => (off_blk (fun gz hgz => by have := hlt1 gz hgz; have := hM1i_ s hs; omega)))
 have kk2 := Chg.step kk1 ch2 trivial
 have kk3 := Chg.step kk2 ch3 trivial
 have kk4 := Chg.step kk3 ch4 ⟨.inr (by omega), trivial⟩
 have kk5 := Chg.step kk4 ch5 trivial
 have kk6 := Chg.step kk5 ch6 (newOr_blk (fun g hg => by have := hlt1 g hg; omega))
 refine Wk.loop (fun m_ a wr => ∃ (k : Nat) (PA : Option Addr) (pn : Nat) (pc : Nat) (X : List Nat) (M : List (Bool × Mur.Msg)) (S0 : List Att) (S1 : List Att) (E0 : List Nat) (E1 : List Nat), m_ = 20000 - k ∧ a = Exch_F2 a.tmps (.bool back) (.pointer (some ⟨w.heap.size, 0, none⟩)) (.slice PA pn pc) (.int .i64 ((k : Nat) : Int)) ∧ Mur.Exch (Mur.S2 L0 L1) U S0 S1 M k ∧ Mur.LetA wr (w.heap.size + 1) 104 X PA pn pc M ∧ (∀ q, q ∈ X → q ∉ E0 ∧ q ∉ E1) ∧ Mur.SetF 32 57 lo0 wr g0 S0 E0 ∧ Mur.SetF 32 57 lo1 wr g1 S1 E1 ∧ Mur.Dj E0 E1 ∧ (∀ t, t ∈ E0 → t ∈ F0 ∨ w.heap.size + 1 ≤ t) ∧ (∀ t, t ∈ E1 → t ∈ F1 ∨ w.heap.size + 1 ≤ t) ∧ wr.heap[w.heap.size]? = some (.cells #[.pointer (some ⟨g0, 0, none⟩), .pointer (some ⟨g1, 0, none⟩)] 62 (0, 0)) ∧ Chg (F0 ++ F1) w wr) (20000 - 0) ?_ ?_
 ·refine ⟨0, AA2, 1, nn3, XX1, [(true, Mur.summaryM [] L0)], L0, L1, F0, F1, rfl, by kernel_rfl, (Mur.exch_start T rfl rfl), hPl2, (fun q_ hq_ => ⟨fun h_ => by have := (Mur.LetA.mem hPl2 q_ hq_).1; have := (hM0i_ q_ h_).2; omega, fun h_ => by have := (Mur.LetA.mem hPl2 q_ hq_).1; have := (hM1i_ q_ h_).2; omega⟩), hD6, hD12, hJ, (fun t_ ht_ => .inl ht_), (fun t_ ht_ => .inl ht_), (Chg.hp ch6 (Chg.hp ch5 (Chg.hp ch4 (Chg.hp ch3 (Chg.hp ch2 hb1 trivial) trivial) ⟨by omega, trivial⟩) trivial) (off_blk (fun gz hgz => by have := hlt1 gz hgz; omega))), (Chg.step ((Chg.refl w).more (by simp)) kk6 trivial)⟩
 rintro mm1 aa1 W7 ⟨k, PA, pn, pc, X, M, S0, S1, E0, E1, hmm1, hF1, hE, hP, hXE, hD0, hD1, hJ0, hN0, hN1, hX, HB⟩
 generalize aa1.tmps = bb1 at hF1
 subst hF1
 have HVr := Go.Lib.hid (HV.out.below (hB0.trans (HB.below hB0.size fun s_ hs_ => by rcases List.mem_append.1 hs_ with h_ | h_ <;> first | (have := hM0i_ s_ h_; omega) | (have := hM1i_ s_ h_; omega))))
 have hzB := HB.size
 have hbl_ := (Array.getElem?_eq_some_iff.1 hX).1
 have hPl_ := hP.len
 have hPc_ := hP.nc
 have hPm_ := Nat.le_trans hP.cm (show Go.maxLen ≤ 9223372036854775807 by unfold Go.maxLen; omega)
 have hXm_ := Mur.LetA.mem hP
 have hlow_ := hE.low
 have hlowl_ := Mur.costP_len U M
 have hM0_ := Mur.SetF.mem hD0
 have hM1_ := Mur.SetF.mem hD1
 have hg0_ := hM0_ _ (Mur.SetF.self hD0)
 have hg1_ := hM1_ _ (Mur.SetF.self hD1)
 have hJ1_ : Mur.Dj E1 E0 := fun s_ h_ k_ => hJ0 s_ k_ h_
 have hs0_ : ∀ t_, t_ ∈ E0 → t_ ≠ w.heap.size := fun t_ ht_ => by rcases hN0 t_ ht_ with h_ | h_ <;> first | (have := (hM0i_ t_ h_).2; omega) | omega
 have hs1_ : ∀ t_, t_ ∈ E1 → t_ ≠ w.heap.size := fun t_ ht_ => by rcases hN1 t_ ht_ with h_ | h_ <;> first | (have := (hM1i_ t_ h_).2; omega) | omega
 by_cases hz0 : pn = 0
 ·obtain rfl : M = [] := List.eq_nil_of_length_eq_zero (by omega)
  refine wp_seq (wp_seq (reg ?_))
  refine rP 0 31 (.int .i64 ((k : Nat) : Int)) rfl rfl ?_
  refine rQ 1 32 _ rfl rfl (qboolT (b := decide (((k : Nat) : Int) < (20000 : Int))) (decide_eq_true (by omega))) ?_
  refine rEnd 2 rfl (nxt (wp_cond_true (by kernel_rfl) (wp_skip (nxt (wp_seq (wp_block (wp_seq (wp_seq (reg ?_)))))))))
  refine rP 0 35 (.slice PA pn pc) rfl rfl ?_
  refine rP 1 36 (.int .i64 ((pn : Nat) : Int)) rfl rfl ?_
  refine rQ 2 37 _ rfl rfl (qboolT (b := (((pn : Nat) : Int) == (0 : Int))) (beq_iff_eq.2 (by omega))) ?_
  refine rEnd 3 rfl (nxt (wp_cond_true (by kernel_rfl) (wp_seq (reg ?_))))
  refine rP 0 38 (.int .i64 ((k : Nat) : Int)) rfl rfl ?_
  refine rP 1 4 (.int .i64 ((k : Nat) : Int)) rfl rfl ?_
  refine rEnd 2 rfl (nxt (wp_ret (thR (inR (thR (thR (inR (thR ?_))))))))
  refine Wk.ret (.int .i64 ((k : Nat) : Int)) rfl (by kernel_rfl) ?_
  exact ⟨k, S0, S1, E0, E1, rfl, fun h_ => (Mur.exch_end T hE).1 h_, fun h_ => (Mur.exch_end T hE).2 h_, hD0, hD1, hJ0, fun t_ ht_ => (hN0 t_ ht_).imp id fun h_ => by omega, fun t_ ht_ => (hN1 t_ ht_).imp id fun h_ => by omega, HB⟩
 refine wp_seq (wp_seq (reg ?_))
 refine rP 0 31 (.int .i64 ((k : Nat) : Int)) rfl rfl ?_
 refine rQ 1 32 _ rfl rfl (qboolT (b := decide (((k : Nat) : Int) < (20000 : Int))) (decide_eq_true (by omega))) ?_
 refine rEnd 2 rfl (nxt (wp_cond_true (by kernel_rfl) (wp_skip (nxt (wp_seq (wp_block (wp_seq (wp_seq (reg ?_)))))))))
 refine rP 0 35 (.slice PA pn pc) rfl rfl ?_
 refine rP 1 36 (.int .i64 ((pn : Nat) : Int)) rfl rfl ?_
 refine rQ 2 37 _ rfl rfl (qboolF (b := (((pn : Nat) : Int) == (0 : Int))) (beq_eq_false_iff_ne.2 (by omega))) ?_
 refine rEnd 3 rfl (nxt (wp_cond_false (by kernel_rfl) (wp_skip (nxt (wp_seq (reg ?_))))))
 refine rP 0 9 (.int .i64 0) rfl rfl ?_
 refine rEnd 1 rfl (nxt (wp_seq ?_))
 refine Wk.cut (fun a wj => ∃ (i : Nat), a = Exch_J13_1 a.tmps (.bool back) (.pointer (some ⟨w.heap.size, 0, none⟩)) (.slice PA pn pc) (.int .i64 ((k : Nat) : Int)) (.int .i64 ((i : Nat) : Int)) ∧ W7 = wj ∧ i < pn) ?_ ?_
 ·refine wp_seq (reg ?_)
  refine rP 0 39 (.bool back) rfl rfl ?_
  refine rEnd 1 rfl (nxt ?_)
  cases back
  ·refine wp_cond_false (by kernel_rfl) (wp_skip (nxt ?_))
   exact ⟨0, by kernel_rfl, rfl, (by omega)⟩
  refine wp_cond_true (by kernel_rfl) (reg ?_)
  refine rP 0 40 (.slice PA pn pc) rfl rfl ?_
  refine rP 1 41 (.int .i64 ((pn : Nat) : Int)) rfl rfl ?_
  refine rQ 2 42 _ rfl rfl (qint64 (n := ((pn : Nat) : Int) - 1) (z := ((pn - 1 : Nat) : Int)) (by omega) (by omega) (by omega)) ?_
  refine rP 3 9 (.int .i64 ((pn - 1 : Nat) : Int)) rfl rfl ?_
  refine rEnd 4 rfl (nxt ?_)
  exact ⟨pn - 1, by kernel_rfl, rfl, (by omega)⟩
 rintro aa2 _ ⟨i, hF2, rfl, hi⟩
 generalize aa2.tmps = bb2 at hF2
 subst hF2
 refine nxt (wp_seq (reg ?_))
 obtain ⟨⟨bw, m⟩, hi_⟩ : ∃ y, M[i]? = some y := ⟨_, List.getElem?_eq_getElem (by omega)⟩
 cases bw
 ·obtain ⟨⟨kdm, PB, pbn, pbc, sm_, cn_, QB, qbn, qbc, an_, hsm⟩, gp, hgp, hrg, ⟨rfl, rfl, rfl, rfl, hby, hsl, hnp, hnq, hac, hpc⟩, hgX, hsX⟩ := Mur.LetA.row0 hP hi_
  replace hsm : m.sum.length = 32 := hsm
  replace hrg : W7.rangeAt gp (0 + i * 38) (Mur.letC false (msgC m.kind PB pbn pbc m.sum m.cnt QB qbn qbc m.ans)) := hrg
  replace hby : Byt W7 PB pbn m.pre := hby
  replace hsl : SlA W7 QB qbn m.items := hsl
  replace hnp : PB = none → pbc = 0 := hnp
  replace hac : qbn ≤ qbc ∧ qbc ≤ 9223372036854775807 := hac
  replace hpc : pbn ≤ pbc ∧ pbc ≤ 9223372036854775807 := hpc
  have hbyl := hby.1
  have hsll := hsl.len
  have hmm_ := hE.inv.may_ _ (List.mem_of_getElem? hi_)
  have hml_ := Mur.pre_len hmm_.1
  have hmi_ := hmm_.2.2.2.1
  simp only at hml_ hmi_
  have hlp : ∀ g_ off_, PB = some ⟨g_, off_, none⟩ → 0 < pbn → w.heap.size + 1 ≤ g_ ∧ g_ < W7.heap.size := fun g_ off_ e_ hn_ => hXm_ g_ (hsX g_ (List.mem_append_left _ (Mur.pblk_mem e_ hn_)))
  have hlq : ∀ g_ off_, QB = some ⟨g_, off_, none⟩ → 0 < qbn → w.heap.size + 1 ≤ g_ ∧ g_ < W7.heap.size := fun g_ off_ e_ hn_ => hXm_ g_ (hsX g_ (List.mem_append_right _ (Mur.pblk_mem e_ hn_)))
  subst hgp
  have hP_ := hP
  obtain ⟨RL, hOR, hKR, hXR, hBR, hSR, hMR⟩ := hP_
  have hlR_ := hKR.length
  obtain ⟨AD, hAD⟩ : ∃ A_, A_ = if pc = i + 1 then some ⟨gp, 0, none⟩ else (some (⟨gp, 0, none⟩ : Addr)).map (·.add ((i + 1) * 38)) := ⟨_, rfl⟩
  refine rP 0 43 (.slice (some ⟨gp, 0, none⟩) pn pc) rfl rfl ?_
  refine rP 1 44 (.int .i64 ((i : Nat) : Int)) rfl rfl ?_
  refine rQ 2 45 (.pointer (some ⟨gp, 0 + i * 38, none⟩)) rfl rfl (index_sl 102 104 (.tmp 43) (.tmp 44) rfl Tryd.underlying102 38 (by kernel_rfl) gp 0 pn pc i .i64 (by kernel_rfl) (by kernel_rfl) (by omega)) ?_
  refine rQ 3 46 (.agg ((Mur.letC false (Mur.msgC m.kind PB pbn pbc m.sum m.cnt QB qbn qbc m.ans)).toArray)) rfl rfl (loadR 104 (.tmp 45) rfl _ Tryd.underlying104 rfl gp (0 + i * 38) (by kernel_rfl) (Mur.letC false (Mur.msgC m.kind PB pbn pbc m.sum m.cnt QB qbn qbc m.ans)) (by rw [Mur.letC_length (Mur.msgC_length hsm)]; kernel_rfl) hrg) ?_
  refine rX 4 10 rfl rfl (new_ex (.pointer (some ⟨W7.heap.size, 0, none⟩)) #[.int .i64 0, .int .u8 0, .slice none 0 0, .int .u8 0, .int .u8 0, .int .u8 0, .int .u8 0, .int .u8 0, .int .u8 0, .int .u8 0, .int .u8 0, .int .u8 0, .int .u8 0, .int .u8 0, .int .u8 0, .int .u8 0, .int .u8 0, .int .u8 0, .int .u8 0, .int .u8 0, .int .u8 0, .int .u8 0, .int .u8 0, .int .u8 0, .int .u8 0, .int .u8 0, .int .u8 0, .int .u8 0, .int .u8 0, .int .u8 0, .int .u8 0, .int .u8 0, .int .u8 0, .int .u8 0, .int .u8 0, .int .i64 0, .slice none 0 0, .bool false] 104 (by kernel_rfl)) ?_
  rintro _ W8 ⟨rfl, hb6, ch7, sz4⟩
  have zz7 := ch7.size
  refine rY 5 rfl rfl (Mur.storeArr 104 (.tmp 10) (.tmp 46) rfl W7.heap.size (by kernel_rfl) (Mur.letC false (Mur.msgC m.kind PB pbn pbc m.sum m.cnt QB qbn qbc m.ans)).toArray 38 (Mur.letC_size (Mur.msgC_length hsm)) (Mur.letC_all Mur.msgC_one) (by kernel_rfl) (by kernel_rfl) 104 #[.int .i64 0, .int .u8 0, .slice none 0 0, .int .u8 0, .int .u8 0, .int .u8 0, .int .u8 0, .int .u8 0, .int .u8 0, .int .u8 0, .int .u8 0, .int .u8 0, .int .u8 0, .int .u8 0, .int .u8 0, .int .u8 0, .int .u8 0, .int .u8 0, .int .u8 0, .int .u8 0, .int .u8 0, .int .u8 0, .int .u8 0, .int .u8 0, .int .u8 0, .int .u8 0, .int .u8 0, .int .u8 0, .int .u8 0, .int .u8 0, .int .u8 0, .int .u8 0, .int .u8 0, .int .u8 0, .int .u8 0, .int .i64 0, .slice none 0 0, .bool false] hb6 (by kernel_rfl)) ?_
  rintro W10 ⟨hb7, ch8⟩
  have zz8 := ch8.size
  refine rEnd 6 rfl (nxt (wp_seq ?_))
  refine dReg ([]) (by kernel_rfl) ?_
  intro W11 ch9 sz5
  have zz9 := ch9.size
  have sS1 : Chg ([]) W11 W11 := (Chg.refl _).more (by simp)
  refine dV 1 48 (.slice (some ⟨gp, 0, none⟩) pn pc) rfl rfl (fun _ _ => by kernel_rfl) sS1 ?_
  refine dV 2 49 (.int .i64 ((i : Nat) : Int)) rfl rfl (fun _ _ => by kernel_rfl) sS1 ?_
  refine dV 3 50 (.slice (some ⟨gp, 0, none⟩) i pc) rfl rfl (fun w' hw' => (Mur.run_toK 102 (.tmp 48) (.tmp 49) rfl 104 Tryd.underlying102 38 (by kernel_rfl) (some ⟨gp, 0, none⟩) pn pc i (.inr ⟨gp, 0, rfl⟩) (by kernel_rfl) (by kernel_rfl) (by omega))) sS1 ?_
  refine dV 5 52 (.slice (some ⟨gp, 0, none⟩) pn pc) rfl rfl (fun _ _ => by kernel_rfl) sS1 ?_
  refine dV 6 53 (.int .i64 ((i : Nat) : Int)) rfl rfl (fun _ _ => by kernel_rfl) sS1 ?_
  refine dV 7 54 (.int .i64 ((i + 1 : Nat) : Int)) rfl rfl (fun w' hw' => (int64 (n := ((i : Nat) : Int) + 1) (z := ((i + 1 : Nat) : Int)) (by omega) (by omega) (by omega) (by kernel_rfl))) sS1 ?_
  refine dV 8 55 (.slice AD (pn - (i + 1)) (pc - (i + 1))) rfl rfl (fun w' hw' => (Mur.run_fromL 102 (.tmp 52) (.tmp 54) rfl 104 Tryd.underlying102 (by kernel_rfl) (some ⟨gp, 0, none⟩) AD pn pc (i + 1) hAD (by kernel_rfl) (by kernel_rfl) (by omega) (pn - (i + 1)) rfl)) sS1 ?_
  refine dOp 0 (by kernel_rfl) ?_
  refine oEx (some 47) _ rfl rfl (by kernel_rfl) (new_ex (.slice (some ⟨W11.heap.size, 0, none⟩) 0 0) #[] 104 (by kernel_rfl)) ?_
  rintro _ W12 ⟨rfl, hb8, ch10, sz6⟩
  have zz10 := ch10.size
  have sS2 := Chg.step sS1 ch10 trivial
  refine ⟨sS2, ?_⟩
  refine dOp 4 (by kernel_rfl) ?_
  have kk7 : Chg [] W7 W8 := Chg.step ((Chg.refl _).more (by simp)) ch7 trivial
  have kk8 := Chg.step kk7 ch8 ⟨.inr (by omega), trivial⟩
  have kk9 := Chg.step kk8 ch9 trivial
  have kk10 := Chg.step kk9 ch10 trivial
  have hO1 : Mur.OwnR W12 W11.heap.size 104 38 (some ⟨W11.heap.size, 0, none⟩) 0 0 [] := Mur.ownR_empty hb8 (Nat.le_refl _) (by decide)
  have hlt2 := hO1.lt
  refine oEx (some 51) _ rfl rfl (by kernel_rfl) (Mur.appendR (.tmp 47) (.tmp 50) 102 104 rfl Tryd.underlying102 _ 38 112 lettI rfl (by decide) (by decide) W11.heap.size (some ⟨W11.heap.size, 0, none⟩) 0 0 [] (some ⟨gp, 0, none⟩) i pc ((Mur.letR RL).take i) (by kernel_rfl) (by kernel_rfl) hO1 ((hOR.slR.chg kk10 (fun _ _ _ _ => trivial)).take i (by omega)) (fun h => by cases h) (by omega) (by omega) i (Nat.zero_add _)) ?_
  rintro _ W13 ⟨AA3, nn4, rfl, hO2, ch11, _⟩
  have zz11 := ch11.size
  have hq7 := hO2.nc
  have sS3 := Chg.step sS2 ch11 (newOr_blk (fun g hg => by have := hlt2 g hg; omega))
  refine ⟨sS3, ?_⟩
  refine dOp 9 (by kernel_rfl) ?_
  have kk11 := Chg.step kk10 ch11 (newOr_blk (fun g hg => by have := hlt2 g hg; omega))
  have hsf1 := Mur.slR_from (hOR.slR.chg kk11 (fun _ _ _ _ => trivial)) (by omega) hAD (by omega)
  have hlt3 := hO2.lt
  refine oEx (some 56) _ rfl rfl (by kernel_rfl) (Mur.appendR (.tmp 51) (.tmp 55) 102 104 rfl Tryd.underlying102 _ 38 112 lettI rfl (by decide) (by decide) W11.heap.size AA3 i nn4 ([] ++ (Mur.letR RL).take i) AD (pn - (i + 1)) (pc - (i + 1)) ((Mur.letR RL).drop (i + 1)) (by kernel_rfl) (by kernel_rfl) hO2 hsf1.1 hsf1.2 (by omega) (by omega) (pn - 1) (by omega)) ?_
  rintro _ W14 ⟨AA4, nn5, rfl, hO3, ch12, _⟩
  have zz12 := ch12.size
  have hq8 := hO3.nc
  have sS4 := Chg.step sS3 ch12 (newOr_blk (fun g hg => by have := hlt3 g hg; omega))
  refine ⟨sS4, ?_⟩
  refine dV 10 5 (.slice AA4 (pn - 1) nn5) rfl rfl (fun _ _ => by kernel_rfl) sS4 ?_
  refine dEnd (by kernel_rfl) (nxt (wp_seq (wp_seq (reg ?_))))
  have kk12 := Chg.step kk11 ch12 (newOr_blk (fun g hg => by have := hlt3 g hg; omega))
  have hPc : Mur.LetA W14 (w.heap.size + 1) 104 (Wk.blk (.slice AA4 (pn - 1) nn5) ++ X) AA4 (pn - 1) nn5 (M.take i ++ M.drop (i + 1)) := Mur.letA_cut hKR hXR hMR hO3 kk12 (by omega) (by omega)
  have hOlt := hO3.lt
  have hX3E : ∀ q_, q_ ∈ (Wk.blk (.slice AA4 (pn - 1) nn5) ++ X) → q_ ∉ E0 ∧ q_ ∉ E1 := fun q_ hq_ => by rcases List.mem_append.1 hq_ with h_ | h_ <;> first | exact hXE q_ h_ | (have h2_ := hOlt q_ (Mur.blk_mem h_); exact ⟨fun k_ => by have := (hM0_ q_ k_).2; omega, fun k_ => by have := (hM1_ q_ k_).2; omega⟩)
  have hX3L : ∀ q_, q_ ∈ (Wk.blk (.slice AA4 (pn - 1) nn5) ++ X) → q_ ≠ W7.heap.size := fun q_ hq_ => by rcases List.mem_append.1 hq_ with h_ | h_ <;> first | (have h2_ := hOlt q_ (Mur.blk_mem h_); omega) | (have := hXm_ q_ h_; omega)
  have hX3m := Mur.LetA.mem hPc
  have hPcl := hPc.len
  have hPcc := hPc.nc
  refine rP 0 57 (.pointer (some ⟨W7.heap.size, 1, none⟩)) rfl rfl ?_
  refine rQ 1 58 (.agg ((Mur.msgC m.kind PB pbn pbc m.sum m.cnt QB qbn qbc m.ans).toArray)) rfl rfl (loadR 66 (.tmp 57) rfl _ Tryd.underlying66 rfl W7.heap.size 1 (by kernel_rfl) (Mur.msgC m.kind PB pbn pbc m.sum m.cnt QB qbn qbc m.ans) (by rw [Mur.msgC_length hsm]; kernel_rfl) (show World.rangeAt _ _ (0 + 1) _ from Mur.let_msg (range_row (Chg.hp ch12 (Chg.hp ch11 (Chg.hp ch10 (Chg.hp ch9 hb7 trivial) trivial) (off_blk (fun gz hgz => by have := hlt2 gz hgz; omega))) (off_blk (fun gz hgz => by have := hlt3 gz hgz; omega)))))) ?_
  refine rC 2 59 37 [.tmp 58] #[66] [.agg ((Mur.msgC m.kind PB pbn pbc m.sum m.cnt QB qbn qbc m.ans).toArray)] rfl rfl rfl ?_
  refine (May_any m.kind m.pre PB pbn pbc m.sum m.cnt m.items QB qbn qbc m.ans W14 hsm (Mur.byt_chgp hby kk12 (fun g off e hn hl => trivial)) (Mur.SlA.chgp hsl kk12 (fun g off e hn hl => trivial)) (by omega) (by omega)).mono ?_
  rintro _ W15 ⟨vv1, rfl, hvm1, ch13⟩
  have zz13 := ch13.size
  cases vv1
  ·exact absurd (hvm1.2 hmm_) (by decide)
  have hmay1 : Mur.mayM ⟨m.kind, m.pre, m.sum, m.cnt, m.items, m.ans⟩ := hvm1.1 rfl
  refine ⟨_, rfl, ?_⟩
  refine rP 3 60 (.bool false) rfl rfl ?_
  refine rEnd 4 rfl (nxt (wp_cond_false (by kernel_rfl) (wp_skip (nxt (wp_seq ?_)))))
  refine dReg ([]) (by kernel_rfl) ?_
  intro W16 ch14 sz7
  have zz14 := ch14.size
  have sS5 : Chg ([]) W16 W16 := (Chg.refl _).more (by simp)
  refine dV 0 62 (.pointer (some ⟨W7.heap.size, 0, none⟩)) rfl rfl (fun _ _ => by kernel_rfl) sS5 ?_
  refine dV 1 63 (.int .i64 0) rfl rfl (fun w' hw' => (load1 3 (.tmp 62) rfl (by kernel_rfl) ⟨W7.heap.size, 0, none⟩ (by kernel_rfl) (.int .i64 0) (Mur.let_to (range_row (Chg.hp hw' (Chg.hp ch14 (Chg.hp ch13 (Chg.hp ch12 (Chg.hp ch11 (Chg.hp ch10 (Chg.hp ch9 hb7 trivial) trivial) (off_blk (fun gz hgz => by have := hlt2 gz hgz; omega))) (off_blk (fun gz hgz => by have := hlt3 gz hgz; omega))) trivial) trivial) trivial))))) sS5 ?_
  refine dV 2 64 (.pointer (some ⟨w.heap.size, 0, none⟩)) rfl rfl (fun w' hw' => (Wk.index_arr 62 24 (.tmp 2) (.tmp 63) rfl 2 Tryd.underlying62 1 (by kernel_rfl) w.heap.size 0 0 .i64 (by kernel_rfl) (by kernel_rfl) (by decide))) sS5 ?_
  have kk13 := Chg.step kk12 ch13 trivial
  have kk14 := Chg.step kk13 ch14 trivial
  refine dV 3 65 (.pointer (some ⟨g0, 0, none⟩)) rfl rfl (fun w' hw' => (load1 24 (.tmp 64) rfl (by kernel_rfl) ⟨w.heap.size, 0, none⟩ (by kernel_rfl) (.pointer (some ⟨g0, 0, none⟩)) ((cell_of_row _ _ 0 _ _ _ (Chg.hp hw' (Chg.hp kk14 hX trivial) trivial)).trans rfl))) sS5 ?_
  refine dV 4 66 (.pointer (some ⟨W7.heap.size, 1, none⟩)) rfl rfl (fun _ _ => by kernel_rfl) sS5 ?_
  refine dV 5 67 (.agg ((Mur.msgC m.kind PB pbn pbc m.sum m.cnt QB qbn qbc m.ans).toArray)) rfl rfl (fun w' hw' => (loadR 66 (.tmp 66) rfl _ Tryd.underlying66 rfl W7.heap.size 1 (by kernel_rfl) (Mur.msgC m.kind PB pbn pbc m.sum m.cnt QB qbn qbc m.ans) (by rw [Mur.msgC_length hsm]; kernel_rfl) (show World.rangeAt _ _ (0 + 1) _ from Mur.let_msg (range_row (Chg.hp hw' (Chg.hp ch14 (Chg.hp ch13 (Chg.hp ch12 (Chg.hp ch11 (Chg.hp ch10 (Chg.hp ch9 hb7 trivial) trivial) (off_blk (fun gz hgz => by have := hlt2 gz hgz; omega))) (off_blk (fun gz hgz => by have := hlt3 gz hgz; omega))) trivial) trivial) trivial))))) sS5 ?_
  refine dOp 6 (by kernel_rfl) ?_
  refine oCall (some 68) 36 [.tmp 65, .tmp 67] #[24, 66] [.pointer (some ⟨g0, 0, none⟩), .agg ((Mur.msgC m.kind PB pbn pbc m.sum m.cnt QB qbn qbc m.ans).toArray)] rfl rfl (by kernel_rfl) rfl (by kernel_rfl) (by kernel_rfl) ?_
  have hD13 := Mur.SetF.chg hD0 ch7 (fun s hs => trivial)
  have hD14 := Mur.SetF.chg hD13 ch8 (fun s hs => ⟨by have := hM0_ s hs; omega, trivial⟩)
  have hD15 := Mur.SetF.chg hD14 ch9 (fun s hs => trivial)
  have hD16 := Mur.SetF.chg hD15 ch10 (fun s hs => trivial)
  have hD17 := Mur.SetF.chg hD16 ch11 (fun s hs => (off_blk (fun gz hgz => by have := hlt2 gz hgz; have := hM0_ s hs; omega)))
  have hD18 := Mur.SetF.chg hD17 ch12 (fun s hs => (off_blk (fun gz hgz => by have := hlt3 gz hgz; have := hM0_ s hs; omega)))
  have hD19 := Mur.SetF.chg hD18 ch13 (fun s hs => trivial)
  have hD20 := Mur.SetF.chg hD19 ch14 (fun s hs => trivial)
  refine (Hear_any lo0 S0 g0 E0 m.kind m.pre PB pbn pbc m.sum m.cnt m.items QB qbn qbc m.ans W16 (HVr.out.below (Chg.below0 kk14)) hD20 hsm (Mur.byt_chgp hby kk14 (fun g off e hn hl => trivial)) hnp (Mur.SlA.chgp hsl kk14 (fun g off e hn hl => trivial)) (by omega) (by omega)).mono ?_
  rintro _ W17 ⟨AA5, nn6, nn7, AA6, nn8, nn9, rfl, ow5, ow6, ch15⟩
  have zz15 := ch15.size
  have hq9 : nn6 ≤ 9223372036854775807 := Nat.le_trans ow5.nc (Nat.le_trans ow5.cm (by unfold Go.maxLen; omega))
  have hq10 : nn8 ≤ 9223372036854775807 := Nat.le_trans ow6.nc (Nat.le_trans ow6.cm (by unfold Go.maxLen; omega))
  replace ow5 : Mur.MsgA W17 W16.heap.size 66 AA5 nn6 nn7 (Mur.repliesM S0 m) := ow5
  replace ow6 : OwnA W17 W16.heap.size 32 AA6 nn8 nn9 (Mur.learnsM S0 m) := ow6
  have hq11 := ow5.nc
  have hq12 := ow5.cm
  have hq13 := ow5.len
  have hq14 := ow6.nc
  have hq15 := ow6.cm
  have hq16 := ow6.sl.len
  have sS6 := Chg.step sS5 ch15 trivial
  refine ⟨_, rfl, sS6, ?_⟩
  refine dV 7 61 (.tuple #[.slice AA5 nn6 nn7, .slice AA6 nn8 nn9]) rfl rfl (fun _ _ => by kernel_rfl) sS6 ?_
  refine dV 8 69 (.slice AA5 nn6 nn7) rfl rfl (fun _ _ => by kernel_rfl) sS6 ?_
  refine dV 9 70 (.slice AA6 nn8 nn9) rfl rfl (fun _ _ => by kernel_rfl) sS6 ?_
  refine dV 10 11 (.slice AA5 nn6 nn7) rfl rfl (fun _ _ => by kernel_rfl) sS6 ?_
  refine dV 11 12 (.slice AA6 nn8 nn9) rfl rfl (fun _ _ => by kernel_rfl) sS6 ?_
  refine dEnd (by kernel_rfl) (nxt (wp_seq (wp_seq (reg ?_))))
  have hPl3 := Mur.LetA.chg hPc ch13 (fun _ _ => trivial)
  have hPl4 := Mur.LetA.chg hPl3 ch14 (fun _ _ => trivial)
  have hPl5 := Mur.LetA.chg hPl4 ch15 (fun _ _ => trivial)
  have hD21 := Mur.SetF.chg hD20 ch15 (fun s hs => trivial)
  have hD22 := Mur.SetF.chg hD1 ch7 (fun s hs => trivial)
  have hD23 := Mur.SetF.chg hD22 ch8 (fun s hs => ⟨by have := hM1_ s hs; omega, trivial⟩)
  have hD24 := Mur.SetF.chg hD23 ch9 (fun s hs => trivial)
  have hD25 := Mur.SetF.chg hD24 ch10 (fun s hs => trivial)
  have hD26 := Mur.SetF.chg hD25 ch11 (fun s hs => (off_blk (fun gz hgz => by have := hlt2 gz hgz; have := hM1_ s hs; omega)))
  have hD27 := Mur.SetF.chg hD26 ch12 (fun s hs => (off_blk (fun gz hgz => by have := hlt3 gz hgz; have := hM1_ s hs; omega)))
  have hD28 := Mur.SetF.chg hD27 ch13 (fun s hs => trivial)
  have hD29 := Mur.SetF.chg hD28 ch14 (fun s hs => trivial)
  have hD30 := Mur.SetF.chg hD29 ch15 (fun s hs => trivial)
  have kk15 := Chg.step kk14 ch15 trivial
  obtain ⟨Y, hY, hYm⟩ := Mur.MsgA.toY ow5
  have hLm := ow6.lt
  have hHe : OwnA W17 W16.heap.size 32 AA6 nn8 nn9 (Mur.learnsM S0 m) := ow6
  have hD0e := hD21
  have hD1e := hD30
  have hPe := hPl5
  have hXe : W17.heap[w.heap.size]? = some (.cells #[.pointer (some ⟨g0, 0, none⟩), .pointer (some ⟨g1, 0, none⟩)] 62 (0, 0)) := (Chg.hp kk15 hX trivial)
  have hHel := hHe.sl.len
  have hYl := hY.len
  have hcE := kk15
  have hPem := Mur.LetA.mem hPe
  have hLe : W17.heap[W7.heap.size]? = some (.cells (Mur.letC false (Mur.msgC m.kind PB pbn pbc m.sum m.cnt QB qbn qbc m.ans)).toArray 104 (0, 0)) := (Chg.hp ch15 (Chg.hp ch14 (Chg.hp ch13 (Chg.hp ch12 (Chg.hp ch11 (Chg.hp ch10 (Chg.hp ch9 hb7 trivial) trivial) (off_blk (fun gz hgz => by have := hlt2 gz hgz; omega))) (off_blk (fun gz hgz => by have := hlt3 gz hgz; omega))) trivial) trivial) trivial)
  have hEn_ := Mur.exch_f T hE hi_
  have hEl_ : pn - 1 + nn6 ≤ 16803 := by have h1_ := hEn_.low; have h2_ := Mur.costP_len U ((M.take i ++ M.drop (i + 1)) ++ (Mur.repliesM S0 m).map fun x_ => (true, x_)); rw [List.length_append, List.length_map] at h2_; omega
  have hlbl := (Array.getElem?_eq_some_iff.1 hLe).1
  have hnE : ∀ t_, t_ ∈ E0 → t_ < W16.heap.size := fun t_ ht_ => by have := (hM0_ t_ ht_).2; omega
  have hbE_ := hcE.size
  refine rP 0 71 (.slice AA6 nn8 nn9) rfl rfl ?_
  refine rP 1 72 (.int .i64 ((nn8 : Nat) : Int)) rfl rfl ?_
  refine rP 2 73 (.int .i64 0) rfl rfl ?_
  refine rEnd 3 rfl (nxt (wp_block ?_))
  refine Wk.loop (fun m_ a wr => ∃ (j : Nat) (G : List Nat), m_ = nn8 - j ∧ a = Exch_F3 a.tmps (.bool back) (.pointer (some ⟨w.heap.size, 0, none⟩)) (.slice AA4 (pn - 1) nn5) (.int .i64 ((k : Nat) : Int)) (.pointer (some ⟨W7.heap.size, 0, none⟩)) (.slice AA5 nn6 nn7) (.slice AA6 nn8 nn9) (.int .i64 ((nn8 : Nat) : Int)) (.int .i64 ((j : Nat) : Int)) ∧ j ≤ nn8 ∧ Mur.SetF 32 57 lo0 wr g0 (Mur.addsL ((Mur.learnsM S0 m).take j) S0) G ∧ (∀ t, t ∈ G → t ∈ E0 ∨ W17.heap.size ≤ t) ∧ Chg E0 W17 wr) (nn8 - 0) ?_ ?_
  ·refine ⟨0, E0, rfl, by kernel_rfl, Nat.zero_le _, (by rw [List.take_zero]; exact hD0e), (fun t_ ht_ => .inl ht_), ((Chg.refl _).more (by simp))⟩
  rintro mm2 aa3 W18 ⟨j, G, hmm2, hF3, hj, hDl, hNl, HBl⟩
  generalize aa3.tmps = bb3 at hF3
  subst hF3
  have hzl := HBl.size
  have hDo := Mur.SetF.chg hD1e HBl (fun s_ hs_ => Mur.Dj.off1 hJ0 hs_)
  have hGm := Mur.SetF.mem hDl
  have hGl : ∀ t_, t_ ∈ G → (lo0 ≤ t_ ∧ t_ < W18.heap.size) ∧ t_ ≠ w.heap.size ∧ t_ ≠ W7.heap.size := fun t_ ht_ => ⟨hGm t_ ht_, (hNl t_ ht_).elim (hs0_ t_) fun h_ => by omega, (hNl t_ ht_).elim (fun h_ => by have := (hM0_ t_ h_).2; omega) fun h_ => by omega⟩
  have hXl : W18.heap[w.heap.size]? = some (.cells #[.pointer (some ⟨g0, 0, none⟩), .pointer (some ⟨g1, 0, none⟩)] 62 (0, 0)) := HBl.hp hXe (Mur.off_iff.2 fun t_ ht_ e_ => hs0_ t_ ht_ e_.symm)
  have hLl : W18.heap[W7.heap.size]? = some (.cells (Mur.letC false (Mur.msgC m.kind PB pbn pbc m.sum m.cnt QB qbn qbc m.ans)).toArray 104 (0, 0)) := HBl.hp hLe (Mur.off_iff.2 fun t_ ht_ => by have := hM0_ t_ ht_; omega)
  have hHl := Mur.OwnA.chg hHe HBl (fun q_ e_ _ _ => Mur.off_iff.2 fun t_ ht_ => by have := hLm q_ e_; have := hnE t_ ht_; omega)
  by_cases hltj : j < nn8
  ·obtain ⟨g_x, o_x, rfl, _⟩ := hHl.sl.ex (by omega)
   obtain ⟨x, hx⟩ : ∃ x, (Mur.learnsM S0 m)[j]? = some x := ⟨_, List.getElem?_eq_getElem (by have := hHl.sl.len; omega)⟩
   refine wp_seq (reg ?_)
   refine rQ 0 74 _ rfl rfl (qboolT (b := decide (((j : Nat) : Int) < ((nn8 : Nat) : Int))) (decide_eq_true (by omega))) ?_
   refine rEnd 1 rfl (nxt (wp_seq (wp_cond_true (by kernel_rfl) (wp_skip (nxt (wp_seq (wp_block (wp_seq (reg ?_)))))))))
   refine rQ 0 75 (.pointer (some ⟨g_x, o_x + j * 97, none⟩)) rfl rfl (index_sl 22 32 (.tmp 71) (.tmp 73) rfl Tryd.underlying22 97 (by kernel_rfl) g_x o_x nn8 nn9 j .i64 (by kernel_rfl) (by kernel_rfl) (by omega)) ?_
   refine rQ 1 76 (.agg ((Mur.attC x.k x.r x.n x.t).toArray)) rfl rfl (loadR 32 (.tmp 75) rfl _ Tryd.underlying32 rfl g_x (o_x + j * 97) (by kernel_rfl) (Mur.attC x.k x.r x.n x.t) (by rw [Mur.attC_length x.hk x.hr x.ht]; kernel_rfl) (hHl.sl.elem hx)) ?_
   refine rX 2 14 rfl rfl (new_ex (.pointer (some ⟨W18.heap.size, 0, none⟩)) #[.int .u8 0, .int .u8 0, .int .u8 0, .int .u8 0, .int .u8 0, .int .u8 0, .int .u8 0, .int .u8 0, .int .u8 0, .int .u8 0, .int .u8 0, .int .u8 0, .int .u8 0, .int .u8 0, .int .u8 0, .int .u8 0, .int .u8 0, .int .u8 0, .int .u8 0, .int .u8 0, .int .u8 0, .int .u8 0, .int .u8 0, .int .u8 0, .int .u8 0, .int .u8 0, .int .u8 0, .int .u8 0, .int .u8 0, .int .u8 0, .int .u8 0, .int .u8 0, .int .u8 0, .int .u8 0, .int .u8 0, .int .u8 0, .int .u8 0, .int .u8 0, .int .u8 0, .int .u8 0, .int .u8 0, .int .u8 0, .int .u8 0, .int .u8 0, .int .u8 0, .int .u8 0, .int .u8 0, .int .u8 0, .int .u8 0, .int .u8 0, .int .u8 0, .int .u8 0, .int .u8 0, .int .u8 0, .int .u8 0, .int .u8 0, .int .u8 0, .int .u8 0, .int .u8 0, .int .u8 0, .int .u8 0, .int .u8 0, .int .u8 0, .int .u8 0, .int .i64 0, .int .u8 0, .int .u8 0, .int .u8 0, .int .u8 0, .int .u8 0, .int .u8 0, .int .u8 0, .int .u8 0, .int .u8 0, .int .u8 0, .int .u8 0, .int .u8 0, .int .u8 0, .int .u8 0, .int .u8 0, .int .u8 0, .int .u8 0, .int .u8 0, .int .u8 0, .int .u8 0, .int .u8 0, .int .u8 0, .int .u8 0, .int .u8 0, .int .u8 0, .int .u8 0, .int .u8 0, .int .u8 0, .int .u8 0, .int .u8 0, .int .u8 0, .int .u8 0] 32 (by kernel_rfl)) ?_
   rintro _ W19 ⟨rfl, hb9, ch16, sz8⟩
   have zz16 := ch16.size
   rw [← Mur.attC_zero] at hb9
   refine rY 3 rfl rfl (Mur.storeArr 32 (.tmp 14) (.tmp 76) rfl W18.heap.size (by kernel_rfl) (Mur.attC x.k x.r x.n x.t).toArray 97 (Mur.attC_size x.hk x.hr x.ht) Mur.attC_all (by kernel_rfl) (by kernel_rfl) 32 ((Mur.attC Mur.z32 Mur.z32 0 Mur.z32).toArray) hb9 (Mur.attC_size rfl rfl rfl)) ?_
   rintro W20 ⟨hb10, ch17⟩
   have zz17 := ch17.size
   refine rEnd 4 rfl (nxt ?_)
   refine dReg (G) (by kernel_rfl) ?_
   intro W21 ch18 sz9
   have zz18 := ch18.size
   have sS7 : Chg (G) W21 W21 := (Chg.refl _).more (by simp)
   refine dV 0 77 (.pointer (some ⟨W7.heap.size, 0, none⟩)) rfl rfl (fun _ _ => by kernel_rfl) sS7 ?_
   have kk16 : Chg [] W18 W19 := Chg.step ((Chg.refl _).more (by simp)) ch16 trivial
   have kk17 := Chg.step kk16 ch17 ⟨.inr (by omega), trivial⟩
   have kk18 := Chg.step kk17 ch18 trivial
   refine dV 1 78 (.int .i64 0) rfl rfl (fun w' hw' => (load1 3 (.tmp 77) rfl (by kernel_rfl) ⟨W7.heap.size, 0, none⟩ (by kernel_rfl) (.int .i64 0) (Mur.let_to (range_row (Chg.hp hw' (Chg.hp kk18 hLl trivial) (Mur.off_iff.2 (fun t ht => by have := hGl t ht; omega))))))) sS7 ?_
   refine dV 2 79 (.pointer (some ⟨w.heap.size, 0, none⟩)) rfl rfl (fun w' hw' => (Wk.index_arr 62 24 (.tmp 2) (.tmp 78) rfl 2 Tryd.underlying62 1 (by kernel_rfl) w.heap.size 0 0 .i64 (by kernel_rfl) (by kernel_rfl) (by decide))) sS7 ?_
   refine dV 3 80 (.pointer (some ⟨g0, 0, none⟩)) rfl rfl (fun w' hw' => (load1 24 (.tmp 79) rfl (by kernel_rfl) ⟨w.heap.size, 0, none⟩ (by kernel_rfl) (.pointer (some ⟨g0, 0, none⟩)) ((cell_of_row _ _ 0 _ _ _ (Chg.hp hw' (Chg.hp kk18 hXl trivial) (Mur.off_iff.2 (fun t ht => by have := hGl t ht; omega)))).trans rfl))) sS7 ?_
   refine dV 4 81 (.agg ((Mur.attC x.k x.r x.n x.t).toArray)) rfl rfl (fun w' hw' => (Mur.loadArr 32 (.tmp 14) rfl _ Tryd.underlying32 rfl W18.heap.size (by kernel_rfl) (Mur.attC x.k x.r x.n x.t).toArray 97 (Mur.attC_size x.hk x.hr x.ht) (by kernel_rfl) 32 (0, 0) (Chg.hp hw' (Chg.hp ch18 hb10 trivial) (Mur.off_iff.2 (fun t ht => by have := hGl t ht; omega))))) sS7 ?_
   refine dOp 5 (by kernel_rfl) ?_
   refine oCall (some 82) 15 [.tmp 80, .tmp 81] #[24, 32] [.pointer (some ⟨g0, 0, none⟩), .agg ((Mur.attC x.k x.r x.n x.t).toArray)] rfl rfl (by kernel_rfl) rfl (by kernel_rfl) (by kernel_rfl) ?_
   have hD32 := Mur.SetF.chg hDl ch16 (fun s hs => trivial)
   have hD33 := Mur.SetF.chg hD32 ch17 (fun s hs => ⟨by have := hGl s hs; omega, trivial⟩)
   have hD34 := Mur.SetF.chg hD33 ch18 (fun s hs => trivial)
   refine (Add_any lo0 (Mur.addsL ((Mur.learnsM S0 m).take j) S0) g0 G x W21 hD34).mono ?_
   rintro _ W22 ⟨GG1, rfl, hD31, ch19, no1⟩
   have kk19 := Chg.step HBl ch16 trivial
   have kk20 := Chg.step kk19 ch17 ⟨.inr (by omega), trivial⟩
   have kk21 := Chg.step kk20 ch18 trivial
   have kk22 := Chg.step kk21 ch19 (Mur.newOr_iff.2 hNl)
   have zz19 := ch19.size
   have sS8 := Chg.step sS7 ch19 (Mur.newOr_iff.2 (fun t ht => .inl ht))
   refine ⟨_, rfl, sS8, ?_⟩
   refine dEnd (by kernel_rfl) (inN (nxt (reg ?_)))
   refine rQ 0 83 _ rfl rfl (qint64 (n := ((j : Nat) : Int) + 1) (z := ((j + 1 : Nat) : Int)) (by omega) (by omega) (by omega)) ?_
   refine rP 1 73 (.int .i64 ((j + 1 : Nat) : Int)) rfl rfl ?_
   refine rEnd 2 rfl (nxt ?_)
   refine ⟨_, ?_, j + 1, GG1, rfl, by kernel_rfl, (by omega), (by rw [Mur.adds_step hx]; exact hD31), (fun t_ ht_ => (Mur.newOr_iff.1 no1 t_ ht_).elim (hNl t_) fun h_ => .inr (by omega)), kk22⟩
   omega
  rw [List.take_of_length_le (show ((Mur.learnsM S0 m)).length ≤ j by omega)] at hDl
  have hPw := Mur.LetA.chg hPe HBl (fun q_ hq_ => Mur.off_iff.2 fun t_ ht_ e_ => (hX3E q_ hq_).1 (e_ ▸ ht_))
  have hYw := Mur.MsgY.chg hY HBl (fun q_ hq_ => Mur.off_iff.2 fun t_ ht_ => by have := hYm q_ hq_; have := hnE t_ ht_; omega)
  refine wp_seq (reg ?_)
  refine rQ 0 74 _ rfl rfl (qboolF (b := decide (((j : Nat) : Int) < ((nn8 : Nat) : Int))) (decide_eq_false (by omega))) ?_
  refine rEnd 1 rfl (nxt (wp_seq (wp_cond_false (by kernel_rfl) (wp_exit (thX (thX (inX (nxt (wp_seq (reg ?_))))))))))
  refine rP 0 84 (.slice AA5 nn6 nn7) rfl rfl ?_
  refine rP 1 85 (.int .i64 ((nn6 : Nat) : Int)) rfl rfl ?_
  refine rP 2 86 (.int .i64 0) rfl rfl ?_
  refine rEnd 3 rfl (nxt (wp_block ?_))
  have hG25 := Mur.SetF.mem hDl
  have hX3G : ∀ q_, q_ ∈ (Wk.blk (.slice AA4 (pn - 1) nn5) ++ X) → q_ ∉ G := fun q_ hq_ h_ => (hNl q_ h_).elim (hX3E q_ hq_).1 fun k_ => by have := (hPem q_ hq_).2; omega
  have hYG : ∀ q_, q_ ∈ Y → q_ ∉ G := fun q_ hq_ h_ => (hNl q_ h_).elim (fun k_ => by have := hnE q_ k_; have := hYm q_ hq_; omega) fun k_ => by have := hYm q_ hq_; omega
  refine Wk.loop (fun m_ a wr => ∃ (r : Nat) (PC : Option Addr) (cc : Nat) (Z : List Nat), m_ = nn6 - r ∧ a = Exch_F4 a.tmps (.bool back) (.pointer (some ⟨w.heap.size, 0, none⟩)) (.slice PC (pn - 1 + r) cc) (.int .i64 ((k : Nat) : Int)) (.pointer (some ⟨W7.heap.size, 0, none⟩)) (.slice AA5 nn6 nn7) (.int .i64 ((nn6 : Nat) : Int)) (.int .i64 ((r : Nat) : Int)) ∧ r ≤ nn6 ∧ Mur.LetA wr (w.heap.size + 1) 104 Z PC (pn - 1 + r) cc ((M.take i ++ M.drop (i + 1)) ++ ((Mur.repliesM S0 m).take r).map fun x_ => (true, x_)) ∧ (∀ q, q ∈ Z → q ∈ (Wk.blk (.slice AA4 (pn - 1) nn5) ++ X) ∨ q ∈ Y ∨ W18.heap.size ≤ q) ∧ (∀ q, (Value.slice PC (pn - 1 + r) cc).ownBlock = some q → q ∈ (Wk.blk (.slice AA4 (pn - 1) nn5) ++ X) ∨ W18.heap.size ≤ q) ∧ Chg (Wk.blk (.slice AA4 (pn - 1) nn5) ++ X) W18 wr) (nn6 - 0) ?_ ?_
  ·refine ⟨0, AA4, nn5, (Wk.blk (.slice AA4 (pn - 1) nn5) ++ X), rfl, by kernel_rfl, Nat.zero_le _, (by rw [List.take_zero, List.map_nil, List.append_nil]; exact hPw), (fun q_ hq_ => .inl hq_), (fun q_ hq_ => .inl (Mur.LetA.own hPw q_ hq_)), ((Chg.refl _).more (by simp))⟩
  rintro mm3 aa4 W23 ⟨r, PC, cc, Z, hmm3, hF4, hr, hPr, hZ, hoZ, HBr⟩
  generalize aa4.tmps = bb4 at hF4
  subst hF4
  have hzr := HBr.size
  have hPrl := hPr.len
  have hPrc := hPr.nc
  have hYr := Mur.MsgY.chg hYw HBr (fun q_ hq_ => Mur.off_iff.2 fun t_ ht_ => by have := hYm q_ hq_; have := hX3m t_ ht_; omega)
  have hLr : W23.heap[W7.heap.size]? = some (.cells (Mur.letC false (Mur.msgC m.kind PB pbn pbc m.sum m.cnt QB qbn qbc m.ans)).toArray 104 (0, 0)) := HBr.hp hLl (Mur.off_iff.2 fun t_ ht_ e_ => hX3L t_ ht_ e_.symm)
  have hYrl := hYr.len
  by_cases hltr : r < nn6
  ·obtain ⟨mr, hmr⟩ : ∃ m_, ((Mur.repliesM S0 m))[r]? = some m_ := ⟨_, List.getElem?_eq_getElem (by omega)⟩
   obtain ⟨⟨kdr, PR, prn, prc, sm_, cn_, QR, qrn, qrc, an_, hsr⟩, gr, hgr, hrr, hRok, hgY, hsY⟩ := Mur.MsgY.row0 hYr hmr
   have hRok_ := hRok
   obtain ⟨rfl, rfl, rfl, rfl, _, _, _, _, _, _⟩ := hRok_
   replace hsr : mr.sum.length = 32 := hsr
   replace hrr : W23.rangeAt gr (0 + r * 37) (msgC mr.kind PR prn prc mr.sum mr.cnt QR qrn qrc mr.ans) := hrr
   subst hgr
   refine wp_seq (reg ?_)
   refine rQ 0 87 _ rfl rfl (qboolT (b := decide (((r : Nat) : Int) < ((nn6 : Nat) : Int))) (decide_eq_true (by omega))) ?_
   refine rEnd 1 rfl (nxt (wp_seq (wp_cond_true (by kernel_rfl) (wp_skip (nxt (wp_seq (wp_block (wp_seq (reg ?_)))))))))
   refine rQ 0 88 (.pointer (some ⟨gr, 0 + r * 37, none⟩)) rfl rfl (index_sl 67 66 (.tmp 84) (.tmp 86) rfl Tryd.underlying67 37 (by kernel_rfl) gr 0 nn6 nn7 r .i64 (by kernel_rfl) (by kernel_rfl) (by omega)) ?_
   refine rQ 1 89 (.agg ((Mur.msgC mr.kind PR prn prc mr.sum mr.cnt QR qrn qrc mr.ans).toArray)) rfl rfl (loadR 66 (.tmp 88) rfl _ Tryd.underlying66 rfl gr (0 + r * 37) (by kernel_rfl) (Mur.msgC mr.kind PR prn prc mr.sum mr.cnt QR qrn qrc mr.ans) (by rw [Mur.msgC_length hsr]; kernel_rfl) hrr) ?_
   refine rX 2 16 rfl rfl (new_ex (.pointer (some ⟨W23.heap.size, 0, none⟩)) #[.int .u8 0, .slice none 0 0, .int .u8 0, .int .u8 0, .int .u8 0, .int .u8 0, .int .u8 0, .int .u8 0, .int .u8 0, .int .u8 0, .int .u8 0, .int .u8 0, .int .u8 0, .int .u8 0, .int .u8 0, .int .u8 0, .int .u8 0, .int .u8 0, .int .u8 0, .int .u8 0, .int .u8 0, .int .u8 0, .int .u8 0, .int .u8 0, .int .u8 0, .int .u8 0, .int .u8 0, .int .u8 0, .int .u8 0, .int .u8 0, .int .u8 0, .int .u8 0, .int .u8 0, .int .u8 0, .int .i64 0, .slice none 0 0, .bool false] 66 (by kernel_rfl)) ?_
   rintro _ W24 ⟨rfl, hb11, ch20, sz10⟩
   have zz20 := ch20.size
   refine rY 3 rfl rfl (Mur.storeArr 66 (.tmp 16) (.tmp 89) rfl W23.heap.size (by kernel_rfl) (Mur.msgC mr.kind PR prn prc mr.sum mr.cnt QR qrn qrc mr.ans).toArray 37 (Mur.msgC_size hsr) Mur.msgC_all (by kernel_rfl) (by kernel_rfl) 66 #[.int .u8 0, .slice none 0 0, .int .u8 0, .int .u8 0, .int .u8 0, .int .u8 0, .int .u8 0, .int .u8 0, .int .u8 0, .int .u8 0, .int .u8 0, .int .u8 0, .int .u8 0, .int .u8 0, .int .u8 0, .int .u8 0, .int .u8 0, .int .u8 0, .int .u8 0, .int .u8 0, .int .u8 0, .int .u8 0, .int .u8 0, .int .u8 0, .int .u8 0, .int .u8 0, .int .u8 0, .int .u8 0, .int .u8 0, .int .u8 0, .int .u8 0, .int .u8 0, .int .u8 0, .int .u8 0, .int .i64 0, .slice none 0 0, .bool false] hb11 (by kernel_rfl)) ?_
   rintro W25 ⟨hb12, ch21⟩
   have zz21 := ch21.size
   refine rEnd 4 rfl (nxt (reg ?_))
   refine rP 0 90 (.slice PC (pn - 1 + r) cc) rfl rfl ?_
   refine rP 1 91 (.pointer (some ⟨W7.heap.size, 0, none⟩)) rfl rfl ?_
   have kk23 : Chg [] W23 W24 := Chg.step ((Chg.refl _).more (by simp)) ch20 trivial
   have kk24 := Chg.step kk23 ch21 ⟨.inr (by omega), trivial⟩
   refine rQ 2 92 _ rfl rfl (load1 3 (.tmp 91) rfl (by kernel_rfl) ⟨W7.heap.size, 0, none⟩ (by kernel_rfl) (.int .i64 0) (Mur.let_to (range_row (Chg.hp kk24 hLr trivial)))) ?_
   refine rQ 3 93 _ rfl rfl (qint64 (n := 1 - 0) (z := 1) (by omega) (by omega) (by omega)) ?_
   refine rQ 4 94 (.agg ((Mur.msgC mr.kind PR prn prc mr.sum mr.cnt QR qrn qrc mr.ans).toArray)) rfl rfl (Mur.loadArr 66 (.tmp 16) rfl _ Tryd.underlying66 rfl W23.heap.size (by kernel_rfl) (Mur.msgC mr.kind PR prn prc mr.sum mr.cnt QR qrn qrc mr.ans).toArray 37 (Mur.msgC_size hsr) (by kernel_rfl) 66 (0, 0) hb12) ?_
   refine rQ 5 95 (.agg ((Mur.letC true (Mur.msgC mr.kind PR prn prc mr.sum mr.cnt QR qrn qrc mr.ans)).toArray)) rfl rfl (Mur.run_built 104 _ rfl [(0, .int .i64 1), (1, .agg ((Mur.msgC mr.kind PR prn prc mr.sum mr.cnt QR qrn qrc mr.ans).toArray))] (by kernel_rfl) _ (built_letter true (Mur.msgC_length hsr))) ?_
   refine rX 6 96 rfl rfl (Mur.buildR1 102 104 (.tmp 95) rfl Tryd.underlying102 (Mur.letC false Mur.msgZ) 38 112 lettI (Mur.letC_length rfl) (by decide) (by decide) (Mur.letC true (Mur.msgC mr.kind PR prn prc mr.sum mr.cnt QR qrn qrc mr.ans)) (Mur.letC_length (Mur.msgC_length hsr)) (by kernel_rfl)) ?_
   rintro _ W26 ⟨rfl, hb13, ch22, sz11⟩
   have zz22 := ch22.size
   have hPl6 := Mur.LetA.chg hPr ch20 (fun _ _ => trivial)
   have hPl7 := Mur.LetA.chg hPl6 ch21 (fun q_ hq_ => ⟨by have := Mur.LetA.mem hPr q_ hq_; omega, trivial⟩)
   have hPl8 := Mur.LetA.chg hPl7 ch22 (fun _ _ => trivial)
   have hlt4 : ∀ k_, (Value.slice PC (pn - 1 + r) cc).ownBlock = some k_ → w.heap.size + 1 ≤ k_ ∧ k_ < W23.heap.size := fun k_ h_ => Mur.LetA.mem hPr k_ (Mur.LetA.own hPr k_ h_)
   have kk25 := Chg.step kk24 ch22 trivial
   have hRk := hRok.keep (Wk.Keep.of kk25 (fun q_ hq_ => hRok.subs_lt q_ hq_) (fun _ _ => trivial)) (fun _ hq_ => hq_)
   refine rX 7 97 rfl rfl (Mur.appendL (.tmp 90) (.tmp 96) 102 104 rfl Tryd.underlying102 lettI (w.heap.size + 1) Z PC (pn - 1 + r) cc ((M.take i ++ M.drop (i + 1)) ++ ((Mur.repliesM S0 m).take r).map fun x_ => (true, x_)) W25.heap.size true ⟨mr.kind, PR, prn, prc, mr.sum, mr.cnt, QR, qrn, qrc, mr.ans, hsr⟩ mr (by kernel_rfl) (by kernel_rfl) hPl8 hb13 hRk (fun q_ hq_ => ⟨by have := hYm q_ (hsY q_ hq_); omega, fun e_ => by have h1_ := hYm q_ (hsY q_ hq_); rcases hoZ q_ e_ with h_ | h_ <;> first | (have := hX3m q_ h_; omega) | omega⟩) (by omega) (by omega)) ?_
   rintro _ W27 ⟨AA7, nn10, XX2, rfl, hPl9, ch23, hXl2, hol2⟩
   have zz23 := ch23.size
   have hq17 := hPl9.nc
   refine rP 8 5 (.slice AA7 (pn - 1 + r + 1) nn10) rfl rfl ?_
   refine rEnd 9 rfl (inN (nxt (reg ?_)))
   refine rQ 0 98 _ rfl rfl (qint64 (n := ((r : Nat) : Int) + 1) (z := ((r + 1 : Nat) : Int)) (by omega) (by omega) (by omega)) ?_
   refine rP 1 86 (.int .i64 ((r + 1 : Nat) : Int)) rfl rfl ?_
   refine rEnd 2 rfl (nxt ?_)
   have kk26 := Chg.step HBr ch20 trivial
   have kk27 := Chg.step kk26 ch21 ⟨.inr (by omega), trivial⟩
   have kk28 := Chg.step kk27 ch22 trivial
   have kk29 := Chg.step kk28 ch23 (Mur.newOr_iff.2 fun t_ ht_ => (hoZ t_ (Mur.blk_mem ht_)).imp id fun h_ => by omega)
   refine ⟨_, ?_, r + 1, AA7, nn10, XX2, rfl, by kernel_rfl, (by omega), (by rw [Mur.map_snoc hmr, ← List.append_assoc]; exact hPl9), (fun q_ hq_ => by rcases hXl2 q_ hq_ with h_ | h_ | h_ <;> first | exact hZ q_ h_ | exact .inr (.inl (hsY q_ h_)) | exact .inr (.inr (by omega))), (fun q_ hq_ => (hol2 q_ hq_).elim (hoZ q_) fun h_ => .inr (by omega)), kk29⟩
   omega
  rw [List.take_of_length_le (show ((Mur.repliesM S0 m)).length ≤ r by omega)] at hPr
  have hDbr := Mur.SetF.chg hDl HBr (fun s_ hs_ => Mur.off_iff.2 fun t_ ht_ e_ => hX3G t_ ht_ (e_ ▸ hs_))
  have hDor := Mur.SetF.chg hDo HBr (fun s_ hs_ => Mur.off_iff.2 fun t_ ht_ e_ => (hX3E t_ ht_).2 (e_ ▸ hs_))
  have hXr : W23.heap[w.heap.size]? = some (.cells #[.pointer (some ⟨g0, 0, none⟩), .pointer (some ⟨g1, 0, none⟩)] 62 (0, 0)) := HBr.hp hXl (Mur.off_iff.2 fun t_ ht_ => by have := (hX3m t_ ht_).1; omega)
  refine wp_seq (reg ?_)
  refine rQ 0 87 _ rfl rfl (qboolF (b := decide (((r : Nat) : Int) < ((nn6 : Nat) : Int))) (decide_eq_false (by omega))) ?_
  refine rEnd 1 rfl (nxt (wp_seq (wp_cond_false (by kernel_rfl) (wp_exit (thX (thX (inX (inN (nxt (reg ?_))))))))))
  refine rP 0 33 (.int .i64 ((k : Nat) : Int)) rfl rfl ?_
  refine rQ 1 34 _ rfl rfl (qint64 (n := ((k : Nat) : Int) + 1) (z := ((k + 1 : Nat) : Int)) (by omega) (by omega) (by omega)) ?_
  refine rP 2 8 (.int .i64 ((k + 1 : Nat) : Int)) rfl rfl ?_
  refine rEnd 3 rfl (nxt ?_)
  have hQ1 := Chg.step HB hcE trivial
  have hQ2 := Chg.step hQ1 HBl (Mur.newOr_iff.2 fun t_ ht_ => (hN0 t_ ht_).elim (fun h_ => .inl (List.mem_append_left _ h_)) fun h_ => .inr (by omega))
  have hQ3 := Chg.step hQ2 HBr (Mur.newOr_iff.2 fun t_ ht_ => .inr (by have := (hX3m t_ ht_).1; omega))
  have hMo25 := Mur.SetF.mem hDor
  have hZG : ∀ q_, q_ ∈ Z → q_ ∉ G := (fun q_ hq_ h_ => by rcases hZ q_ hq_ with k_ | k_ | k_ <;> first | exact hX3G q_ k_ h_ | exact hYG q_ k_ h_ | (have := (hG25 q_ h_).2; omega))
  have hZO : ∀ q_, q_ ∈ Z → q_ ∉ E1 := (fun q_ hq_ h_ => by rcases hZ q_ hq_ with k_ | k_ | k_ <;> first | exact (hX3E q_ k_).2 h_ | (have := (hM1_ q_ h_).2; have := hYm q_ k_; omega) | (have := (hM1_ q_ h_).2; omega))
  refine ⟨_, ?_, k + 1, PC, pn - 1 + r, cc, Z, ((M.take i ++ M.drop (i + 1)) ++ (Mur.repliesM S0 m).map fun x_ => (true, x_)), (Mur.addsL (Mur.learnsM S0 m) S0), S1, G, E1, rfl, by kernel_rfl, (Mur.exch_f T hE hi_), hPr, (fun q_ hq_ => ⟨hZG q_ hq_, hZO q_ hq_⟩), hDbr, hDor, (fun s_ h_ k_ => (hNl s_ h_).elim (fun h2_ => hJ0 s_ h2_ k_) fun h2_ => by have := (hM1_ s_ k_).2; omega), (fun t_ ht_ => (hNl t_ ht_).elim (hN0 t_) fun h_ => .inr (by omega)), hN1, hXr, hQ3⟩
  omega
 obtain ⟨⟨kdm, PB, pbn, pbc, sm_, cn_, QB, qbn, qbc, an_, hsm⟩, gp, hgp, hrg, ⟨rfl, rfl, rfl, rfl, hby, hsl, hnp, hnq, hac, hpc⟩, hgX, hsX⟩ := Mur.LetA.row0 hP hi_
 replace hsm : m.sum.length = 32 := hsm
 replace hrg : W7.rangeAt gp (0 + i * 38) (Mur.letC true (msgC m.kind PB pbn pbc m.sum m.cnt QB qbn qbc m.ans)) := hrg
 replace hby : Byt W7 PB pbn m.pre := hby
 replace hsl : SlA W7 QB qbn m.items := hsl
 replace hnp : PB = none → pbc = 0 := hnp
 replace hac : qbn ≤ qbc ∧ qbc ≤ 9223372036854775807 := hac
 replace hpc : pbn ≤ pbc ∧ pbc ≤ 9223372036854775807 := hpc
 have hbyl := hby.1
 have hsll := hsl.len
 have hmm_ := hE.inv.may_ _ (List.mem_of_getElem? hi_)
 have hml_ := Mur.pre_len hmm_.1
 have hmi_ := hmm_.2.2.2.1
 simp only at hml_ hmi_
 have hlp : ∀ g_ off_, PB = some ⟨g_, off_, none⟩ → 0 < pbn → w.heap.size + 1 ≤ g_ ∧ g_ < W7.heap.size := fun g_ off_ e_ hn_ => hXm_ g_ (hsX g_ (List.mem_append_left _ (Mur.pblk_mem e_ hn_)))
 have hlq : ∀ g_ off_, QB = some ⟨g_, off_, none⟩ → 0 < qbn → w.heap.size + 1 ≤ g_ ∧ g_ < W7.heap.size := fun g_ off_ e_ hn_ => hXm_ g_ (hsX g_ (List.mem_append_right _ (Mur.pblk_mem e_ hn_)))
 subst hgp
 have hP_ := hP
 obtain ⟨RL, hOR, hKR, hXR, hBR, hSR, hMR⟩ := hP_
 have hlR_ := hKR.length
 obtain ⟨AD, hAD⟩ : ∃ A_, A_ = if pc = i + 1 then some ⟨gp, 0, none⟩ else (some (⟨gp, 0, none⟩ : Addr)).map (·.add ((i + 1) * 38)) := ⟨_, rfl⟩
 refine rP 0 43 (.slice (some ⟨gp, 0, none⟩) pn pc) rfl rfl ?_
 refine rP 1 44 (.int .i64 ((i : Nat) : Int)) rfl rfl ?_
 refine rQ 2 45 (.pointer (some ⟨gp, 0 + i * 38, none⟩)) rfl rfl (index_sl 102 104 (.tmp 43) (.tmp 44) rfl Tryd.underlying102 38 (by kernel_rfl) gp 0 pn pc i .i64 (by kernel_rfl) (by kernel_rfl) (by omega)) ?_
 refine rQ 3 46 (.agg ((Mur.letC true (Mur.msgC m.kind PB pbn pbc m.sum m.cnt QB qbn qbc m.ans)).toArray)) rfl rfl (loadR 104 (.tmp 45) rfl _ Tryd.underlying104 rfl gp (0 + i * 38) (by kernel_rfl) (Mur.letC true (Mur.msgC m.kind PB pbn pbc m.sum m.cnt QB qbn qbc m.ans)) (by rw [Mur.letC_length (Mur.msgC_length hsm)]; kernel_rfl) hrg) ?_
 refine rX 4 10 rfl rfl (new_ex (.pointer (some ⟨W7.heap.size, 0, none⟩)) #[.int .i64 0, .int .u8 0, .slice none 0 0, .int .u8 0, .int .u8 0, .int .u8 0, .int .u8 0, .int .u8 0, .int .u8 0, .int .u8 0, .int .u8 0, .int .u8 0, .int .u8 0, .int .u8 0, .int .u8 0, .int .u8 0, .int .u8 0, .int .u8 0, .int .u8 0, .int .u8 0, .int .u8 0, .int .u8 0, .int .u8 0, .int .u8 0, .int .u8 0, .int .u8 0, .int .u8 0, .int .u8 0, .int .u8 0, .int .u8 0, .int .u8 0, .int .u8 0, .int .u8 0, .int .u8 0, .int .u8 0, .int .i64 0, .slice none 0 0, .bool false] 104 (by kernel_rfl)) ?_
 rintro _ W28 ⟨rfl, hb14, ch24, sz12⟩
 have zz24 := ch24.size
 refine rY 5 rfl rfl (Mur.storeArr 104 (.tmp 10) (.tmp 46) rfl W7.heap.size (by kernel_rfl) (Mur.letC true (Mur.msgC m.kind PB pbn pbc m.sum m.cnt QB qbn qbc m.ans)).toArray 38 (Mur.letC_size (Mur.msgC_length hsm)) (Mur.letC_all Mur.msgC_one) (by kernel_rfl) (by kernel_rfl) 104 #[.int .i64 0, .int .u8 0, .slice none 0 0, .int .u8 0, .int .u8 0, .int .u8 0, .int .u8 0, .int .u8 0, .int .u8 0, .int .u8 0, .int .u8 0, .int .u8 0, .int .u8 0, .int .u8 0, .int .u8 0, .int .u8 0, .int .u8 0, .int .u8 0, .int .u8 0, .int .u8 0, .int .u8 0, .int .u8 0, .int .u8 0, .int .u8 0, .int .u8 0, .int .u8 0, .int .u8 0, .int .u8 0, .int .u8 0, .int .u8 0, .int .u8 0, .int .u8 0, .int .u8 0, .int .u8 0, .int .u8 0, .int .i64 0, .slice none 0 0, .bool false] hb14 (by kernel_rfl)) ?_
 rintro W29 ⟨hb15, ch25⟩
 have zz25 := ch25.size
 refine rEnd 6 rfl (nxt (wp_seq ?_))
 refine dReg ([]) (by kernel_rfl) ?_
 intro W30 ch26 sz13
 have zz26 := ch26.size
 have sS9 : Chg ([]) W30 W30 := (Chg.refl _).more (by simp)
 refine dV 1 48 (.slice (some ⟨gp, 0, none⟩) pn pc) rfl rfl (fun _ _ => by kernel_rfl) sS9 ?_
 refine dV 2 49 (.int .i64 ((i : Nat) : Int)) rfl rfl (fun _ _ => by kernel_rfl) sS9 ?_
 refine dV 3 50 (.slice (some ⟨gp, 0, none⟩) i pc) rfl rfl (fun w' hw' => (Mur.run_toK 102 (.tmp 48) (.tmp 49) rfl 104 Tryd.underlying102 38 (by kernel_rfl) (some ⟨gp, 0, none⟩) pn pc i (.inr ⟨gp, 0, rfl⟩) (by kernel_rfl) (by kernel_rfl) (by omega))) sS9 ?_
 refine dV 5 52 (.slice (some ⟨gp, 0, none⟩) pn pc) rfl rfl (fun _ _ => by kernel_rfl) sS9 ?_
 refine dV 6 53 (.int .i64 ((i : Nat) : Int)) rfl rfl (fun _ _ => by kernel_rfl) sS9 ?_
 refine dV 7 54 (.int .i64 ((i + 1 : Nat) : Int)) rfl rfl (fun w' hw' => (int64 (n := ((i : Nat) : Int) + 1) (z := ((i + 1 : Nat) : Int)) (by omega) (by omega) (by omega) (by kernel_rfl))) sS9 ?_
 refine dV 8 55 (.slice AD (pn - (i + 1)) (pc - (i + 1))) rfl rfl (fun w' hw' => (Mur.run_fromL 102 (.tmp 52) (.tmp 54) rfl 104 Tryd.underlying102 (by kernel_rfl) (some ⟨gp, 0, none⟩) AD pn pc (i + 1) hAD (by kernel_rfl) (by kernel_rfl) (by omega) (pn - (i + 1)) rfl)) sS9 ?_
 refine dOp 0 (by kernel_rfl) ?_
 refine oEx (some 47) _ rfl rfl (by kernel_rfl) (new_ex (.slice (some ⟨W30.heap.size, 0, none⟩) 0 0) #[] 104 (by kernel_rfl)) ?_
 rintro _ W31 ⟨rfl, hb16, ch27, sz14⟩
 have zz27 := ch27.size
 have sS10 := Chg.step sS9 ch27 trivial
 refine ⟨sS10, ?_⟩
 refine dOp 4 (by kernel_rfl) ?_
 have kk30 : Chg [] W7 W28 := Chg.step ((Chg.refl _).more (by simp)) ch24 trivial
 have kk31 := Chg.step kk30 ch25 ⟨.inr (by omega), trivial⟩
 have kk32 := Chg.step kk31 ch26 trivial
 have kk33 := Chg.step kk32 ch27 trivial
 have hO4 : Mur.OwnR W31 W30.heap.size 104 38 (some ⟨W30.heap.size, 0, none⟩) 0 0 [] := Mur.ownR_empty hb16 (Nat.le_refl _) (by decide)
 have hlt5 := hO4.lt
 refine oEx (some 51) _ rfl rfl (by kernel_rfl) (Mur.appendR (.tmp 47) (.tmp 50) 102 104 rfl Tryd.underlying102 _ 38 112 lettI rfl (by decide) (by decide) W30.heap.size (some ⟨W30.heap.size, 0, none⟩) 0 0 [] (some ⟨gp, 0, none⟩) i pc ((Mur.letR RL).take i) (by kernel_rfl) (by kernel_rfl) hO4 ((hOR.slR.chg kk33 (fun _ _ _ _ => trivial)).take i (by omega)) (fun h => by cases h) (by omega) (by omega) i (Nat.zero_add _)) ?_
 rintro _ W32 ⟨AA8, nn11, rfl, hO5, ch28, _⟩
 have zz28 := ch28.size
 have hq18 := hO5.nc
 have sS11 := Chg.step sS10 ch28 (newOr_blk (fun g hg => by have := hlt5 g hg; omega))
 refine ⟨sS11, ?_⟩
 refine dOp 9 (by kernel_rfl) ?_
 have kk34 := Chg.step kk33 ch28 (newOr_blk (fun g hg => by have := hlt5 g hg; omega))
 have hsf2 := Mur.slR_from (hOR.slR.chg kk34 (fun _ _ _ _ => trivial)) (by omega) hAD (by omega)
 have hlt6 := hO5.lt
 refine oEx (some 56) _ rfl rfl (by kernel_rfl) (Mur.appendR (.tmp 51) (.tmp 55) 102 104 rfl Tryd.underlying102 _ 38 112 lettI rfl (by decide) (by decide) W30.heap.size AA8 i nn11 ([] ++ (Mur.letR RL).take i) AD (pn - (i + 1)) (pc - (i + 1)) ((Mur.letR RL).drop (i + 1)) (by kernel_rfl) (by kernel_rfl) hO5 hsf2.1 hsf2.2 (by omega) (by omega) (pn - 1) (by omega)) ?_
 rintro _ W33 ⟨AA9, nn12, rfl, hO6, ch29, _⟩
 have zz29 := ch29.size
 have hq19 := hO6.nc
 have sS12 := Chg.step sS11 ch29 (newOr_blk (fun g hg => by have := hlt6 g hg; omega))
 refine ⟨sS12, ?_⟩
 refine dV 10 5 (.slice AA9 (pn - 1) nn12) rfl rfl (fun _ _ => by kernel_rfl) sS12 ?_
 refine dEnd (by kernel_rfl) (nxt (wp_seq (wp_seq (reg ?_))))
 have kk35 := Chg.step kk34 ch29 (newOr_blk (fun g hg => by have := hlt6 g hg; omega))
 have hPc : Mur.LetA W33 (w.heap.size + 1) 104 (Wk.blk (.slice AA9 (pn - 1) nn12) ++ X) AA9 (pn - 1) nn12 (M.take i ++ M.drop (i + 1)) := Mur.letA_cut hKR hXR hMR hO6 kk35 (by omega) (by omega)
 have hOlt := hO6.lt
 have hX3E : ∀ q_, q_ ∈ (Wk.blk (.slice AA9 (pn - 1) nn12) ++ X) → q_ ∉ E0 ∧ q_ ∉ E1 := fun q_ hq_ => by rcases List.mem_append.1 hq_ with h_ | h_ <;> first | exact hXE q_ h_ | (have h2_ := hOlt q_ (Mur.blk_mem h_); exact ⟨fun k_ => by have := (hM0_ q_ k_).2; omega, fun k_ => by have := (hM1_ q_ k_).2; omega⟩)
 have hX3L : ∀ q_, q_ ∈ (Wk.blk (.slice AA9 (pn - 1) nn12) ++ X) → q_ ≠ W7.heap.size := fun q_ hq_ => by rcases List.mem_append.1 hq_ with h_ | h_ <;> first | (have h2_ := hOlt q_ (Mur.blk_mem h_); omega) | (have := hXm_ q_ h_; omega)
 have hX3m := Mur.LetA.mem hPc
 have hPcl := hPc.len
 have hPcc := hPc.nc
 refine rP 0 57 (.pointer (some ⟨W7.heap.size, 1, none⟩)) rfl rfl ?_
 refine rQ 1 58 (.agg ((Mur.msgC m.kind PB pbn pbc m.sum m.cnt QB qbn qbc m.ans).toArray)) rfl rfl (loadR 66 (.tmp 57) rfl _ Tryd.underlying66 rfl W7.heap.size 1 (by kernel_rfl) (Mur.msgC m.kind PB pbn pbc m.sum m.cnt QB qbn qbc m.ans) (by rw [Mur.msgC_length hsm]; kernel_rfl) (show World.rangeAt _ _ (0 + 1) _ from Mur.let_msg (range_row (Chg.hp ch29 (Chg.hp ch28 (Chg.hp ch27 (Chg.hp ch26 hb15 trivial) trivial) (off_blk (fun gz hgz => by have := hlt5 gz hgz; omega))) (off_blk (fun gz hgz => by have := hlt6 gz hgz; omega)))))) ?_
 refine rC 2 59 37 [.tmp 58] #[66] [.agg ((Mur.msgC m.kind PB pbn pbc m.sum m.cnt QB qbn qbc m.ans).toArray)] rfl rfl rfl ?_
 refine (May_any m.kind m.pre PB pbn pbc m.sum m.cnt m.items QB qbn qbc m.ans W33 hsm (Mur.byt_chgp hby kk35 (fun g off e hn hl => trivial)) (Mur.SlA.chgp hsl kk35 (fun g off e hn hl => trivial)) (by omega) (by omega)).mono ?_
 rintro _ W34 ⟨vv2, rfl, hvm2, ch30⟩
 have zz30 := ch30.size
 cases vv2
 ·exact absurd (hvm2.2 hmm_) (by decide)
 have hmay2 : Mur.mayM ⟨m.kind, m.pre, m.sum, m.cnt, m.items, m.ans⟩ := hvm2.1 rfl
 refine ⟨_, rfl, ?_⟩
 refine rP 3 60 (.bool false) rfl rfl ?_
 refine rEnd 4 rfl (nxt (wp_cond_false (by kernel_rfl) (wp_skip (nxt (wp_seq ?_)))))
 refine dReg ([]) (by kernel_rfl) ?_
 intro W35 ch31 sz15
 have zz31 := ch31.size
 have sS13 : Chg ([]) W35 W35 := (Chg.refl _).more (by simp)
 refine dV 0 62 (.pointer (some ⟨W7.heap.size, 0, none⟩)) rfl rfl (fun _ _ => by kernel_rfl) sS13 ?_
 refine dV 1 63 (.int .i64 1) rfl rfl (fun w' hw' => (load1 3 (.tmp 62) rfl (by kernel_rfl) ⟨W7.heap.size, 0, none⟩ (by kernel_rfl) (.int .i64 1) (Mur.let_to (range_row (Chg.hp hw' (Chg.hp ch31 (Chg.hp ch30 (Chg.hp ch29 (Chg.hp ch28 (Chg.hp ch27 (Chg.hp ch26 hb15 trivial) trivial) (off_blk (fun gz hgz => by have := hlt5 gz hgz; omega))) (off_blk (fun gz hgz => by have := hlt6 gz hgz; omega))) trivial) trivial) trivial))))) sS13 ?_
 refine dV 2 64 (.pointer (some ⟨w.heap.size, 1, none⟩)) rfl rfl (fun w' hw' => (Wk.index_arr 62 24 (.tmp 2) (.tmp 63) rfl 2 Tryd.underlying62 1 (by kernel_rfl) w.heap.size 0 1 .i64 (by kernel_rfl) (by kernel_rfl) (by decide))) sS13 ?_
 have kk36 := Chg.step kk35 ch30 trivial
 have kk37 := Chg.step kk36 ch31 trivial
 refine dV 3 65 (.pointer (some ⟨g1, 0, none⟩)) rfl rfl (fun w' hw' => (load1 24 (.tmp 64) rfl (by kernel_rfl) ⟨w.heap.size, 1, none⟩ (by kernel_rfl) (.pointer (some ⟨g1, 0, none⟩)) ((cell_of_row _ _ 1 _ _ _ (Chg.hp hw' (Chg.hp kk37 hX trivial) trivial)).trans rfl))) sS13 ?_
 refine dV 4 66 (.pointer (some ⟨W7.heap.size, 1, none⟩)) rfl rfl (fun _ _ => by kernel_rfl) sS13 ?_
 refine dV 5 67 (.agg ((Mur.msgC m.kind PB pbn pbc m.sum m.cnt QB qbn qbc m.ans).toArray)) rfl rfl (fun w' hw' => (loadR 66 (.tmp 66) rfl _ Tryd.underlying66 rfl W7.heap.size 1 (by kernel_rfl) (Mur.msgC m.kind PB pbn pbc m.sum m.cnt QB qbn qbc m.ans) (by rw [Mur.msgC_length hsm]; kernel_rfl) (show World.rangeAt _ _ (0 + 1) _ from Mur.let_msg (range_row (Chg.hp hw' (Chg.hp ch31 (Chg.hp ch30 (Chg.hp ch29 (Chg.hp ch28 (Chg.hp ch27 (Chg.hp ch26 hb15 trivial) trivial) (off_blk (fun gz hgz => by have := hlt5 gz hgz; omega))) (off_blk (fun gz hgz => by have := hlt6 gz hgz; omega))) trivial) trivial) trivial))))) sS13 ?_
 refine dOp 6 (by kernel_rfl) ?_
 refine oCall (some 68) 36 [.tmp 65, .tmp 67] #[24, 66] [.pointer (some ⟨g1, 0, none⟩), .agg ((Mur.msgC m.kind PB pbn pbc m.sum m.cnt QB qbn qbc m.ans).toArray)] rfl rfl (by kernel_rfl) rfl (by kernel_rfl) (by kernel_rfl) ?_
 have hD35 := Mur.SetF.chg hD1 ch24 (fun s hs => trivial)
 have hD36 := Mur.SetF.chg hD35 ch25 (fun s hs => ⟨by have := hM1_ s hs; omega, trivial⟩)
 have hD37 := Mur.SetF.chg hD36 ch26 (fun s hs => trivial)
 have hD38 := Mur.SetF.chg hD37 ch27 (fun s hs => trivial)
 have hD39 := Mur.SetF.chg hD38 ch28 (fun s hs => (off_blk (fun gz hgz => by have := hlt5 gz hgz; have := hM1_ s hs; omega)))
 have hD40 := Mur.SetF.chg hD39 ch29 (fun s hs => (off_blk (fun gz hgz => by have := hlt6 gz hgz; have := hM1_ s hs; omega)))
 have hD41 := Mur.SetF.chg hD40 ch30 (fun s hs => trivial)
 have hD42 := Mur.SetF.chg hD41 ch31 (fun s hs => trivial)
 refine (Hear_any lo1 S1 g1 E1 m.kind m.pre PB pbn pbc m.sum m.cnt m.items QB qbn qbc m.ans W35 (HVr.out.below (Chg.below0 kk37)) hD42 hsm (Mur.byt_chgp hby kk37 (fun g off e hn hl => trivial)) hnp (Mur.SlA.chgp hsl kk37 (fun g off e hn hl => trivial)) (by omega) (by omega)).mono ?_
 rintro _ W36 ⟨AA10, nn13, nn14, AA11, nn15, nn16, rfl, ow7, ow8, ch32⟩
 have zz32 := ch32.size
 have hq20 : nn13 ≤ 9223372036854775807 := Nat.le_trans ow7.nc (Nat.le_trans ow7.cm (by unfold Go.maxLen; omega))
 have hq21 : nn15 ≤ 9223372036854775807 := Nat.le_trans ow8.nc (Nat.le_trans ow8.cm (by unfold Go.maxLen; omega))
 replace ow7 : Mur.MsgA W36 W35.heap.size 66 AA10 nn13 nn14 (Mur.repliesM S1 m) := ow7
 replace ow8 : OwnA W36 W35.heap.size 32 AA11 nn15 nn16 (Mur.learnsM S1 m) := ow8
 have hq22 := ow7.nc
 have hq23 := ow7.cm
 have hq24 := ow7.len
 have hq25 := ow8.nc
 have hq26 := ow8.cm
 have hq27 := ow8.sl.len
 have sS14 := Chg.step sS13 ch32 trivial
 refine ⟨_, rfl, sS14, ?_⟩
 refine dV 7 61 (.tuple #[.slice AA10 nn13 nn14, .slice AA11 nn15 nn16]) rfl rfl (fun _ _ => by kernel_rfl) sS14 ?_
 refine dV 8 69 (.slice AA10 nn13 nn14) rfl rfl (fun _ _ => by kernel_rfl) sS14 ?_
 refine dV 9 70 (.slice AA11 nn15 nn16) rfl rfl (fun _ _ => by kernel_rfl) sS14 ?_
 refine dV 10 11 (.slice AA10 nn13 nn14) rfl rfl (fun _ _ => by kernel_rfl) sS14 ?_
 refine dV 11 12 (.slice AA11 nn15 nn16) rfl rfl (fun _ _ => by kernel_rfl) sS14 ?_
 refine dEnd (by kernel_rfl) (nxt (wp_seq (wp_seq (reg ?_))))
 have hPl10 := Mur.LetA.chg hPc ch30 (fun _ _ => trivial)
 have hPl11 := Mur.LetA.chg hPl10 ch31 (fun _ _ => trivial)
 have hPl12 := Mur.LetA.chg hPl11 ch32 (fun _ _ => trivial)
 have hD43 := Mur.SetF.chg hD0 ch24 (fun s hs => trivial)
 have hD44 := Mur.SetF.chg hD43 ch25 (fun s hs => ⟨by have := hM0_ s hs; omega, trivial⟩)
 have hD45 := Mur.SetF.chg hD44 ch26 (fun s hs => trivial)
 have hD46 := Mur.SetF.chg hD45 ch27 (fun s hs => trivial)
 have hD47 := Mur.SetF.chg hD46 ch28 (fun s hs => (off_blk (fun gz hgz => by have := hlt5 gz hgz; have := hM0_ s hs; omega)))
 have hD48 := Mur.SetF.chg hD47 ch29 (fun s hs => (off_blk (fun gz hgz => by have := hlt6 gz hgz; have := hM0_ s hs; omega)))
 have hD49 := Mur.SetF.chg hD48 ch30 (fun s hs => trivial)
 have hD50 := Mur.SetF.chg hD49 ch31 (fun s hs => trivial)
 have hD51 := Mur.SetF.chg hD50 ch32 (fun s hs => trivial)
 have hD52 := Mur.SetF.chg hD42 ch32 (fun s hs => trivial)
 have kk38 := Chg.step kk37 ch32 trivial
 obtain ⟨Y, hY, hYm⟩ := Mur.MsgA.toY ow7
 have hLm := ow8.lt
 have hHe : OwnA W36 W35.heap.size 32 AA11 nn15 nn16 (Mur.learnsM S1 m) := ow8
 have hD0e := hD51
 have hD1e := hD52
 have hPe := hPl12
 have hXe : W36.heap[w.heap.size]? = some (.cells #[.pointer (some ⟨g0, 0, none⟩), .pointer (some ⟨g1, 0, none⟩)] 62 (0, 0)) := (Chg.hp kk38 hX trivial)
 have hHel := hHe.sl.len
 have hYl := hY.len
 have hcE := kk38
 have hPem := Mur.LetA.mem hPe
 have hLe : W36.heap[W7.heap.size]? = some (.cells (Mur.letC true (Mur.msgC m.kind PB pbn pbc m.sum m.cnt QB qbn qbc m.ans)).toArray 104 (0, 0)) := (Chg.hp ch32 (Chg.hp ch31 (Chg.hp ch30 (Chg.hp ch29 (Chg.hp ch28 (Chg.hp ch27 (Chg.hp ch26 hb15 trivial) trivial) (off_blk (fun gz hgz => by have := hlt5 gz hgz; omega))) (off_blk (fun gz hgz => by have := hlt6 gz hgz; omega))) trivial) trivial) trivial)
 have hEn_ := Mur.exch_t T hE hi_
 have hEl_ : pn - 1 + nn13 ≤ 16803 := by have h1_ := hEn_.low; have h2_ := Mur.costP_len U ((M.take i ++ M.drop (i + 1)) ++ (Mur.repliesM S1 m).map fun x_ => (false, x_)); rw [List.length_append, List.length_map] at h2_; omega
 have hlbl := (Array.getElem?_eq_some_iff.1 hLe).1
 have hnE : ∀ t_, t_ ∈ E1 → t_ < W35.heap.size := fun t_ ht_ => by have := (hM1_ t_ ht_).2; omega
 have hbE_ := hcE.size
 refine rP 0 71 (.slice AA11 nn15 nn16) rfl rfl ?_
 refine rP 1 72 (.int .i64 ((nn15 : Nat) : Int)) rfl rfl ?_
 refine rP 2 73 (.int .i64 0) rfl rfl ?_
 refine rEnd 3 rfl (nxt (wp_block ?_))
 refine Wk.loop (fun m_ a wr => ∃ (j : Nat) (G : List Nat), m_ = nn15 - j ∧ a = Exch_F5 a.tmps (.bool back) (.pointer (some ⟨w.heap.size, 0, none⟩)) (.slice AA9 (pn - 1) nn12) (.int .i64 ((k : Nat) : Int)) (.pointer (some ⟨W7.heap.size, 0, none⟩)) (.slice AA10 nn13 nn14) (.slice AA11 nn15 nn16) (.int .i64 ((nn15 : Nat) : Int)) (.int .i64 ((j : Nat) : Int)) ∧ j ≤ nn15 ∧ Mur.SetF 32 57 lo1 wr g1 (Mur.addsL ((Mur.learnsM S1 m).take j) S1) G ∧ (∀ t, t ∈ G → t ∈ E1 ∨ W36.heap.size ≤ t) ∧ Chg E1 W36 wr) (nn15 - 0) ?_ ?_
 ·refine ⟨0, E1, rfl, by kernel_rfl, Nat.zero_le _, (by rw [List.take_zero]; exact hD1e), (fun t_ ht_ => .inl ht_), ((Chg.refl _).more (by simp))⟩
 rintro mm4 aa5 W37 ⟨j, G, hmm4, hF5, hj, hDl, hNl, HBl⟩
 generalize aa5.tmps = bb5 at hF5
 subst hF5
 have hzl := HBl.size
 have hDo := Mur.SetF.chg hD0e HBl (fun s_ hs_ => Mur.Dj.off1 hJ1_ hs_)
 have hGm := Mur.SetF.mem hDl
 have hGl : ∀ t_, t_ ∈ G → (lo1 ≤ t_ ∧ t_ < W37.heap.size) ∧ t_ ≠ w.heap.size ∧ t_ ≠ W7.heap.size := fun t_ ht_ => ⟨hGm t_ ht_, (hNl t_ ht_).elim (hs1_ t_) fun h_ => by omega, (hNl t_ ht_).elim (fun h_ => by have := (hM1_ t_ h_).2; omega) fun h_ => by omega⟩
 have hXl : W37.heap[w.heap.size]? = some (.cells #[.pointer (some ⟨g0, 0, none⟩), .pointer (some ⟨g1, 0, none⟩)] 62 (0, 0)) := HBl.hp hXe (Mur.off_iff.2 fun t_ ht_ e_ => hs1_ t_ ht_ e_.symm)
 have hLl : W37.heap[W7.heap.size]? = some (.cells (Mur.letC true (Mur.msgC m.kind PB pbn pbc m.sum m.cnt QB qbn qbc m.ans)).toArray 104 (0, 0)) := HBl.hp hLe (Mur.off_iff.2 fun t_ ht_ => by have := hM1_ t_ ht_; omega)
 have hHl := Mur.OwnA.chg hHe HBl (fun q_ e_ _ _ => Mur.off_iff.2 fun t_ ht_ => by have := hLm q_ e_; have := hnE t_ ht_; omega)
 by_cases hltj : j < nn15
 ·obtain ⟨g_x, o_x, rfl, _⟩ := hHl.sl.ex (by omega)
  obtain ⟨x, hx⟩ : ∃ x, (Mur.learnsM S1 m)[j]? = some x := ⟨_, List.getElem?_eq_getElem (by have := hHl.sl.len; omega)⟩
  refine wp_seq (reg ?_)
  refine rQ 0 74 _ rfl rfl (qboolT (b := decide (((j : Nat) : Int) < ((nn15 : Nat) : Int))) (decide_eq_true (by omega))) ?_
  refine rEnd 1 rfl (nxt (wp_seq (wp_cond_true (by kernel_rfl) (wp_skip (nxt (wp_seq (wp_block (wp_seq (reg ?_)))))))))
  refine rQ 0 75 (.pointer (some ⟨g_x, o_x + j * 97, none⟩)) rfl rfl (index_sl 22 32 (.tmp 71) (.tmp 73) rfl Tryd.underlying22 97 (by kernel_rfl) g_x o_x nn15 nn16 j .i64 (by kernel_rfl) (by kernel_rfl) (by omega)) ?_
  refine rQ 1 76 (.agg ((Mur.attC x.k x.r x.n x.t).toArray)) rfl rfl (loadR 32 (.tmp 75) rfl _ Tryd.underlying32 rfl g_x (o_x + j * 97) (by kernel_rfl) (Mur.attC x.k x.r x.n x.t) (by rw [Mur.attC_length x.hk x.hr x.ht]; kernel_rfl) (hHl.sl.elem hx)) ?_
  refine rX 2 14 rfl rfl (new_ex (.pointer (some ⟨W37.heap.size, 0, none⟩)) #[.int .u8 0, .int .u8 0, .int .u8 0, .int .u8 0, .int .u8 0, .int .u8 0, .int .u8 0, .int .u8 0, .int .u8 0, .int .u8 0, .int .u8 0, .int .u8 0, .int .u8 0, .int .u8 0, .int .u8 0, .int .u8 0, .int .u8 0, .int .u8 0, .int .u8 0, .int .u8 0, .int .u8 0, .int .u8 0, .int .u8 0, .int .u8 0, .int .u8 0, .int .u8 0, .int .u8 0, .int .u8 0, .int .u8 0, .int .u8 0, .int .u8 0, .int .u8 0, .int .u8 0, .int .u8 0, .int .u8 0, .int .u8 0, .int .u8 0, .int .u8 0, .int .u8 0, .int .u8 0, .int .u8 0, .int .u8 0, .int .u8 0, .int .u8 0, .int .u8 0, .int .u8 0, .int .u8 0, .int .u8 0, .int .u8 0, .int .u8 0, .int .u8 0, .int .u8 0, .int .u8 0, .int .u8 0, .int .u8 0, .int .u8 0, .int .u8 0, .int .u8 0, .int .u8 0, .int .u8 0, .int .u8 0, .int .u8 0, .int .u8 0, .int .u8 0, .int .i64 0, .int .u8 0, .int .u8 0, .int .u8 0, .int .u8 0, .int .u8 0, .int .u8 0, .int .u8 0, .int .u8 0, .int .u8 0, .int .u8 0, .int .u8 0, .int .u8 0, .int .u8 0, .int .u8 0, .int .u8 0, .int .u8 0, .int .u8 0, .int .u8 0, .int .u8 0, .int .u8 0, .int .u8 0, .int .u8 0, .int .u8 0, .int .u8 0, .int .u8 0, .int .u8 0, .int .u8 0, .int .u8 0, .int .u8 0, .int .u8 0, .int .u8 0, .int .u8 0] 32 (by kernel_rfl)) ?_
  rintro _ W38 ⟨rfl, hb17, ch33, sz16⟩
  have zz33 := ch33.size
  rw [← Mur.attC_zero] at hb17
  refine rY 3 rfl rfl (Mur.storeArr 32 (.tmp 14) (.tmp 76) rfl W37.heap.size (by kernel_rfl) (Mur.attC x.k x.r x.n x.t).toArray 97 (Mur.attC_size x.hk x.hr x.ht) Mur.attC_all (by kernel_rfl) (by kernel_rfl) 32 ((Mur.attC Mur.z32 Mur.z32 0 Mur.z32).toArray) hb17 (Mur.attC_size rfl rfl rfl)) ?_
  rintro W39 ⟨hb18, ch34⟩
  have zz34 := ch34.size
  refine rEnd 4 rfl (nxt ?_)
  refine dReg (G) (by kernel_rfl) ?_
  intro W40 ch35 sz17
  have zz35 := ch35.size
  have sS15 : Chg (G) W40 W40 := (Chg.refl _).more (by simp)
  refine dV 0 77 (.pointer (some ⟨W7.heap.size, 0, none⟩)) rfl rfl (fun _ _ => by kernel_rfl) sS15 ?_
  have kk39 : Chg [] W37 W38 := Chg.step ((Chg.refl _).more (by simp)) ch33 trivial
  have kk40 := Chg.step kk39 ch34 ⟨.inr (by omega), trivial⟩
  have kk41 := Chg.step kk40 ch35 trivial
  refine dV 1 78 (.int .i64 1) rfl rfl (fun w' hw' => (load1 3 (.tmp 77) rfl (by kernel_rfl) ⟨W7.heap.size, 0, none⟩ (by kernel_rfl) (.int .i64 1) (Mur.let_to (range_row (Chg.hp hw' (Chg.hp kk41 hLl trivial) (Mur.off_iff.2 (fun t ht => by have := hGl t ht; omega))))))) sS15 ?_
  refine dV 2 79 (.pointer (some ⟨w.heap.size, 1, none⟩)) rfl rfl (fun w' hw' => (Wk.index_arr 62 24 (.tmp 2) (.tmp 78) rfl 2 Tryd.underlying62 1 (by kernel_rfl) w.heap.size 0 1 .i64 (by kernel_rfl) (by kernel_rfl) (by decide))) sS15 ?_
  refine dV 3 80 (.pointer (some ⟨g1, 0, none⟩)) rfl rfl (fun w' hw' => (load1 24 (.tmp 79) rfl (by kernel_rfl) ⟨w.heap.size, 1, none⟩ (by kernel_rfl) (.pointer (some ⟨g1, 0, none⟩)) ((cell_of_row _ _ 1 _ _ _ (Chg.hp hw' (Chg.hp kk41 hXl trivial) (Mur.off_iff.2 (fun t ht => by have := hGl t ht; omega)))).trans rfl))) sS15 ?_
  refine dV 4 81 (.agg ((Mur.attC x.k x.r x.n x.t).toArray)) rfl rfl (fun w' hw' => (Mur.loadArr 32 (.tmp 14) rfl _ Tryd.underlying32 rfl W37.heap.size (by kernel_rfl) (Mur.attC x.k x.r x.n x.t).toArray 97 (Mur.attC_size x.hk x.hr x.ht) (by kernel_rfl) 32 (0, 0) (Chg.hp hw' (Chg.hp ch35 hb18 trivial) (Mur.off_iff.2 (fun t ht => by have := hGl t ht; omega))))) sS15 ?_
  refine dOp 5 (by kernel_rfl) ?_
  refine oCall (some 82) 15 [.tmp 80, .tmp 81] #[24, 32] [.pointer (some ⟨g1, 0, none⟩), .agg ((Mur.attC x.k x.r x.n x.t).toArray)] rfl rfl (by kernel_rfl) rfl (by kernel_rfl) (by kernel_rfl) ?_
  have hD54 := Mur.SetF.chg hDl ch33 (fun s hs => trivial)
  have hD55 := Mur.SetF.chg hD54 ch34 (fun s hs => ⟨by have := hGl s hs; omega, trivial⟩)
  have hD56 := Mur.SetF.chg hD55 ch35 (fun s hs => trivial)
  refine (Add_any lo1 (Mur.addsL ((Mur.learnsM S1 m).take j) S1) g1 G x W40 hD56).mono ?_
  rintro _ W41 ⟨GG2, rfl, hD53, ch36, no2⟩
  have kk42 := Chg.step HBl ch33 trivial
  have kk43 := Chg.step kk42 ch34 ⟨.inr (by omega), trivial⟩
  have kk44 := Chg.step kk43 ch35 trivial
  have kk45 := Chg.step kk44 ch36 (Mur.newOr_iff.2 hNl)
  have zz36 := ch36.size
  have sS16 := Chg.step sS15 ch36 (Mur.newOr_iff.2 (fun t ht => .inl ht))
  refine ⟨_, rfl, sS16, ?_⟩
  refine dEnd (by kernel_rfl) (inN (nxt (reg ?_)))
  refine rQ 0 83 _ rfl rfl (qint64 (n := ((j : Nat) : Int) + 1) (z := ((j + 1 : Nat) : Int)) (by omega) (by omega) (by omega)) ?_
  refine rP 1 73 (.int .i64 ((j + 1 : Nat) : Int)) rfl rfl ?_
  refine rEnd 2 rfl (nxt ?_)
  refine ⟨_, ?_, j + 1, GG2, rfl, by kernel_rfl, (by omega), (by rw [Mur.adds_step hx]; exact hD53), (fun t_ ht_ => (Mur.newOr_iff.1 no2 t_ ht_).elim (hNl t_) fun h_ => .inr (by omega)), kk45⟩
  omega
 rw [List.take_of_length_le (show ((Mur.learnsM S1 m)).length ≤ j by omega)] at hDl
 have hPw := Mur.LetA.chg hPe HBl (fun q_ hq_ => Mur.off_iff.2 fun t_ ht_ e_ => (hX3E q_ hq_).2 (e_ ▸ ht_))
 have hYw := Mur.MsgY.chg hY HBl (fun q_ hq_ => Mur.off_iff.2 fun t_ ht_ => by have := hYm q_ hq_; have := hnE t_ ht_; omega)
 refine wp_seq (reg ?_)
 refine rQ 0 74 _ rfl rfl (qboolF (b := decide (((j : Nat) : Int) < ((nn15 : Nat) : Int))) (decide_eq_false (by omega))) ?_
 refine rEnd 1 rfl (nxt (wp_seq (wp_cond_false (by kernel_rfl) (wp_exit (thX (thX (inX (nxt (wp_seq (reg ?_))))))))))
 refine rP 0 84 (.slice AA10 nn13 nn14) rfl rfl ?_
 refine rP 1 85 (.int .i64 ((nn13 : Nat) : Int)) rfl rfl ?_
 refine rP 2 86 (.int .i64 0) rfl rfl ?_
 refine rEnd 3 rfl (nxt (wp_block ?_))
 have hG25 := Mur.SetF.mem hDl
 have hX3G : ∀ q_, q_ ∈ (Wk.blk (.slice AA9 (pn - 1) nn12) ++ X) → q_ ∉ G := fun q_ hq_ h_ => (hNl q_ h_).elim (hX3E q_ hq_).2 fun k_ => by have := (hPem q_ hq_).2; omega
 have hYG : ∀ q_, q_ ∈ Y → q_ ∉ G := fun q_ hq_ h_ => (hNl q_ h_).elim (fun k_ => by have := hnE q_ k_; have := hYm q_ hq_; omega) fun k_ => by have := hYm q_ hq_; omega
 refine Wk.loop (fun m_ a wr => ∃ (r : Nat) (PC : Option Addr) (cc : Nat) (Z : List Nat), m_ = nn13 - r ∧ a = Exch_F6 a.tmps (.bool back) (.pointer (some ⟨w.heap.size, 0, none⟩)) (.slice PC (pn - 1 + r) cc) (.int .i64 ((k : Nat) : Int)) (.pointer (some ⟨W7.heap.size, 0, none⟩)) (.slice AA10 nn13 nn14) (.int .i64 ((nn13 : Nat) : Int)) (.int .i64 ((r : Nat) : Int)) ∧ r ≤ nn13 ∧ Mur.LetA wr (w.heap.size + 1) 104 Z PC (pn - 1 + r) cc ((M.take i ++ M.drop (i + 1)) ++ ((Mur.repliesM S1 m).take r).map fun x_ => (false, x_)) ∧ (∀ q, q ∈ Z → q ∈ (Wk.blk (.slice AA9 (pn - 1) nn12) ++ X) ∨ q ∈ Y ∨ W37.heap.size ≤ q) ∧ (∀ q, (Value.slice PC (pn - 1 + r) cc).ownBlock = some q → q ∈ (Wk.blk (.slice AA9 (pn - 1) nn12) ++ X) ∨ W37.heap.size ≤ q) ∧ Chg (Wk.blk (.slice AA9 (pn - 1) nn12) ++ X) W37 wr) (nn13 - 0) ?_ ?_
 ·refine ⟨0, AA9, nn12, (Wk.blk (.slice AA9 (pn - 1) nn12) ++ X), rfl, by kernel_rfl, Nat.zero_le _, (by rw [List.take_zero, List.map_nil, List.append_nil]; exact hPw), (fun q_ hq_ => .inl hq_), (fun q_ hq_ => .inl (Mur.LetA.own hPw q_ hq_)), ((Chg.refl _).more (by simp))⟩
 rintro mm5 aa6 W42 ⟨r, PC, cc, Z, hmm5, hF6, hr, hPr, hZ, hoZ, HBr⟩
 generalize aa6.tmps = bb6 at hF6
 subst hF6
 have hzr := HBr.size
 have hPrl := hPr.len
 have hPrc := hPr.nc
 have hYr := Mur.MsgY.chg hYw HBr (fun q_ hq_ => Mur.off_iff.2 fun t_ ht_ => by have := hYm q_ hq_; have := hX3m t_ ht_; omega)
 have hLr : W42.heap[W7.heap.size]? = some (.cells (Mur.letC true (Mur.msgC m.kind PB pbn pbc m.sum m.cnt QB qbn qbc m.ans)).toArray 104 (0, 0)) := HBr.hp hLl (Mur.off_iff.2 fun t_ ht_ e_ => hX3L t_ ht_ e_.symm)
 have hYrl := hYr.len
 by_cases hltr : r < nn13
 ·obtain ⟨mr, hmr⟩ : ∃ m_, ((Mur.repliesM S1 m))[r]? = some m_ := ⟨_, List.getElem?_eq_getElem (by omega)⟩
  obtain ⟨⟨kdr, PR, prn, prc, sm_, cn_, QR, qrn, qrc, an_, hsr⟩, gr, hgr, hrr, hRok, hgY, hsY⟩ := Mur.MsgY.row0 hYr hmr
  have hRok_ := hRok
  obtain ⟨rfl, rfl, rfl, rfl, _, _, _, _, _, _⟩ := hRok_
  replace hsr : mr.sum.length = 32 := hsr
  replace hrr : W42.rangeAt gr (0 + r * 37) (msgC mr.kind PR prn prc mr.sum mr.cnt QR qrn qrc mr.ans) := hrr
  subst hgr
  refine wp_seq (reg ?_)
  refine rQ 0 87 _ rfl rfl (qboolT (b := decide (((r : Nat) : Int) < ((nn13 : Nat) : Int))) (decide_eq_true (by omega))) ?_
  refine rEnd 1 rfl (nxt (wp_seq (wp_cond_true (by kernel_rfl) (wp_skip (nxt (wp_seq (wp_block (wp_seq (reg ?_)))))))))
  refine rQ 0 88 (.pointer (some ⟨gr, 0 + r * 37, none⟩)) rfl rfl (index_sl 67 66 (.tmp 84) (.tmp 86) rfl Tryd.underlying67 37 (by kernel_rfl) gr 0 nn13 nn14 r .i64 (by kernel_rfl) (by kernel_rfl) (by omega)) ?_
  refine rQ 1 89 (.agg ((Mur.msgC mr.kind PR prn prc mr.sum mr.cnt QR qrn qrc mr.ans).toArray)) rfl rfl (loadR 66 (.tmp 88) rfl _ Tryd.underlying66 rfl gr (0 + r * 37) (by kernel_rfl) (Mur.msgC mr.kind PR prn prc mr.sum mr.cnt QR qrn qrc mr.ans) (by rw [Mur.msgC_length hsr]; kernel_rfl) hrr) ?_
  refine rX 2 16 rfl rfl (new_ex (.pointer (some ⟨W42.heap.size, 0, none⟩)) #[.int .u8 0, .slice none 0 0, .int .u8 0, .int .u8 0, .int .u8 0, .int .u8 0, .int .u8 0, .int .u8 0, .int .u8 0, .int .u8 0, .int .u8 0, .int .u8 0, .int .u8 0, .int .u8 0, .int .u8 0, .int .u8 0, .int .u8 0, .int .u8 0, .int .u8 0, .int .u8 0, .int .u8 0, .int .u8 0, .int .u8 0, .int .u8 0, .int .u8 0, .int .u8 0, .int .u8 0, .int .u8 0, .int .u8 0, .int .u8 0, .int .u8 0, .int .u8 0, .int .u8 0, .int .u8 0, .int .i64 0, .slice none 0 0, .bool false] 66 (by kernel_rfl)) ?_
  rintro _ W43 ⟨rfl, hb19, ch37, sz18⟩
  have zz37 := ch37.size
  refine rY 3 rfl rfl (Mur.storeArr 66 (.tmp 16) (.tmp 89) rfl W42.heap.size (by kernel_rfl) (Mur.msgC mr.kind PR prn prc mr.sum mr.cnt QR qrn qrc mr.ans).toArray 37 (Mur.msgC_size hsr) Mur.msgC_all (by kernel_rfl) (by kernel_rfl) 66 #[.int .u8 0, .slice none 0 0, .int .u8 0, .int .u8 0, .int .u8 0, .int .u8 0, .int .u8 0, .int .u8 0, .int .u8 0, .int .u8 0, .int .u8 0, .int .u8 0, .int .u8 0, .int .u8 0, .int .u8 0, .int .u8 0, .int .u8 0, .int .u8 0, .int .u8 0, .int .u8 0, .int .u8 0, .int .u8 0, .int .u8 0, .int .u8 0, .int .u8 0, .int .u8 0, .int .u8 0, .int .u8 0, .int .u8 0, .int .u8 0, .int .u8 0, .int .u8 0, .int .u8 0, .int .u8 0, .int .i64 0, .slice none 0 0, .bool false] hb19 (by kernel_rfl)) ?_
  rintro W44 ⟨hb20, ch38⟩
  have zz38 := ch38.size
  refine rEnd 4 rfl (nxt (reg ?_))
  refine rP 0 90 (.slice PC (pn - 1 + r) cc) rfl rfl ?_
  refine rP 1 91 (.pointer (some ⟨W7.heap.size, 0, none⟩)) rfl rfl ?_
  have kk46 : Chg [] W42 W43 := Chg.step ((Chg.refl _).more (by simp)) ch37 trivial
  have kk47 := Chg.step kk46 ch38 ⟨.inr (by omega), trivial⟩
  refine rQ 2 92 _ rfl rfl (load1 3 (.tmp 91) rfl (by kernel_rfl) ⟨W7.heap.size, 0, none⟩ (by kernel_rfl) (.int .i64 1) (Mur.let_to (range_row (Chg.hp kk47 hLr trivial)))) ?_
  refine rQ 3 93 _ rfl rfl (qint64 (n := 1 - 1) (z := 0) (by omega) (by omega) (by omega)) ?_
  refine rQ 4 94 (.agg ((Mur.msgC mr.kind PR prn prc mr.sum mr.cnt QR qrn qrc mr.ans).toArray)) rfl rfl (Mur.loadArr 66 (.tmp 16) rfl _ Tryd.underlying66 rfl W42.heap.size (by kernel_rfl) (Mur.msgC mr.kind PR prn prc mr.sum mr.cnt QR qrn qrc mr.ans).toArray 37 (Mur.msgC_size hsr) (by kernel_rfl) 66 (0, 0) hb20) ?_
  refine rQ 5 95 (.agg ((Mur.letC false (Mur.msgC mr.kind PR prn prc mr.sum mr.cnt QR qrn qrc mr.ans)).toArray)) rfl rfl (Mur.run_built 104 _ rfl [(0, .int .i64 0), (1, .agg ((Mur.msgC mr.kind PR prn prc mr.sum mr.cnt QR qrn qrc mr.ans).toArray))] (by kernel_rfl) _ (built_letter false (Mur.msgC_length hsr))) ?_
  refine rX 6 96 rfl rfl (Mur.buildR1 102 104 (.tmp 95) rfl Tryd.underlying102 (Mur.letC false Mur.msgZ) 38 112 lettI (Mur.letC_length rfl) (by decide) (by decide) (Mur.letC false (Mur.msgC mr.kind PR prn prc mr.sum mr.cnt QR qrn qrc mr.ans)) (Mur.letC_length (Mur.msgC_length hsr)) (by kernel_rfl)) ?_
  rintro _ W45 ⟨rfl, hb21, ch39, sz19⟩
  have zz39 := ch39.size
  have hPl13 := Mur.LetA.chg hPr ch37 (fun _ _ => trivial)
  have hPl14 := Mur.LetA.chg hPl13 ch38 (fun q_ hq_ => ⟨by have := Mur.LetA.mem hPr q_ hq_; omega, trivial⟩)
  have hPl15 := Mur.LetA.chg hPl14 ch39 (fun _ _ => trivial)
  have hlt7 : ∀ k_, (Value.slice PC (pn - 1 + r) cc).ownBlock = some k_ → w.heap.size + 1 ≤ k_ ∧ k_ < W42.heap.size := fun k_ h_ => Mur.LetA.mem hPr k_ (Mur.LetA.own hPr k_ h_)
  have kk48 := Chg.step kk47 ch39 trivial
  have hRk := hRok.keep (Wk.Keep.of kk48 (fun q_ hq_ => hRok.subs_lt q_ hq_) (fun _ _ => trivial)) (fun _ hq_ => hq_)
  refine rX 7 97 rfl rfl (Mur.appendL (.tmp 90) (.tmp 96) 102 104 rfl Tryd.underlying102 lettI (w.heap.size + 1) Z PC (pn - 1 + r) cc ((M.take i ++ M.drop (i + 1)) ++ ((Mur.repliesM S1 m).take r).map fun x_ => (false, x_)) W44.heap.size false ⟨mr.kind, PR, prn, prc, mr.sum, mr.cnt, QR, qrn, qrc, mr.ans, hsr⟩ mr (by kernel_rfl) (by kernel_rfl) hPl15 hb21 hRk (fun q_ hq_ => ⟨by have := hYm q_ (hsY q_ hq_); omega, fun e_ => by have h1_ := hYm q_ (hsY q_ hq_); rcases hoZ q_ e_ with h_ | h_ <;> first | (have := hX3m q_ h_; omega) | omega⟩) (by omega) (by omega)) ?_
  rintro _ W46 ⟨AA12, nn17, XX3, rfl, hPl16, ch40, hXl3, hol3⟩
  have zz40 := ch40.size
  have hq28 := hPl16.nc
  refine rP 8 5 (.slice AA12 (pn - 1 + r + 1) nn17) rfl rfl ?_
  refine rEnd 9 rfl (inN (nxt (reg ?_)))
  refine rQ 0 98 _ rfl rfl (qint64 (n := ((r : Nat) : Int) + 1) (z := ((r + 1 : Nat) : Int)) (by omega) (by omega) (by omega)) ?_
  refine rP 1 86 (.int .i64 ((r + 1 : Nat) : Int)) rfl rfl ?_
  refine rEnd 2 rfl (nxt ?_)
  have kk49 := Chg.step HBr ch37 trivial
  have kk50 := Chg.step kk49 ch38 ⟨.inr (by omega), trivial⟩
  have kk51 := Chg.step kk50 ch39 trivial
  have kk52 := Chg.step kk51 ch40 (Mur.newOr_iff.2 fun t_ ht_ => (hoZ t_ (Mur.blk_mem ht_)).imp id fun h_ => by omega)
  refine ⟨_, ?_, r + 1, AA12, nn17, XX3, rfl, by kernel_rfl, (by omega), (by rw [Mur.map_snoc hmr, ← List.append_assoc]; exact hPl16), (fun q_ hq_ => by rcases hXl3 q_ hq_ with h_ | h_ | h_ <;> first | exact hZ q_ h_ | exact .inr (.inl (hsY q_ h_)) | exact .inr (.inr (by omega))), (fun q_ hq_ => (hol3 q_ hq_).elim (hoZ q_) fun h_ => .inr (by omega)), kk52⟩
  omega
 rw [List.take_of_length_le (show ((Mur.repliesM S1 m)).length ≤ r by omega)] at hPr
 have hDbr := Mur.SetF.chg hDl HBr (fun s_ hs_ => Mur.off_iff.2 fun t_ ht_ e_ => hX3G t_ ht_ (e_ ▸ hs_))
 have hDor := Mur.SetF.chg hDo HBr (fun s_ hs_ => Mur.off_iff.2 fun t_ ht_ e_ => (hX3E t_ ht_).1 (e_ ▸ hs_))
 have hXr : W42.heap[w.heap.size]? = some (.cells #[.pointer (some ⟨g0, 0, none⟩), .pointer (some ⟨g1, 0, none⟩)] 62 (0, 0)) := HBr.hp hXl (Mur.off_iff.2 fun t_ ht_ => by have := (hX3m t_ ht_).1; omega)
 refine wp_seq (reg ?_)
 refine rQ 0 87 _ rfl rfl (qboolF (b := decide (((r : Nat) : Int) < ((nn13 : Nat) : Int))) (decide_eq_false (by omega))) ?_
 refine rEnd 1 rfl (nxt (wp_seq (wp_cond_false (by kernel_rfl) (wp_exit (thX (thX (inX (inN (nxt (reg ?_))))))))))
 refine rP 0 33 (.int .i64 ((k : Nat) : Int)) rfl rfl ?_
 refine rQ 1 34 _ rfl rfl (qint64 (n := ((k : Nat) : Int) + 1) (z := ((k + 1 : Nat) : Int)) (by omega) (by omega) (by omega)) ?_
 refine rP 2 8 (.int .i64 ((k + 1 : Nat) : Int)) rfl rfl ?_
 refine rEnd 3 rfl (nxt ?_)
 have hQ1 := Chg.step HB hcE trivial
 have hQ2 := Chg.step hQ1 HBl (Mur.newOr_iff.2 fun t_ ht_ => (hN1 t_ ht_).elim (fun h_ => .inl (List.mem_append_right _ h_)) fun h_ => .inr (by omega))
 have hQ3 := Chg.step hQ2 HBr (Mur.newOr_iff.2 fun t_ ht_ => .inr (by have := (hX3m t_ ht_).1; omega))
 have hMo25 := Mur.SetF.mem hDor
 have hZG : ∀ q_, q_ ∈ Z → q_ ∉ G := (fun q_ hq_ h_ => by rcases hZ q_ hq_ with k_ | k_ | k_ <;> first | exact hX3G q_ k_ h_ | exact hYG q_ k_ h_ | (have := (hG25 q_ h_).2; omega))
 have hZO : ∀ q_, q_ ∈ Z → q_ ∉ E0 := (fun q_ hq_ h_ => by rcases hZ q_ hq_ with k_ | k_ | k_ <;> first | exact (hX3E q_ k_).1 h_ | (have := (hM0_ q_ h_).2; have := hYm q_ k_; omega) | (have := (hM0_ q_ h_).2; omega))
 refine ⟨_, ?_, k + 1, PC, pn - 1 + r, cc, Z, ((M.take i ++ M.drop (i + 1)) ++ (Mur.repliesM S1 m).map fun x_ => (false, x_)), S0, (Mur.addsL (Mur.learnsM S1 m) S1), E0, G, rfl, by kernel_rfl, (Mur.exch_t T hE hi_), hPr, (fun q_ hq_ => ⟨hZO q_ hq_, hZG q_ hq_⟩), hDor, hDbr, (fun s_ h_ k_ => (show ∀ s_, s_ ∈ G → s_ ∉ E0 from (fun s_ h_ k_ => (hNl s_ h_).elim (fun h2_ => hJ1_ s_ h2_ k_) fun h2_ => by have := (hM0_ s_ k_).2; omega)) s_ k_ h_), hN0, (fun t_ ht_ => (hNl t_ ht_).elim (hN1 t_) fun h_ => .inr (by omega)), hXr, hQ3⟩
 omega
end Go.Proofs.YtfhneademopciaaDoor
namespace Go.Proofs.YtfhneademopciaaDoor
open Go.RowKit Wk
open Mur (b8s Byt Own8 Seg Segs flat cutA attC Att SlA OwnA rowA msgC)
set_option maxRecDepth 100000
set_option maxHeartbeats 4000000
def SetG_F1 (b : Array Value) (u0 : Value) (u5 : Value) (u6 : Value) (u13 : Value) (u14 : Value) : Act := ⟨#[u0, gd b 1, gd b 2, gd b 3, gd b 4, u5, u6, gd b 7, gd b 8, gd b 9, gd b 10, gd b 11, gd b 12, u13, u14, gd b 15, gd b 16, gd b 17, gd b 18, gd b 19, gd b 20, gd b 21, gd b 22, gd b 23, gd b 24, gd b 25, gd b 26, gd b 27, gd b 28, gd b 29, gd b 30, gd b 31, gd b 32, gd b 33, gd b 34], []⟩
theorem set_any (A : Option Addr) (n c : Nat) (L : List Att) (w : World) (hl : SlA w A n L) (_hnc : n ≤ c ∧ c ≤ 9223372036854775807) : Calls Tryd.prog 33 #[.slice A n c] w fun e w' => ∃ g F DA dn dc Z, e = .returned (.tuple #[.pointer (some ⟨g, 0, none⟩), .slice DA dn dc, .bool true]) ∧ Mur.SetF 32 57 w.heap.size w' g Z F ∧ SlA w' DA dn Z ∧ (dn ≤ dc ∧ dc ≤ 9223372036854775807) ∧ (∀ g_ off_, DA = some ⟨g_, off_, none⟩ → g_ ∉ F ∧ w.heap.size ≤ g_ ∧ g_ < w'.heap.size) ∧ Mur.Canon (fun y_ => y_ ∈ L) Z ∧ Chg [] w w' := by
 refine calls_of_wp Tryd.func33 rfl ?_
 refine wp_seq (reg ?_)
 refine rP 0 2 (.pointer none) rfl rfl ?_
 refine rP 1 3 (.slice none 0 0) rfl rfl ?_
 refine rP 2 4 (.bool false) rfl rfl ?_
 refine rEnd 3 rfl (nxt (wp_seq (reg ?_)))
 refine rC 0 8 14 [] #[] [] rfl rfl rfl ?_
 refine (New_any w).mono ?_
 rintro _ W1 ⟨FF1, rfl, hD1, ch1⟩
 have hM1 := Mur.SetF.mem hD1
 have zz1 := (hM1 _ (Mur.SetF.self hD1)).2
 have zz2 := ch1.size
 refine ⟨_, rfl, ?_⟩
 refine rX 1 9 rfl rfl (new_ex (.slice (some ⟨W1.heap.size, 0, none⟩) 0 0) #[] 32 (by kernel_rfl)) ?_
 rintro _ W2 ⟨rfl, hb1, ch2, sz1⟩
 have zz3 := ch2.size
 refine rP 2 5 (.pointer (some ⟨w.heap.size, 0, none⟩)) rfl rfl ?_
 refine rP 3 6 (.slice (some ⟨W1.heap.size, 0, none⟩) 0 0) rfl rfl ?_
 refine rEnd 4 rfl (nxt (wp_seq (wp_seq (reg ?_))))
 refine rP 0 10 (.pointer (some ⟨w.heap.size, 0, none⟩)) rfl rfl ?_
 refine rP 1 11 (.bool false) rfl rfl ?_
 refine rEnd 2 rfl (nxt (wp_cond_false (by kernel_rfl) (wp_skip (nxt (wp_seq (wp_seq (reg ?_)))))))
 refine rP 0 12 (.slice A n c) rfl rfl ?_
 refine rP 1 13 (.int .i64 ((n : Nat) : Int)) rfl rfl ?_
 refine rP 2 14 (.int .i64 0) rfl rfl ?_
 refine rEnd 3 rfl (nxt (wp_block ?_))
 have hD2 := Mur.SetF.chg hD1 ch2 (fun s hs => trivial)
 refine Wk.loop (fun m_ a wr => ∃ (j : Nat) (g : Nat) (L1 : List Att) (F1 : List Nat) (DA : Option Addr) (dn : Nat) (dc : Nat), m_ = n - j ∧ a = SetG_F1 a.tmps (.slice A n c) (.pointer (some ⟨g, 0, none⟩)) (.slice DA dn dc) (.int .i64 ((n : Nat) : Int)) (.int .i64 ((j : Nat) : Int)) ∧ j ≤ n ∧ Mur.Canon (fun y_ => y_ ∈ L.take j) L1 ∧ Mur.SetF 32 57 w.heap.size wr g L1 F1 ∧ SlA wr DA dn L1 ∧ (dn ≤ dc ∧ dc ≤ 9223372036854775807) ∧ (∀ g_ off_, DA = some ⟨g_, off_, none⟩ → g_ ∉ F1 ∧ w.heap.size ≤ g_ ∧ g_ < wr.heap.size) ∧ Chg [] w wr) (n - 0) ?_ ?_
 ·have kk1 : Chg [] w W1 := Chg.step ((Chg.refl _).more (by simp)) ch1 trivial
  have kk2 := Chg.step kk1 ch2 trivial
  refine ⟨0, w.heap.size, [], FF1, some ⟨W1.heap.size, 0, none⟩, 0, 0, rfl, by kernel_rfl, (by omega), (by simpa using Mur.Canon.nil), hD2, (Mur.SlA.nil _ _), (by omega), (fun g_ off_ e_ => by cases e_; exact ⟨fun ht_ => by have := hM1 _ ht_; omega, by omega, by omega⟩), kk2⟩
 rintro mm1 aa1 W3 ⟨j, g, L1, F1, DA, dn, dc, hmm1, hF1, hj, hc1, hD1, hdoc, hdnc, hnm, HB⟩
 generalize aa1.tmps = bb1 at hF1
 subst hF1
 have hzB := HB.size
 have hlL := hl.len
 have hM1 := Mur.SetF.mem hD1
 have hg1_ := hM1 _ (Mur.SetF.self hD1)
 have hsrt1 := Mur.SetF.srt hD1
 have hlen1 := Mur.SetF.len hD1
 have hdl_ := hdoc.len
 by_cases hlt : j < n
 ·obtain ⟨g_x, o_x, rfl, _⟩ := hl.ex (by omega)
  obtain ⟨x, hx⟩ : ∃ x, L[j]? = some x := ⟨_, List.getElem?_eq_getElem (by have := hl.len; omega)⟩
  refine wp_seq (reg ?_)
  refine rQ 0 15 _ rfl rfl (qboolT (b := decide (((j : Nat) : Int) < ((n : Nat) : Int))) (decide_eq_true (by omega))) ?_
  refine rEnd 1 rfl (nxt (wp_seq (wp_cond_true (by kernel_rfl) (wp_skip (nxt (wp_seq (wp_block (wp_seq (reg ?_)))))))))
  refine rP 0 16 (.int .i64 ((j : Nat) : Int)) rfl rfl ?_
  refine rP 1 7 (.int .i64 ((j : Nat) : Int)) rfl rfl ?_
  refine rEnd 2 rfl (nxt (wp_seq (reg ?_)))
  refine rP 0 17 (.pointer (some ⟨g, 0, none⟩)) rfl rfl ?_
  refine rP 1 18 (.slice (some ⟨g_x, o_x, none⟩) n c) rfl rfl ?_
  refine rP 2 19 (.int .i64 ((j : Nat) : Int)) rfl rfl ?_
  refine rQ 3 20 (.pointer (some ⟨g_x, o_x + j * 97, none⟩)) rfl rfl (index_sl 22 32 (.tmp 18) (.tmp 19) rfl Tryd.underlying22 97 (by kernel_rfl) g_x o_x n c j .i64 (by kernel_rfl) (by kernel_rfl) (by omega)) ?_
  refine rQ 4 21 (.agg ((Mur.attC x.k x.r x.n x.t).toArray)) rfl rfl (loadR 32 (.tmp 20) rfl _ Tryd.underlying32 rfl g_x (o_x + j * 97) (by kernel_rfl) (Mur.attC x.k x.r x.n x.t) (by rw [Mur.attC_length x.hk x.hr x.ht]; kernel_rfl) ((Mur.SlA.chg hl HB (fun g off e hl => trivial)).elem hx)) ?_
  refine rC 5 22 15 [.tmp 17, .tmp 21] #[24, 32] [.pointer (some ⟨g, 0, none⟩), .agg ((Mur.attC x.k x.r x.n x.t).toArray)] rfl rfl rfl ?_
  refine (Add_any w.heap.size L1 g F1 x W3 hD1).mono ?_
  rintro _ W4 ⟨FF2, rfl, hD3, ch3, no1⟩
  have hM2 := Mur.SetF.mem hD3
  have zz4 := ch3.size
  have hdoc1 : SlA W4 DA dn L1 := Mur.SlA.chg hdoc ch3 (fun g_ off_ e_ _ => Wk.off_of_not (hnm g_ off_ e_).1)
  have hnm1 : (∀ g_ off_, DA = some ⟨g_, off_, none⟩ → g_ ∉ FF2 ∧ w.heap.size ≤ g_ ∧ g_ < W4.heap.size) := fun g_ off_ e_ => ⟨fun ht_ => (Mur.newOr_iff.1 no1 g_ ht_).elim (hnm g_ off_ e_).1 (fun h_ => by have := (hnm g_ off_ e_).2; omega), (hnm g_ off_ e_).2.1, by have := (hnm g_ off_ e_).2.2; omega⟩
  refine ⟨_, rfl, ?_⟩
  refine rEnd 6 rfl (nxt (reg ?_))
  refine rP 0 24 (.slice DA dn dc) rfl rfl ?_
  refine rP 1 25 (.slice (some ⟨g_x, o_x, none⟩) n c) rfl rfl ?_
  refine rP 2 26 (.int .i64 ((j : Nat) : Int)) rfl rfl ?_
  refine rQ 3 27 (.pointer (some ⟨g_x, o_x + j * 97, none⟩)) rfl rfl (index_sl 22 32 (.tmp 25) (.tmp 26) rfl Tryd.underlying22 97 (by kernel_rfl) g_x o_x n c j .i64 (by kernel_rfl) (by kernel_rfl) (by omega)) ?_
  have kk3 := Chg.step HB ch3 (Mur.newOr_iff.2 (fun t ht => .inr (by have := hM1 t ht; omega)))
  refine rQ 4 28 (.agg ((Mur.attC x.k x.r x.n x.t).toArray)) rfl rfl (loadR 32 (.tmp 27) rfl _ Tryd.underlying32 rfl g_x (o_x + j * 97) (by kernel_rfl) (Mur.attC x.k x.r x.n x.t) (by rw [Mur.attC_length x.hk x.hr x.ht]; kernel_rfl) ((Mur.SlA.chg hl kk3 (fun g off e hl => trivial)).elem hx)) ?_
  refine rC 5 29 26 [.tmp 24, .tmp 28] #[50, 32] [.slice DA dn dc, .agg ((Mur.attC x.k x.r x.n x.t).toArray)] rfl rfl rfl ?_
  refine (Radd_any DA dn dc L1 x W4 hdoc1 hsrt1 hlen1 (by omega)).mono ?_
  rintro _ W5 ⟨DA1, dn1, dc1, rfl, hd_1, hpl1, hnc1, ch4⟩
  have zz5 := ch4.size
  have hnm2 : (∀ g_ off_, DA1 = some ⟨g_, off_, none⟩ → g_ ∉ FF2 ∧ w.heap.size ≤ g_ ∧ g_ < W5.heap.size) := fun g_ off_ e_ => hpl1.elim (fun h1_ => by
   rw [h1_] at e_
   have h2_ := hnm1 g_ off_ e_
   exact ⟨h2_.1, h2_.2.1, by omega⟩) (fun h1_ => ⟨fun ht_ => by
   have h2_ := h1_ g_ off_ e_
   have h3_ := hM2 g_ ht_
   omega, by have h2_ := h1_ g_ off_ e_; omega, (h1_ g_ off_ e_).2⟩)
  refine ⟨_, rfl, ?_⟩
  refine rP 6 23 (.tuple #[.slice DA1 dn1 dc1, .int .i64 ((Mur.addS x L1).2)]) rfl rfl ?_
  refine rP 7 30 (.slice DA1 dn1 dc1) rfl rfl ?_
  refine rP 8 31 (.int .i64 ((Mur.addS x L1).2)) rfl rfl ?_
  refine rP 9 6 (.slice DA1 dn1 dc1) rfl rfl ?_
  refine rEnd 10 rfl (inN (nxt (reg ?_)))
  refine rQ 0 32 _ rfl rfl (qint64 (n := ((j : Nat) : Int) + 1) (z := ((j + 1 : Nat) : Int)) (by omega) (by omega) (by omega)) ?_
  refine rP 1 14 (.int .i64 ((j + 1 : Nat) : Int)) rfl rfl ?_
  refine rEnd 2 rfl (nxt ?_)
  have hD4 := Mur.SetF.chg hD3 ch4 (fun s hs => trivial)
  have kk4 := Chg.step kk3 ch4 trivial
  refine ⟨_, ?_, j + 1, g, (Mur.addS x L1).1, FF2, DA1, dn1, dc1, rfl, by kernel_rfl, (by omega), ((hc1.add x).iff fun y_ => (Mur.mem_take_succ hx).symm), hD4, hd_1, (by omega), (fun g_ off_ e_ => by have h1_ := hnm2 g_ off_ e_; exact ⟨h1_.1, h1_.2.1, by omega⟩), kk4⟩
  omega
 replace hc1 := hc1.iff (Y := fun y_ => y_ ∈ L) fun y_ => by rw [List.take_of_length_le (by omega)]
 refine wp_seq (reg ?_)
 refine rQ 0 15 _ rfl rfl (qboolF (b := decide (((j : Nat) : Int) < ((n : Nat) : Int))) (decide_eq_false (by omega))) ?_
 refine rEnd 1 rfl (nxt (wp_seq (wp_cond_false (by kernel_rfl) (wp_exit (thX (thX (inX (nxt (wp_seq (reg ?_))))))))))
 refine rP 0 33 (.pointer (some ⟨g, 0, none⟩)) rfl rfl ?_
 refine rP 1 34 (.slice DA dn dc) rfl rfl ?_
 refine rP 2 2 (.pointer (some ⟨g, 0, none⟩)) rfl rfl ?_
 refine rP 3 3 (.slice DA dn dc) rfl rfl ?_
 refine rP 4 4 (.bool true) rfl rfl ?_
 refine rEnd 5 rfl (nxt (wp_ret ?_))
 refine Wk.ret (.tuple #[.pointer (some ⟨g, 0, none⟩), .slice DA dn dc, .bool true]) rfl (by kernel_rfl) ?_
 exact ⟨_, _, _, _, _, _, rfl, hD1, hdoc, hdnc, hnm, hc1, HB⟩
end Go.Proofs.YtfhneademopciaaDoor
