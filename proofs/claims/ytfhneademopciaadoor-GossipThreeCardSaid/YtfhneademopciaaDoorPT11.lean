/- What the row rests on, part 11. -/
import Derived.Test.YtfhneademopciaaDoorPT10
import Derived.Test.YtfhneademopciaaDoorPT5
import Derived.Test.YtfhneademopciaaDoorPT9
namespace Go.Proofs.YtfhneademopciaaDoor
open Go.RowKit Wk
open Mur (b8s Byt Own8 Seg Segs flat cutA attC Att SlA OwnA rowA msgC)
set_option maxRecDepth 100000
set_option maxHeartbeats 4000000
def Sumd_F1 (b : Array Value) (u0 : Value) (u3 : Value) (u4 : Value) (u52 : Value) : Act := ⟨#[u0, gd b 1, gd b 2, u3, u4, gd b 5, gd b 6, gd b 7, gd b 8, gd b 9, gd b 10, gd b 11, gd b 12, gd b 13, gd b 14, gd b 15, gd b 16, gd b 17, gd b 18, gd b 19, gd b 20, gd b 21, gd b 22, gd b 23, gd b 24, gd b 25, gd b 26, gd b 27, gd b 28, gd b 29, gd b 30, gd b 31, gd b 32, gd b 33, gd b 34, gd b 35, gd b 36, gd b 37, gd b 38, gd b 39, gd b 40, gd b 41, gd b 42, gd b 43, gd b 44, gd b 45, gd b 46, gd b 47, gd b 48, gd b 49, gd b 50, gd b 51, u52, gd b 53, gd b 54, gd b 55, gd b 56, gd b 57, gd b 58, gd b 59, gd b 60, gd b 61, gd b 62, gd b 63, gd b 64, gd b 65, gd b 66, gd b 67], []⟩
def Sumd_F2 (b : Array Value) (u0 : Value) (u3 : Value) (u4 : Value) (u52 : Value) : Act := ⟨#[u0, gd b 1, gd b 2, u3, u4, gd b 5, gd b 6, gd b 7, gd b 8, gd b 9, gd b 10, gd b 11, gd b 12, gd b 13, gd b 14, gd b 15, gd b 16, gd b 17, gd b 18, gd b 19, gd b 20, gd b 21, gd b 22, gd b 23, gd b 24, gd b 25, gd b 26, gd b 27, gd b 28, gd b 29, gd b 30, gd b 31, gd b 32, gd b 33, gd b 34, gd b 35, gd b 36, gd b 37, gd b 38, gd b 39, gd b 40, gd b 41, gd b 42, gd b 43, gd b 44, gd b 45, gd b 46, gd b 47, gd b 48, gd b 49, gd b 50, gd b 51, u52, gd b 53, gd b 54, gd b 55, gd b 56, gd b 57, gd b 58, gd b 59, gd b 60, gd b 61, gd b 62, gd b 63, gd b 64, gd b 65, gd b 66, gd b 67], []⟩
theorem summed_any (lo : Nat) (L : List Att) (g : Nat) (F : List Nat) (kd : UInt8) (p : List UInt8) (PA : Option Addr) (pn pc : Nat) (s : List UInt8) (m : Int) (I : List Att) (A : Option Addr) (n c : Nat) (b : Bool) (w : World) (hv : ShaVars w) (h : Mur.SetF 32 57 lo w g L F) (hs : s.length = 32) (hb : Byt w PA pn p) (hnil : PA = none → pc = 0) (hpn : pn ≤ 1000) (hm : 0 ≤ m ∧ m ≤ 200) : Calls Tryd.prog 53 #[.pointer (some ⟨g, 0, none⟩), .agg (msgC kd PA pn pc s m A n c b).toArray] w fun e w' => ∃ A1 n1 c1, e = .returned (.slice A1 n1 c1) ∧ Mur.MsgA w' w.heap.size 66 A1 n1 c1 (Mur.summedM L ⟨kd, p, s, m, I, b⟩) ∧ Chg [] w w' := by
 have HV := Go.Lib.hid hv
 clear hv
 have hpl_ := hb.1
 have hM_ := Mur.SetF.mem h
 have hLl_ := Mur.SetF.len h
 have hbl_ := Mur.belowL_len p L
 refine calls_of_wp Tryd.func53 rfl ?_
 refine wp_seq (reg ?_)
 refine rX 0 3 rfl rfl (new_ex (.pointer (some ⟨w.heap.size, 0, none⟩)) ((Mur.msgC kd PA pn pc s m A n c b).toArray) 66 (by kernel_rfl)) ?_
 rintro _ W1 ⟨rfl, hb1, ch1, sz1⟩
 have zz1 := ch1.size
 refine rP 1 4 (.slice none 0 0) rfl rfl ?_
 refine rEnd 2 rfl (nxt (wp_seq (reg ?_)))
 refine rP 0 9 (.pointer (some ⟨g, 0, none⟩)) rfl rfl ?_
 refine rP 1 10 (.pointer (some ⟨w.heap.size, 1, none⟩)) rfl rfl ?_
 refine rQ 2 11 _ rfl rfl (load1 38 (.tmp 10) rfl (by kernel_rfl) ⟨w.heap.size, 1, none⟩ (by kernel_rfl) (.slice PA pn pc) (show World.cell? _ ⟨_, 0 + 1, _⟩ = _ from Mur.msg_pre (range_row hb1))) ?_
 refine rC 3 12 16 [.tmp 9, .tmp 11] #[24, 38] [.pointer (some ⟨g, 0, none⟩), .slice PA pn pc] rfl rfl rfl ?_
 have kk1 : Chg [] w W1 := Chg.step ((Chg.refl _).more (by simp)) ch1 trivial
 have hD1 := Mur.SetF.chg h ch1 (fun s hs => trivial)
 refine (Sum_any lo L g F p PA pn pc W1 (HV.out.below (Chg.below0 kk1)) hD1 (Mur.byt_chg hb kk1 (fun g off e hl => trivial)) (by omega)).mono ?_
 rintro _ W2 ⟨dd1, hd1, hdl1, rfl, ch2⟩
 have zz2 := ch2.size
 refine ⟨_, rfl, ?_⟩
 refine rP 4 8 (.tuple #[.agg ((b8s dd1).toArray), .int .i64 (((Mur.belowL p L).length : Nat) : Int)]) rfl rfl ?_
 refine rP 5 13 (.agg ((b8s dd1).toArray)) rfl rfl ?_
 refine rP 6 14 (.int .i64 (((Mur.belowL p L).length : Nat) : Int)) rfl rfl ?_
 refine rX 7 5 rfl rfl (new_ex (.pointer (some ⟨W2.heap.size, 0, none⟩)) #[.int .u8 0, .int .u8 0, .int .u8 0, .int .u8 0, .int .u8 0, .int .u8 0, .int .u8 0, .int .u8 0, .int .u8 0, .int .u8 0, .int .u8 0, .int .u8 0, .int .u8 0, .int .u8 0, .int .u8 0, .int .u8 0, .int .u8 0, .int .u8 0, .int .u8 0, .int .u8 0, .int .u8 0, .int .u8 0, .int .u8 0, .int .u8 0, .int .u8 0, .int .u8 0, .int .u8 0, .int .u8 0, .int .u8 0, .int .u8 0, .int .u8 0, .int .u8 0] 30 (by kernel_rfl)) ?_
 rintro _ W3 ⟨rfl, hb2, ch3, sz2⟩
 have zz3 := ch3.size
 refine rY 8 rfl rfl (Mur.storeAll 30 (.tmp 5) (.tmp 13) rfl W2.heap.size (by kernel_rfl) dd1 32 hdl1 (by kernel_rfl) (by kernel_rfl) 30 #[.int .u8 0, .int .u8 0, .int .u8 0, .int .u8 0, .int .u8 0, .int .u8 0, .int .u8 0, .int .u8 0, .int .u8 0, .int .u8 0, .int .u8 0, .int .u8 0, .int .u8 0, .int .u8 0, .int .u8 0, .int .u8 0, .int .u8 0, .int .u8 0, .int .u8 0, .int .u8 0, .int .u8 0, .int .u8 0, .int .u8 0, .int .u8 0, .int .u8 0, .int .u8 0, .int .u8 0, .int .u8 0, .int .u8 0, .int .u8 0, .int .u8 0, .int .u8 0] hb2 rfl) ?_
 rintro W4 ⟨hb3, ch4⟩
 have zz4 := ch4.size
 refine rP 9 6 (.int .i64 (((Mur.belowL p L).length : Nat) : Int)) rfl rfl ?_
 refine rEnd 10 rfl (nxt (wp_seq (wp_block (wp_seq (reg ?_)))))
 refine rQ 0 16 (.agg ((b8s dd1).toArray)) rfl rfl (Mur.loadAll 30 (.tmp 5) rfl _ Tryd.underlying30 rfl W2.heap.size (by kernel_rfl) dd1 32 hdl1 (by kernel_rfl) 30 (0, 0) hb3) ?_
 refine rP 1 17 (.pointer (some ⟨w.heap.size, 2, none⟩)) rfl rfl ?_
 refine rQ 2 18 (.agg ((b8s s).toArray)) rfl rfl (loadR 30 (.tmp 17) rfl _ Tryd.underlying30 rfl w.heap.size 2 (by kernel_rfl) (b8s s) (by rw [Mur.b8s_length, hs]; kernel_rfl) (show World.rangeAt _ _ (0 + 2) _ from Mur.msg_sum (range_row (Chg.hp ch4 (Chg.hp ch3 (Chg.hp ch2 hb1 trivial) trivial) ⟨by omega, trivial⟩)))) ?_
 by_cases hds : dd1 = s
 ·refine rQ 3 19 (.bool true) rfl rfl (Mur.run_eql_yes digT dd1 s hdl1 hs hds _ (.tmp 16) (.tmp 18) 30 rfl (by kernel_rfl) (by kernel_rfl)) ?_
  refine rP 4 20 (.bool true) rfl rfl ?_
  refine rP 5 21 (.int .i64 (((Mur.belowL p L).length : Nat) : Int)) rfl rfl ?_
  refine rP 6 22 (.pointer (some ⟨w.heap.size, 34, none⟩)) rfl rfl ?_
  refine rQ 7 23 _ rfl rfl (load1 3 (.tmp 22) rfl (by kernel_rfl) ⟨w.heap.size, 34, none⟩ (by kernel_rfl) (.int .i64 m) (show World.cell? _ ⟨_, 0 + 34, _⟩ = _ from Mur.msg_cnt hs (range_row (Chg.hp ch4 (Chg.hp ch3 (Chg.hp ch2 hb1 trivial) trivial) ⟨by omega, trivial⟩)))) ?_
  by_cases hx1 : (((Mur.belowL p L).length : Nat) : Int) = m
  ·refine rQ 8 24 _ rfl rfl (qboolT (b := ((((Mur.belowL p L).length : Nat) : Int) == m)) (beq_iff_eq.2 (by first | exact hx1 | omega))) ?_
   refine rP 9 25 (.bool true) rfl rfl ?_
   refine rP 10 15 (.bool true) rfl rfl ?_
   refine rEnd 11 rfl (nxt (wp_cond_true (by kernel_rfl) (wp_seq (reg ?_))))
   refine rP 0 4 (.slice none 0 0) rfl rfl ?_
   refine rEnd 1 rfl (nxt (wp_ret (inR (thR ?_))))
   have hde_ := hd1.out
   have hcn_ : Mur.cntL p L = (Mur.belowL p L).length := rfl
   have hpl_ := hb.1
   have kk2 := Chg.step kk1 ch2 trivial
   have kk3 := Chg.step kk2 ch3 trivial
   have kk4 := Chg.step kk3 ch4 ⟨.inr (by omega), trivial⟩
   refine Wk.ret (.slice none 0 0) rfl (by kernel_rfl) ?_
   exact ⟨_, _, _, rfl, by rw [Mur.summed_same (p := p) (s := s) (L := L) (m := m) (by rw [← hde_]; exact hds) (by omega)]; exact Mur.msgA_nil _ _ _, kk4⟩
  refine rQ 8 24 _ rfl rfl (qboolF (b := ((((Mur.belowL p L).length : Nat) : Int) == m)) (beq_eq_false_iff_ne.2 (by first | exact hx1 | omega))) ?_
  refine rP 9 25 (.bool false) rfl rfl ?_
  refine rP 10 15 (.bool false) rfl rfl ?_
  refine rEnd 11 rfl (nxt (wp_cond_false (by kernel_rfl) (wp_seq (reg ?_))))
  refine rP 0 27 (.pointer (some ⟨w.heap.size, 1, none⟩)) rfl rfl ?_
  refine rQ 1 28 _ rfl rfl (load1 38 (.tmp 27) rfl (by kernel_rfl) ⟨w.heap.size, 1, none⟩ (by kernel_rfl) (.slice PA pn pc) (show World.cell? _ ⟨_, 0 + 1, _⟩ = _ from Mur.msg_pre (range_row (Chg.hp ch4 (Chg.hp ch3 (Chg.hp ch2 hb1 trivial) trivial) ⟨by omega, trivial⟩)))) ?_
  refine rP 2 29 (.int .i64 ((pn : Nat) : Int)) rfl rfl ?_
  by_cases hx2 : ((pn : Nat) : Int) = (8 : Int)
  ·refine rQ 3 30 _ rfl rfl (qboolT (b := (((pn : Nat) : Int) == (8 : Int))) (beq_iff_eq.2 (by first | exact hx2 | omega))) ?_
   refine rP 4 31 (.bool true) rfl rfl ?_
   refine rPass 5 (some 32) rfl rfl (by kernel_rfl) ?_
   refine rPass 6 (some 33) rfl rfl (by kernel_rfl) ?_
   refine rPass 7 (some 34) rfl rfl (by kernel_rfl) ?_
   refine rPass 8 (some 35) rfl rfl (by kernel_rfl) ?_
   refine rPass 9 (some 36) rfl rfl (by kernel_rfl) ?_
   refine rP 10 37 (.bool true) rfl rfl ?_
   refine rP 11 26 (.bool true) rfl rfl ?_
   refine rEnd 12 rfl (nxt (wp_cond_true (by kernel_rfl) (wp_seq (wp_seq (reg ?_)))))
   refine rP 0 38 (.int .i64 (((Mur.belowL p L).length : Nat) : Int)) rfl rfl ?_
   by_cases hx3 : (((Mur.belowL p L).length : Nat) : Int) = (0 : Int)
   ·refine rQ 1 39 _ rfl rfl (qboolT (b := ((((Mur.belowL p L).length : Nat) : Int) == (0 : Int))) (beq_iff_eq.2 (by first | exact hx3 | omega))) ?_
    refine rEnd 2 rfl (nxt (wp_cond_true (by kernel_rfl) (wp_seq (reg ?_))))
    refine rP 0 40 (.pointer (some ⟨w.heap.size, 1, none⟩)) rfl rfl ?_
    refine rQ 1 41 _ rfl rfl (load1 38 (.tmp 40) rfl (by kernel_rfl) ⟨w.heap.size, 1, none⟩ (by kernel_rfl) (.slice PA pn pc) (show World.cell? _ ⟨_, 0 + 1, _⟩ = _ from Mur.msg_pre (range_row (Chg.hp ch4 (Chg.hp ch3 (Chg.hp ch2 hb1 trivial) trivial) ⟨by omega, trivial⟩)))) ?_
    refine rC 2 42 75 [.tmp 41] #[38] [.slice PA pn pc] rfl rfl rfl ?_
    have kk5 := Chg.step kk1 ch2 trivial
    have kk6 := Chg.step kk5 ch3 trivial
    have kk7 := Chg.step kk6 ch4 ⟨.inr (by omega), trivial⟩
    refine (CloneB_any p PA pn pc W4 (Mur.byt_chg hb kk7 (fun g off e hl => trivial)) hnil (by omega)).mono ?_
    rintro _ W5 ⟨AA1, nn1, nn2, rfl, ow1, ch5⟩
    have zz5 := ch5.size
    have hq1 := ow1.byt.1
    have hq2 := ow1.nc
    have hq3 := ow1.cm
    refine ⟨_, rfl, ?_⟩
    refine rQ 3 43 (.agg ((Mur.msgC 2 AA1 nn1 nn2 Mur.z32 0 none 0 0 false).toArray)) rfl rfl (Mur.run_built 66 _ rfl [(0, .int .u8 2), (1, .slice AA1 nn1 nn2)] (by kernel_rfl) _ (built_empty AA1 nn1 nn2)) ?_
    refine rX 4 44 rfl rfl (Mur.buildR1 67 66 (.tmp 43) rfl Tryd.underlying67 Mur.msgZ 37 104 msgI (Mur.msgC_length rfl) (by decide) (by decide) (Mur.msgC 2 AA1 nn1 nn2 Mur.z32 0 none 0 0 false) (Mur.msgC_length rfl) (by kernel_rfl)) ?_
    rintro _ W6 ⟨rfl, hb4, ch6, sz3⟩
    have zz6 := ch6.size
    refine rP 5 4 (.slice (some ⟨W5.heap.size, 0, none⟩) 1 1) rfl rfl ?_
    refine rEnd 6 rfl (nxt (wp_ret (thR (inR (thR ?_)))))
    have hde_ := hd1.out
    have hcn_ : Mur.cntL p L = (Mur.belowL p L).length := rfl
    have hpl_ := hb.1
    have ow2 := Mur.own8 (own_chg ow1.own ch6 (fun q e _ _ => trivial))
    have hsub1 := Mur.subs_own1 (kd := 2) (s := Mur.z32) (k := 0) (b := false) ow1 rfl
    have kk8 := Chg.step kk7 ch5 trivial
    have kk9 := Chg.step kk8 ch6 trivial
    refine Wk.ret (.slice (some ⟨W5.heap.size, 0, none⟩) 1 1) rfl (by kernel_rfl) ?_
    exact ⟨_, _, _, rfl, by rw [Mur.summed_empty (p := p) (s := s) (L := L) (m := m) (by rw [← hde_]; first | exact fun h_ => hds h_.1 | (rintro ⟨_, h_⟩; omega)) (by omega) (by omega)]; exact Mur.msgA_one (r := ⟨2, AA1, nn1, nn2, Mur.z32, 0, none, 0, 0, false, rfl⟩) hb4 (Mur.rawok_empty ow2) (by omega) (fun q_ hq_ => by have := hsub1 q_ hq_; omega), kk9⟩
   refine rQ 1 39 _ rfl rfl (qboolF (b := ((((Mur.belowL p L).length : Nat) : Int) == (0 : Int))) (beq_eq_false_iff_ne.2 (by first | exact hx3 | omega))) ?_
   refine rEnd 2 rfl (nxt (wp_cond_false (by kernel_rfl) (wp_skip (nxt (wp_seq ?_)))))
   refine dReg ([]) (by kernel_rfl) ?_
   intro W7 ch7 sz4
   have zz7 := ch7.size
   have sS1 : Chg ([]) W7 W7 := (Chg.refl _).more (by simp)
   refine dV 0 45 (.pointer (some ⟨w.heap.size, 1, none⟩)) rfl rfl (fun _ _ => by kernel_rfl) sS1 ?_
   refine dV 1 46 (.slice PA pn pc) rfl rfl (fun w' hw' => (load1 38 (.tmp 45) rfl (by kernel_rfl) ⟨w.heap.size, 1, none⟩ (by kernel_rfl) (.slice PA pn pc) (show World.cell? _ ⟨_, 0 + 1, _⟩ = _ from Mur.msg_pre (range_row (Chg.hp hw' (Chg.hp ch7 (Chg.hp ch4 (Chg.hp ch3 (Chg.hp ch2 hb1 trivial) trivial) ⟨by omega, trivial⟩) trivial) trivial))))) sS1 ?_
   refine dV 2 47 (.pointer (some ⟨g, 0, none⟩)) rfl rfl (fun _ _ => by kernel_rfl) sS1 ?_
   refine dV 3 48 (.pointer (some ⟨w.heap.size, 1, none⟩)) rfl rfl (fun _ _ => by kernel_rfl) sS1 ?_
   refine dV 4 49 (.slice PA pn pc) rfl rfl (fun w' hw' => (load1 38 (.tmp 48) rfl (by kernel_rfl) ⟨w.heap.size, 1, none⟩ (by kernel_rfl) (.slice PA pn pc) (show World.cell? _ ⟨_, 0 + 1, _⟩ = _ from Mur.msg_pre (range_row (Chg.hp hw' (Chg.hp ch7 (Chg.hp ch4 (Chg.hp ch3 (Chg.hp ch2 hb1 trivial) trivial) ⟨by omega, trivial⟩) trivial) trivial))))) sS1 ?_
   refine dOp 5 (by kernel_rfl) ?_
   refine oCall (some 50) 18 [.tmp 47, .tmp 49] #[24, 38] [.pointer (some ⟨g, 0, none⟩), .slice PA pn pc] rfl rfl (by kernel_rfl) rfl (by kernel_rfl) (by kernel_rfl) ?_
   have kk10 := Chg.step kk1 ch2 trivial
   have kk11 := Chg.step kk10 ch3 trivial
   have kk12 := Chg.step kk11 ch4 ⟨.inr (by omega), trivial⟩
   have kk13 := Chg.step kk12 ch7 trivial
   have hD2 := Mur.SetF.chg hD1 ch2 (fun s hs => trivial)
   have hD3 := Mur.SetF.chg hD2 ch3 (fun s hs => trivial)
   have hD4 := Mur.SetF.chg hD3 ch4 (fun s hs => ⟨by have := hM_ s hs; omega, trivial⟩)
   have hD5 := Mur.SetF.chg hD4 ch7 (fun s hs => trivial)
   refine (Below_any lo L g F p PA pn pc W7 hD5 (Mur.byt_chg hb kk13 (fun g off e hl => trivial)) (by omega)).mono ?_
   rintro _ W8 ⟨AA2, nn3, nn4, rfl, ow3, ch8⟩
   have zz8 := ch8.size
   have hq4 := ow3.nc
   have hq5 := ow3.cm
   have hq6 := ow3.sl.len
   have hq7 : (Mur.belowL p L).length ≤ 200 := Nat.le_trans (Mur.belowL_len _ _) (Mur.SetF.len hD5)
   have sS2 := Chg.step sS1 ch8 trivial
   refine ⟨_, rfl, sS2, ?_⟩
   refine dOp 6 (by kernel_rfl) ?_
   refine oCall (some 51) 57 [.tmp 46, .tmp 50, .const (.bool false)] #[38, 22, 4] [.slice PA pn pc, .slice AA2 nn3 nn4, .bool false] rfl rfl (by kernel_rfl) rfl (by kernel_rfl) (by kernel_rfl) ?_
   have kk14 := Chg.step kk13 ch8 trivial
   have hol1 := ow3.sl.len
   have hoc1 : nn4 ≤ 9223372036854775807 := Nat.le_trans ow3.cm (by unfold Go.maxLen; omega)
   have hon1 := ow3.nc
   refine (items_any p PA pn pc AA2 nn3 nn4 (Mur.belowL p L) false W8 (Mur.byt_chg hb kk14 (fun g off e hl => trivial)) hnil (by omega) ow3.sl (by omega)).mono ?_
   rintro _ W10 ⟨AA3, nn5, nn6, rfl, ow4, ch9⟩
   have zz9 := ch9.size
   have hq8 := ow4.nc
   have hq9 := ow4.cm
   have sS3 := Chg.step sS2 ch9 trivial
   refine ⟨_, rfl, sS3, ?_⟩
   refine dV 7 4 (.slice AA3 nn5 nn6) rfl rfl (fun _ _ => by kernel_rfl) sS3 ?_
   refine dEnd (by kernel_rfl) (nxt (wp_ret (inR (thR ?_))))
   have hde_ := hd1.out
   have hcn_ : Mur.cntL p L = (Mur.belowL p L).length := rfl
   have hpl_ := hb.1
   have kk15 := Chg.step kk14 ch9 trivial
   refine Wk.ret (.slice AA3 nn5 nn6) rfl (by kernel_rfl) ?_
   exact ⟨_, _, _, rfl, by rw [Mur.summed_items (p := p) (s := s) (L := L) (m := m) (by rw [← hde_]; first | exact fun h_ => hds h_.1 | (rintro ⟨_, h_⟩; omega)) (by omega) (by omega)]; exact Mur.MsgA.low ow4 (by omega), kk15⟩
  refine rQ 3 30 _ rfl rfl (qboolF (b := (((pn : Nat) : Int) == (8 : Int))) (beq_eq_false_iff_ne.2 (by first | exact hx2 | omega))) ?_
  refine rP 4 31 (.bool false) rfl rfl ?_
  refine rP 5 32 (.int .i64 (((Mur.belowL p L).length : Nat) : Int)) rfl rfl ?_
  refine rP 6 33 (.pointer (some ⟨w.heap.size, 34, none⟩)) rfl rfl ?_
  refine rQ 7 34 _ rfl rfl (load1 3 (.tmp 33) rfl (by kernel_rfl) ⟨w.heap.size, 34, none⟩ (by kernel_rfl) (.int .i64 m) (show World.cell? _ ⟨_, 0 + 34, _⟩ = _ from Mur.msg_cnt hs (range_row (Chg.hp ch4 (Chg.hp ch3 (Chg.hp ch2 hb1 trivial) trivial) ⟨by omega, trivial⟩)))) ?_
  refine rQ 8 35 _ rfl rfl (qint64 (n := (((Mur.belowL p L).length : Nat) : Int) + m) (z := (((Mur.belowL p L).length : Nat) : Int) + m) (by omega) (by omega) (by omega)) ?_
  by_cases hx4 : ((((Mur.belowL p L).length : Nat) : Int) + m) ≤ (8 : Int)
  ·refine rQ 9 36 _ rfl rfl (qboolT (b := decide (((((Mur.belowL p L).length : Nat) : Int) + m) ≤ (8 : Int))) (decide_eq_true (by first | exact hx4 | omega))) ?_
   refine rP 10 37 (.bool true) rfl rfl ?_
   refine rP 11 26 (.bool true) rfl rfl ?_
   refine rEnd 12 rfl (nxt (wp_cond_true (by kernel_rfl) (wp_seq (wp_seq (reg ?_)))))
   refine rP 0 38 (.int .i64 (((Mur.belowL p L).length : Nat) : Int)) rfl rfl ?_
   by_cases hx5 : (((Mur.belowL p L).length : Nat) : Int) = (0 : Int)
   ·refine rQ 1 39 _ rfl rfl (qboolT (b := ((((Mur.belowL p L).length : Nat) : Int) == (0 : Int))) (beq_iff_eq.2 (by first | exact hx5 | omega))) ?_
    refine rEnd 2 rfl (nxt (wp_cond_true (by kernel_rfl) (wp_seq (reg ?_))))
    refine rP 0 40 (.pointer (some ⟨w.heap.size, 1, none⟩)) rfl rfl ?_
    refine rQ 1 41 _ rfl rfl (load1 38 (.tmp 40) rfl (by kernel_rfl) ⟨w.heap.size, 1, none⟩ (by kernel_rfl) (.slice PA pn pc) (show World.cell? _ ⟨_, 0 + 1, _⟩ = _ from Mur.msg_pre (range_row (Chg.hp ch4 (Chg.hp ch3 (Chg.hp ch2 hb1 trivial) trivial) ⟨by omega, trivial⟩)))) ?_
    refine rC 2 42 75 [.tmp 41] #[38] [.slice PA pn pc] rfl rfl rfl ?_
    have kk16 := Chg.step kk1 ch2 trivial
    have kk17 := Chg.step kk16 ch3 trivial
    have kk18 := Chg.step kk17 ch4 ⟨.inr (by omega), trivial⟩
    refine (CloneB_any p PA pn pc W4 (Mur.byt_chg hb kk18 (fun g off e hl => trivial)) hnil (by omega)).mono ?_
    rintro _ W11 ⟨AA4, nn7, nn8, rfl, ow5, ch10⟩
    have zz10 := ch10.size
    have hq10 := ow5.byt.1
    have hq11 := ow5.nc
    have hq12 := ow5.cm
    refine ⟨_, rfl, ?_⟩
    refine rQ 3 43 (.agg ((Mur.msgC 2 AA4 nn7 nn8 Mur.z32 0 none 0 0 false).toArray)) rfl rfl (Mur.run_built 66 _ rfl [(0, .int .u8 2), (1, .slice AA4 nn7 nn8)] (by kernel_rfl) _ (built_empty AA4 nn7 nn8)) ?_
    refine rX 4 44 rfl rfl (Mur.buildR1 67 66 (.tmp 43) rfl Tryd.underlying67 Mur.msgZ 37 104 msgI (Mur.msgC_length rfl) (by decide) (by decide) (Mur.msgC 2 AA4 nn7 nn8 Mur.z32 0 none 0 0 false) (Mur.msgC_length rfl) (by kernel_rfl)) ?_
    rintro _ W12 ⟨rfl, hb5, ch11, sz5⟩
    have zz11 := ch11.size
    refine rP 5 4 (.slice (some ⟨W11.heap.size, 0, none⟩) 1 1) rfl rfl ?_
    refine rEnd 6 rfl (nxt (wp_ret (thR (inR (thR ?_)))))
    have hde_ := hd1.out
    have hcn_ : Mur.cntL p L = (Mur.belowL p L).length := rfl
    have hpl_ := hb.1
    have ow6 := Mur.own8 (own_chg ow5.own ch11 (fun q e _ _ => trivial))
    have hsub2 := Mur.subs_own1 (kd := 2) (s := Mur.z32) (k := 0) (b := false) ow5 rfl
    have kk19 := Chg.step kk18 ch10 trivial
    have kk20 := Chg.step kk19 ch11 trivial
    refine Wk.ret (.slice (some ⟨W11.heap.size, 0, none⟩) 1 1) rfl (by kernel_rfl) ?_
    exact ⟨_, _, _, rfl, by rw [Mur.summed_empty (p := p) (s := s) (L := L) (m := m) (by rw [← hde_]; first | exact fun h_ => hds h_.1 | (rintro ⟨_, h_⟩; omega)) (by omega) (by omega)]; exact Mur.msgA_one (r := ⟨2, AA4, nn7, nn8, Mur.z32, 0, none, 0, 0, false, rfl⟩) hb5 (Mur.rawok_empty ow6) (by omega) (fun q_ hq_ => by have := hsub2 q_ hq_; omega), kk20⟩
   refine rQ 1 39 _ rfl rfl (qboolF (b := ((((Mur.belowL p L).length : Nat) : Int) == (0 : Int))) (beq_eq_false_iff_ne.2 (by first | exact hx5 | omega))) ?_
   refine rEnd 2 rfl (nxt (wp_cond_false (by kernel_rfl) (wp_skip (nxt (wp_seq ?_)))))
   refine dReg ([]) (by kernel_rfl) ?_
   intro W13 ch12 sz6
   have zz12 := ch12.size
   have sS4 : Chg ([]) W13 W13 := (Chg.refl _).more (by simp)
   refine dV 0 45 (.pointer (some ⟨w.heap.size, 1, none⟩)) rfl rfl (fun _ _ => by kernel_rfl) sS4 ?_
   refine dV 1 46 (.slice PA pn pc) rfl rfl (fun w' hw' => (load1 38 (.tmp 45) rfl (by kernel_rfl) ⟨w.heap.size, 1, none⟩ (by kernel_rfl) (.slice PA pn pc) (show World.cell? _ ⟨_, 0 + 1, _⟩ = _ from Mur.msg_pre (range_row (Chg.hp hw' (Chg.hp ch12 (Chg.hp ch4 (Chg.hp ch3 (Chg.hp ch2 hb1 trivial) trivial) ⟨by omega, trivial⟩) trivial) trivial))))) sS4 ?_
   refine dV 2 47 (.pointer (some ⟨g, 0, none⟩)) rfl rfl (fun _ _ => by kernel_rfl) sS4 ?_
   refine dV 3 48 (.pointer (some ⟨w.heap.size, 1, none⟩)) rfl rfl (fun _ _ => by kernel_rfl) sS4 ?_
   refine dV 4 49 (.slice PA pn pc) rfl rfl (fun w' hw' => (load1 38 (.tmp 48) rfl (by kernel_rfl) ⟨w.heap.size, 1, none⟩ (by kernel_rfl) (.slice PA pn pc) (show World.cell? _ ⟨_, 0 + 1, _⟩ = _ from Mur.msg_pre (range_row (Chg.hp hw' (Chg.hp ch12 (Chg.hp ch4 (Chg.hp ch3 (Chg.hp ch2 hb1 trivial) trivial) ⟨by omega, trivial⟩) trivial) trivial))))) sS4 ?_
   refine dOp 5 (by kernel_rfl) ?_
   refine oCall (some 50) 18 [.tmp 47, .tmp 49] #[24, 38] [.pointer (some ⟨g, 0, none⟩), .slice PA pn pc] rfl rfl (by kernel_rfl) rfl (by kernel_rfl) (by kernel_rfl) ?_
   have kk21 := Chg.step kk1 ch2 trivial
   have kk22 := Chg.step kk21 ch3 trivial
   have kk23 := Chg.step kk22 ch4 ⟨.inr (by omega), trivial⟩
   have kk24 := Chg.step kk23 ch12 trivial
   have hD6 := Mur.SetF.chg hD1 ch2 (fun s hs => trivial)
   have hD7 := Mur.SetF.chg hD6 ch3 (fun s hs => trivial)
   have hD8 := Mur.SetF.chg hD7 ch4 (fun s hs => ⟨by have := hM_ s hs; omega, trivial⟩)
   have hD9 := Mur.SetF.chg hD8 ch12 (fun s hs => trivial)
   refine (Below_any lo L g F p PA pn pc W13 hD9 (Mur.byt_chg hb kk24 (fun g off e hl => trivial)) (by omega)).mono ?_
   rintro _ W14 ⟨AA5, nn9, nn10, rfl, ow7, ch13⟩
   have zz13 := ch13.size
   have hq13 := ow7.nc
   have hq14 := ow7.cm
   have hq15 := ow7.sl.len
   have hq16 : (Mur.belowL p L).length ≤ 200 := Nat.le_trans (Mur.belowL_len _ _) (Mur.SetF.len hD9)
   have sS5 := Chg.step sS4 ch13 trivial
   refine ⟨_, rfl, sS5, ?_⟩
   refine dOp 6 (by kernel_rfl) ?_
   refine oCall (some 51) 57 [.tmp 46, .tmp 50, .const (.bool false)] #[38, 22, 4] [.slice PA pn pc, .slice AA5 nn9 nn10, .bool false] rfl rfl (by kernel_rfl) rfl (by kernel_rfl) (by kernel_rfl) ?_
   have kk25 := Chg.step kk24 ch13 trivial
   have hol2 := ow7.sl.len
   have hoc2 : nn10 ≤ 9223372036854775807 := Nat.le_trans ow7.cm (by unfold Go.maxLen; omega)
   have hon2 := ow7.nc
   refine (items_any p PA pn pc AA5 nn9 nn10 (Mur.belowL p L) false W14 (Mur.byt_chg hb kk25 (fun g off e hl => trivial)) hnil (by omega) ow7.sl (by omega)).mono ?_
   rintro _ W15 ⟨AA6, nn11, nn12, rfl, ow8, ch14⟩
   have zz14 := ch14.size
   have hq17 := ow8.nc
   have hq18 := ow8.cm
   have sS6 := Chg.step sS5 ch14 trivial
   refine ⟨_, rfl, sS6, ?_⟩
   refine dV 7 4 (.slice AA6 nn11 nn12) rfl rfl (fun _ _ => by kernel_rfl) sS6 ?_
   refine dEnd (by kernel_rfl) (nxt (wp_ret (inR (thR ?_))))
   have hde_ := hd1.out
   have hcn_ : Mur.cntL p L = (Mur.belowL p L).length := rfl
   have hpl_ := hb.1
   have kk26 := Chg.step kk25 ch14 trivial
   refine Wk.ret (.slice AA6 nn11 nn12) rfl (by kernel_rfl) ?_
   exact ⟨_, _, _, rfl, by rw [Mur.summed_items (p := p) (s := s) (L := L) (m := m) (by rw [← hde_]; first | exact fun h_ => hds h_.1 | (rintro ⟨_, h_⟩; omega)) (by omega) (by omega)]; exact Mur.MsgA.low ow8 (by omega), kk26⟩
  refine rQ 9 36 _ rfl rfl (qboolF (b := decide (((((Mur.belowL p L).length : Nat) : Int) + m) ≤ (8 : Int))) (decide_eq_false (by first | exact hx4 | omega))) ?_
  refine rP 10 37 (.bool false) rfl rfl ?_
  refine rP 11 26 (.bool false) rfl rfl ?_
  refine rEnd 12 rfl (nxt (wp_cond_false (by kernel_rfl) (wp_skip (inN (nxt (wp_seq (wp_seq (reg ?_))))))))
  refine rP 0 52 (.int .u8 0) rfl rfl ?_
  refine rEnd 1 rfl (nxt (wp_block ?_))
  refine Wk.loop (fun m_ a wr => ∃ (t : Nat) (A1 : Option Addr) (c1 : Nat), m_ = 16 - t ∧ a = Sumd_F1 a.tmps (.pointer (some ⟨g, 0, none⟩)) (.pointer (some ⟨w.heap.size, 0, none⟩)) (.slice A1 t c1) (.int .u8 ((t : Nat) : Int)) ∧ t ≤ 16 ∧ Mur.MsgA wr (w.heap.size + 1) 66 A1 t c1 (Mur.splitM p L t) ∧ wr.heap[w.heap.size]? = some (.cells (Mur.msgC kd PA pn pc s m A n c b).toArray 66 (0, 0)) ∧ Chg [] w wr) (16 - 0) ?_ ?_
  ·have kk27 := Chg.step kk1 ch2 trivial
   have kk28 := Chg.step kk27 ch3 trivial
   have kk29 := Chg.step kk28 ch4 ⟨.inr (by omega), trivial⟩
   refine ⟨0, none, 0, rfl, by kernel_rfl, Nat.zero_le _, (Mur.msgA_nil _ _ _), (Chg.hp ch4 (Chg.hp ch3 (Chg.hp ch2 hb1 trivial) trivial) ⟨by omega, trivial⟩), kk29⟩
  rintro mm1 aa1 W16 ⟨t, A1, c1, hmm1, hF1, hi, hM, hX, HB⟩
  generalize aa1.tmps = bb1 at hF1
  subst hF1
  have hzB := HB.size
  have hxl_ := (Array.getElem?_eq_some_iff.1 hX).1
  have hMl_ := hM.len
  have hMc_ := hM.nc
  have hDx_ := Mur.SetF.chg h HB (fun _ _ => trivial)
  by_cases hlt : t < 16
  ·obtain ⟨u, rfl⟩ : ∃ u : UInt8, u.toNat = t := ⟨UInt8.ofNat t, by simp; omega⟩
   have hul := u.toNat_lt
   refine wp_seq (reg ?_)
   refine rQ 0 53 _ rfl rfl (qboolT (b := decide (((u.toNat : Nat) : Int) < (16 : Int))) (decide_eq_true (by omega))) ?_
   refine rEnd 1 rfl (nxt (wp_seq (wp_cond_true (by kernel_rfl) (wp_skip (nxt (wp_seq (wp_block (wp_seq (reg ?_)))))))))
   refine rP 0 54 (.int .u8 ((u.toNat : Nat) : Int)) rfl rfl ?_
   refine rP 1 7 (.int .u8 ((u.toNat : Nat) : Int)) rfl rfl ?_
   refine rEnd 2 rfl (nxt (reg ?_))
   refine rP 0 55 (.slice A1 u.toNat c1) rfl rfl ?_
   refine rP 1 56 (.pointer (some ⟨g, 0, none⟩)) rfl rfl ?_
   refine rP 2 57 (.pointer (some ⟨w.heap.size, 1, none⟩)) rfl rfl ?_
   refine rQ 3 58 _ rfl rfl (load1 38 (.tmp 57) rfl (by kernel_rfl) ⟨w.heap.size, 1, none⟩ (by kernel_rfl) (.slice PA pn pc) (show World.cell? _ ⟨_, 0 + 1, _⟩ = _ from Mur.msg_pre (range_row hX))) ?_
   refine rC 4 59 75 [.tmp 58] #[38] [.slice PA pn pc] rfl rfl rfl ?_
   refine (CloneB_any p PA pn pc W16 (Mur.byt_chg hb HB (fun g off e hl => trivial)) hnil (by omega)).mono ?_
   rintro _ W17 ⟨AA7, nn13, nn14, rfl, ow9, ch15⟩
   have zz15 := ch15.size
   have hq19 := ow9.byt.1
   have hq20 := ow9.nc
   have hq21 := ow9.cm
   refine ⟨_, rfl, ?_⟩
   refine rP 5 60 (.int .u8 ((u.toNat : Nat) : Int)) rfl rfl ?_
   refine rX 6 61 rfl rfl (new_ex (.slice (some ⟨W17.heap.size, 0, none⟩) 1 1) #[.int .u8 ((u.toNat : Nat) : Int)] 5 (by kernel_rfl)) ?_
   rintro _ W18 ⟨rfl, hb6, ch16, sz7⟩
   have zz16 := ch16.size
   have ow10 := Mur.own8 (own_chg ow9.own ch16 (fun q e _ _ => trivial))
   refine rX 7 62 rfl rfl (Mur.append8 (.tmp 59) (.tmp 61) 38 5 rfl Tryd.underlying38 (by kernel_rfl) W16.heap.size AA7 nn13 nn14 p (some ⟨W17.heap.size, 0, none⟩) 1 1 ([u]) (by kernel_rfl) (by kernel_rfl) ow10.own (Mur.byt_row [u] hb6) (fun h => by cases h) (by omega) (by omega) (nn13 + 1) (by omega) (p ++ ([u])) rfl) ?_
   rintro _ W19 ⟨AA8, nn15, rfl, ow11, ch17, ha1⟩
   have zz17 := ch17.size
   have hq22 := ow11.nc
   have hq23 := ow11.cm
   refine rC 8 63 74 [.tmp 56, .tmp 62] #[24, 38] [.pointer (some ⟨g, 0, none⟩), .slice AA8 (nn13 + 1) nn15] rfl rfl rfl ?_
   have hD10 := Mur.SetF.chg hDx_ ch15 (fun s hs => trivial)
   have hD11 := Mur.SetF.chg hD10 ch16 (fun s hs => trivial)
   have hD12 := Mur.SetF.chg hD11 ch17 (fun s hs => (off_blk (fun gz hgz => by have := ow9.lt gz hgz; have := hM_ s hs; omega)))
   have kk30 := Chg.step HB ch15 trivial
   have kk31 := Chg.step kk30 ch16 trivial
   have kk32 := Chg.step kk31 ch17 (newOr_blk (fun g hg => by have := ow9.lt g hg; omega))
   refine (summary_any lo L g F (p ++ ([u])) AA8 (nn13 + 1) nn15 W19 (HV.out.below (Chg.below0 kk32)) hD12 ow11.byt ow11.nil (by omega)).mono ?_
   rintro _ W20 ⟨dd2, AA9, nn16, nn17, hd2, hdl2, rfl, ow12, ch18⟩
   have zz18 := ch18.size
   have hq24 := ow12.nc
   have hq25 := ow12.cm
   refine ⟨_, rfl, ?_⟩
   refine rX 9 64 rfl rfl (Mur.buildR1 67 66 (.tmp 63) rfl Tryd.underlying67 Mur.msgZ 37 104 msgI (Mur.msgC_length rfl) (by decide) (by decide) (Mur.msgC 1 AA9 nn16 nn17 dd2 (((Mur.belowL (p ++ ([u])) L).length : Nat) : Int) none 0 0 false) (Mur.msgC_length hdl2) (by kernel_rfl)) ?_
   rintro _ W21 ⟨rfl, hb7, ch19, sz8⟩
   have zz19 := ch19.size
   have kk33 : Chg [] W16 W17 := Chg.step ((Chg.refl _).more (by simp)) ch15 trivial
   have kk34 := Chg.step kk33 ch16 trivial
   have kk35 := Chg.step kk34 ch17 (newOr_blk (fun g hg => by have := ow9.lt g hg; omega))
   have kk36 := Chg.step kk35 ch18 trivial
   have kk37 := Chg.step kk36 ch19 trivial
   have ow13 := (Mur.MsgA.chg hM kk37 (fun _ _ _ _ => trivial))
   have ow14 := Mur.own8 (own_chg ow12.own ch19 (fun q e _ _ => trivial))
   have hsub3 := Mur.subs_own1 (kd := 1) (s := dd2) (k := (((Mur.belowL (p ++ ([u])) L).length : Nat) : Int)) (b := false) ow14 hdl2
   have hlt1 := hM.lt
   refine rX 10 65 rfl rfl (Mur.appendM (.tmp 55) (.tmp 64) 67 66 rfl Tryd.underlying67 msgI (w.heap.size + 1) A1 u.toNat c1 (Mur.splitM p L u.toNat) W20.heap.size ⟨1, AA9, nn16, nn17, dd2, (((Mur.belowL (p ++ ([u])) L).length : Nat) : Int), none, 0, 0, false, hdl2⟩ (Mur.summaryM (p ++ ([u])) L) (by kernel_rfl) (by kernel_rfl) ow13 hb7 (Mur.rawok_sum ow14 hd2.out hdl2) (fun q_ hq_ => ⟨by have := hsub3 q_ hq_; omega, fun e_ => by have := hlt1 q_ e_; have := hsub3 q_ hq_; omega⟩) (by omega) (by omega)) ?_
   rintro _ W22 ⟨AA10, nn18, rfl, ow15, ch20⟩
   have zz20 := ch20.size
   have hq26 := ow15.nc
   have hq27 := ow15.cm
   refine rP 11 4 (.slice AA10 (u.toNat + 1) nn18) rfl rfl ?_
   refine rEnd 12 rfl (inN (nxt (reg ?_)))
   refine rQ 0 66 (.int .u8 ((u.toNat + 1 : Nat) : Int)) rfl rfl (Mur.inc8 5 5 (.tmp 52) (.const (.int .u8 1)) rfl u (by omega) (by kernel_rfl) (by kernel_rfl)) ?_
   refine rP 1 52 (.int .u8 ((u.toNat + 1 : Nat) : Int)) rfl rfl ?_
   refine rEnd 2 rfl (nxt ?_)
   have kk38 := Chg.step kk32 ch18 trivial
   have kk39 := Chg.step kk38 ch19 trivial
   have kk40 := Chg.step kk39 ch20 (newOr_blk (fun g hg => by have := hlt1 g hg; omega))
   refine ⟨_, ?_, u.toNat + 1, AA10, nn18, rfl, by kernel_rfl, (by omega), (by rw [Mur.splitM_succ]; exact ow15), (Chg.hp ch20 (Chg.hp ch19 (Chg.hp ch18 (Chg.hp ch17 (Chg.hp ch16 (Chg.hp ch15 hX trivial) trivial) (off_blk (fun gz hgz => by have := ow9.lt gz hgz; omega))) trivial) trivial) (off_blk (fun gz hgz => by have := hlt1 gz hgz; omega))), kk40⟩
   omega
  have ht16_ : Mur.splitM p L t = Mur.splitM p L 16 := by rw [show t = 16 by omega]
  refine wp_seq (reg ?_)
  refine rQ 0 53 _ rfl rfl (qboolF (b := decide (((t : Nat) : Int) < (16 : Int))) (decide_eq_false (by omega))) ?_
  refine rEnd 1 rfl (nxt (wp_seq (wp_cond_false (by kernel_rfl) (wp_exit (thX (thX (inX (nxt (wp_seq (reg ?_))))))))))
  refine rP 0 67 (.slice A1 t c1) rfl rfl ?_
  refine rP 1 4 (.slice A1 t c1) rfl rfl ?_
  refine rEnd 2 rfl (nxt (wp_ret ?_))
  have hde_ := hd1.out
  have hcn_ : Mur.cntL p L = (Mur.belowL p L).length := rfl
  have hpl_ := hb.1
  refine Wk.ret (.slice A1 t c1) rfl (by kernel_rfl) ?_
  exact ⟨_, _, _, rfl, by rw [Mur.summed_split (p := p) (s := s) (L := L) (m := m) (by rw [← hde_]; first | exact fun h_ => hds h_.1 | (rintro ⟨_, h_⟩; omega)) (by omega), ← ht16_]; exact Mur.MsgA.low hM (by omega), HB⟩
 refine rQ 3 19 (.bool false) rfl rfl (Mur.run_eql_no digT dd1 s hdl1 hs hds _ (.tmp 16) (.tmp 18) 30 rfl (by kernel_rfl) (by kernel_rfl)) ?_
 refine rP 4 20 (.bool false) rfl rfl ?_
 refine rPass 5 (some 21) rfl rfl (by kernel_rfl) ?_
 refine rPass 6 (some 22) rfl rfl (by kernel_rfl) ?_
 refine rPass 7 (some 23) rfl rfl (by kernel_rfl) ?_
 refine rPass 8 (some 24) rfl rfl (by kernel_rfl) ?_
 refine rP 9 25 (.bool false) rfl rfl ?_
 refine rP 10 15 (.bool false) rfl rfl ?_
 refine rEnd 11 rfl (nxt (wp_cond_false (by kernel_rfl) (wp_seq (reg ?_))))
 refine rP 0 27 (.pointer (some ⟨w.heap.size, 1, none⟩)) rfl rfl ?_
 refine rQ 1 28 _ rfl rfl (load1 38 (.tmp 27) rfl (by kernel_rfl) ⟨w.heap.size, 1, none⟩ (by kernel_rfl) (.slice PA pn pc) (show World.cell? _ ⟨_, 0 + 1, _⟩ = _ from Mur.msg_pre (range_row (Chg.hp ch4 (Chg.hp ch3 (Chg.hp ch2 hb1 trivial) trivial) ⟨by omega, trivial⟩)))) ?_
 refine rP 2 29 (.int .i64 ((pn : Nat) : Int)) rfl rfl ?_
 by_cases hx6 : ((pn : Nat) : Int) = (8 : Int)
 ·refine rQ 3 30 _ rfl rfl (qboolT (b := (((pn : Nat) : Int) == (8 : Int))) (beq_iff_eq.2 (by first | exact hx6 | omega))) ?_
  refine rP 4 31 (.bool true) rfl rfl ?_
  refine rPass 5 (some 32) rfl rfl (by kernel_rfl) ?_
  refine rPass 6 (some 33) rfl rfl (by kernel_rfl) ?_
  refine rPass 7 (some 34) rfl rfl (by kernel_rfl) ?_
  refine rPass 8 (some 35) rfl rfl (by kernel_rfl) ?_
  refine rPass 9 (some 36) rfl rfl (by kernel_rfl) ?_
  refine rP 10 37 (.bool true) rfl rfl ?_
  refine rP 11 26 (.bool true) rfl rfl ?_
  refine rEnd 12 rfl (nxt (wp_cond_true (by kernel_rfl) (wp_seq (wp_seq (reg ?_)))))
  refine rP 0 38 (.int .i64 (((Mur.belowL p L).length : Nat) : Int)) rfl rfl ?_
  by_cases hx7 : (((Mur.belowL p L).length : Nat) : Int) = (0 : Int)
  ·refine rQ 1 39 _ rfl rfl (qboolT (b := ((((Mur.belowL p L).length : Nat) : Int) == (0 : Int))) (beq_iff_eq.2 (by first | exact hx7 | omega))) ?_
   refine rEnd 2 rfl (nxt (wp_cond_true (by kernel_rfl) (wp_seq (reg ?_))))
   refine rP 0 40 (.pointer (some ⟨w.heap.size, 1, none⟩)) rfl rfl ?_
   refine rQ 1 41 _ rfl rfl (load1 38 (.tmp 40) rfl (by kernel_rfl) ⟨w.heap.size, 1, none⟩ (by kernel_rfl) (.slice PA pn pc) (show World.cell? _ ⟨_, 0 + 1, _⟩ = _ from Mur.msg_pre (range_row (Chg.hp ch4 (Chg.hp ch3 (Chg.hp ch2 hb1 trivial) trivial) ⟨by omega, trivial⟩)))) ?_
   refine rC 2 42 75 [.tmp 41] #[38] [.slice PA pn pc] rfl rfl rfl ?_
   have kk41 := Chg.step kk1 ch2 trivial
   have kk42 := Chg.step kk41 ch3 trivial
   have kk43 := Chg.step kk42 ch4 ⟨.inr (by omega), trivial⟩
   refine (CloneB_any p PA pn pc W4 (Mur.byt_chg hb kk43 (fun g off e hl => trivial)) hnil (by omega)).mono ?_
   rintro _ W23 ⟨AA11, nn19, nn20, rfl, ow16, ch21⟩
   have zz21 := ch21.size
   have hq28 := ow16.byt.1
   have hq29 := ow16.nc
   have hq30 := ow16.cm
   refine ⟨_, rfl, ?_⟩
   refine rQ 3 43 (.agg ((Mur.msgC 2 AA11 nn19 nn20 Mur.z32 0 none 0 0 false).toArray)) rfl rfl (Mur.run_built 66 _ rfl [(0, .int .u8 2), (1, .slice AA11 nn19 nn20)] (by kernel_rfl) _ (built_empty AA11 nn19 nn20)) ?_
   refine rX 4 44 rfl rfl (Mur.buildR1 67 66 (.tmp 43) rfl Tryd.underlying67 Mur.msgZ 37 104 msgI (Mur.msgC_length rfl) (by decide) (by decide) (Mur.msgC 2 AA11 nn19 nn20 Mur.z32 0 none 0 0 false) (Mur.msgC_length rfl) (by kernel_rfl)) ?_
   rintro _ W24 ⟨rfl, hb8, ch22, sz9⟩
   have zz22 := ch22.size
   refine rP 5 4 (.slice (some ⟨W23.heap.size, 0, none⟩) 1 1) rfl rfl ?_
   refine rEnd 6 rfl (nxt (wp_ret (thR (inR (thR ?_)))))
   have hde_ := hd1.out
   have hcn_ : Mur.cntL p L = (Mur.belowL p L).length := rfl
   have hpl_ := hb.1
   have ow17 := Mur.own8 (own_chg ow16.own ch22 (fun q e _ _ => trivial))
   have hsub4 := Mur.subs_own1 (kd := 2) (s := Mur.z32) (k := 0) (b := false) ow16 rfl
   have kk44 := Chg.step kk43 ch21 trivial
   have kk45 := Chg.step kk44 ch22 trivial
   refine Wk.ret (.slice (some ⟨W23.heap.size, 0, none⟩) 1 1) rfl (by kernel_rfl) ?_
   exact ⟨_, _, _, rfl, by rw [Mur.summed_empty (p := p) (s := s) (L := L) (m := m) (by rw [← hde_]; first | exact fun h_ => hds h_.1 | (rintro ⟨_, h_⟩; omega)) (by omega) (by omega)]; exact Mur.msgA_one (r := ⟨2, AA11, nn19, nn20, Mur.z32, 0, none, 0, 0, false, rfl⟩) hb8 (Mur.rawok_empty ow17) (by omega) (fun q_ hq_ => by have := hsub4 q_ hq_; omega), kk45⟩
  refine rQ 1 39 _ rfl rfl (qboolF (b := ((((Mur.belowL p L).length : Nat) : Int) == (0 : Int))) (beq_eq_false_iff_ne.2 (by first | exact hx7 | omega))) ?_
  refine rEnd 2 rfl (nxt (wp_cond_false (by kernel_rfl) (wp_skip (nxt (wp_seq ?_)))))
  refine dReg ([]) (by kernel_rfl) ?_
  intro W25 ch23 sz10
  have zz23 := ch23.size
  have sS7 : Chg ([]) W25 W25 := (Chg.refl _).more (by simp)
  refine dV 0 45 (.pointer (some ⟨w.heap.size, 1, none⟩)) rfl rfl (fun _ _ => by kernel_rfl) sS7 ?_
  refine dV 1 46 (.slice PA pn pc) rfl rfl (fun w' hw' => (load1 38 (.tmp 45) rfl (by kernel_rfl) ⟨w.heap.size, 1, none⟩ (by kernel_rfl) (.slice PA pn pc) (show World.cell? _ ⟨_, 0 + 1, _⟩ = _ from Mur.msg_pre (range_row (Chg.hp hw' (Chg.hp ch23 (Chg.hp ch4 (Chg.hp ch3 (Chg.hp ch2 hb1 trivial) trivial) ⟨by omega, trivial⟩) trivial) trivial))))) sS7 ?_
  refine dV 2 47 (.pointer (some ⟨g, 0, none⟩)) rfl rfl (fun _ _ => by kernel_rfl) sS7 ?_
  refine dV 3 48 (.pointer (some ⟨w.heap.size, 1, none⟩)) rfl rfl (fun _ _ => by kernel_rfl) sS7 ?_
  refine dV 4 49 (.slice PA pn pc) rfl rfl (fun w' hw' => (load1 38 (.tmp 48) rfl (by kernel_rfl) ⟨w.heap.size, 1, none⟩ (by kernel_rfl) (.slice PA pn pc) (show World.cell? _ ⟨_, 0 + 1, _⟩ = _ from Mur.msg_pre (range_row (Chg.hp hw' (Chg.hp ch23 (Chg.hp ch4 (Chg.hp ch3 (Chg.hp ch2 hb1 trivial) trivial) ⟨by omega, trivial⟩) trivial) trivial))))) sS7 ?_
  refine dOp 5 (by kernel_rfl) ?_
  refine oCall (some 50) 18 [.tmp 47, .tmp 49] #[24, 38] [.pointer (some ⟨g, 0, none⟩), .slice PA pn pc] rfl rfl (by kernel_rfl) rfl (by kernel_rfl) (by kernel_rfl) ?_
  have kk46 := Chg.step kk1 ch2 trivial
  have kk47 := Chg.step kk46 ch3 trivial
  have kk48 := Chg.step kk47 ch4 ⟨.inr (by omega), trivial⟩
  have kk49 := Chg.step kk48 ch23 trivial
  have hD13 := Mur.SetF.chg hD1 ch2 (fun s hs => trivial)
  have hD14 := Mur.SetF.chg hD13 ch3 (fun s hs => trivial)
  have hD15 := Mur.SetF.chg hD14 ch4 (fun s hs => ⟨by have := hM_ s hs; omega, trivial⟩)
  have hD16 := Mur.SetF.chg hD15 ch23 (fun s hs => trivial)
  refine (Below_any lo L g F p PA pn pc W25 hD16 (Mur.byt_chg hb kk49 (fun g off e hl => trivial)) (by omega)).mono ?_
  rintro _ W26 ⟨AA12, nn21, nn22, rfl, ow18, ch24⟩
  have zz24 := ch24.size
  have hq31 := ow18.nc
  have hq32 := ow18.cm
  have hq33 := ow18.sl.len
  have hq34 : (Mur.belowL p L).length ≤ 200 := Nat.le_trans (Mur.belowL_len _ _) (Mur.SetF.len hD16)
  have sS8 := Chg.step sS7 ch24 trivial
  refine ⟨_, rfl, sS8, ?_⟩
  refine dOp 6 (by kernel_rfl) ?_
  refine oCall (some 51) 57 [.tmp 46, .tmp 50, .const (.bool false)] #[38, 22, 4] [.slice PA pn pc, .slice AA12 nn21 nn22, .bool false] rfl rfl (by kernel_rfl) rfl (by kernel_rfl) (by kernel_rfl) ?_
  have kk50 := Chg.step kk49 ch24 trivial
  have hol3 := ow18.sl.len
  have hoc3 : nn22 ≤ 9223372036854775807 := Nat.le_trans ow18.cm (by unfold Go.maxLen; omega)
  have hon3 := ow18.nc
  refine (items_any p PA pn pc AA12 nn21 nn22 (Mur.belowL p L) false W26 (Mur.byt_chg hb kk50 (fun g off e hl => trivial)) hnil (by omega) ow18.sl (by omega)).mono ?_
  rintro _ W27 ⟨AA13, nn23, nn24, rfl, ow19, ch25⟩
  have zz25 := ch25.size
  have hq35 := ow19.nc
  have hq36 := ow19.cm
  have sS9 := Chg.step sS8 ch25 trivial
  refine ⟨_, rfl, sS9, ?_⟩
  refine dV 7 4 (.slice AA13 nn23 nn24) rfl rfl (fun _ _ => by kernel_rfl) sS9 ?_
  refine dEnd (by kernel_rfl) (nxt (wp_ret (inR (thR ?_))))
  have hde_ := hd1.out
  have hcn_ : Mur.cntL p L = (Mur.belowL p L).length := rfl
  have hpl_ := hb.1
  have kk51 := Chg.step kk50 ch25 trivial
  refine Wk.ret (.slice AA13 nn23 nn24) rfl (by kernel_rfl) ?_
  exact ⟨_, _, _, rfl, by rw [Mur.summed_items (p := p) (s := s) (L := L) (m := m) (by rw [← hde_]; first | exact fun h_ => hds h_.1 | (rintro ⟨_, h_⟩; omega)) (by omega) (by omega)]; exact Mur.MsgA.low ow19 (by omega), kk51⟩
 refine rQ 3 30 _ rfl rfl (qboolF (b := (((pn : Nat) : Int) == (8 : Int))) (beq_eq_false_iff_ne.2 (by first | exact hx6 | omega))) ?_
 refine rP 4 31 (.bool false) rfl rfl ?_
 refine rP 5 32 (.int .i64 (((Mur.belowL p L).length : Nat) : Int)) rfl rfl ?_
 refine rP 6 33 (.pointer (some ⟨w.heap.size, 34, none⟩)) rfl rfl ?_
 refine rQ 7 34 _ rfl rfl (load1 3 (.tmp 33) rfl (by kernel_rfl) ⟨w.heap.size, 34, none⟩ (by kernel_rfl) (.int .i64 m) (show World.cell? _ ⟨_, 0 + 34, _⟩ = _ from Mur.msg_cnt hs (range_row (Chg.hp ch4 (Chg.hp ch3 (Chg.hp ch2 hb1 trivial) trivial) ⟨by omega, trivial⟩)))) ?_
 refine rQ 8 35 _ rfl rfl (qint64 (n := (((Mur.belowL p L).length : Nat) : Int) + m) (z := (((Mur.belowL p L).length : Nat) : Int) + m) (by omega) (by omega) (by omega)) ?_
 by_cases hx8 : ((((Mur.belowL p L).length : Nat) : Int) + m) ≤ (8 : Int)
 ·refine rQ 9 36 _ rfl rfl (qboolT (b := decide (((((Mur.belowL p L).length : Nat) : Int) + m) ≤ (8 : Int))) (decide_eq_true (by first | exact hx8 | omega))) ?_
  refine rP 10 37 (.bool true) rfl rfl ?_
  refine rP 11 26 (.bool true) rfl rfl ?_
  refine rEnd 12 rfl (nxt (wp_cond_true (by kernel_rfl) (wp_seq (wp_seq (reg ?_)))))
  refine rP 0 38 (.int .i64 (((Mur.belowL p L).length : Nat) : Int)) rfl rfl ?_
  by_cases hx9 : (((Mur.belowL p L).length : Nat) : Int) = (0 : Int)
  ·refine rQ 1 39 _ rfl rfl (qboolT (b := ((((Mur.belowL p L).length : Nat) : Int) == (0 : Int))) (beq_iff_eq.2 (by first | exact hx9 | omega))) ?_
   refine rEnd 2 rfl (nxt (wp_cond_true (by kernel_rfl) (wp_seq (reg ?_))))
   refine rP 0 40 (.pointer (some ⟨w.heap.size, 1, none⟩)) rfl rfl ?_
   refine rQ 1 41 _ rfl rfl (load1 38 (.tmp 40) rfl (by kernel_rfl) ⟨w.heap.size, 1, none⟩ (by kernel_rfl) (.slice PA pn pc) (show World.cell? _ ⟨_, 0 + 1, _⟩ = _ from Mur.msg_pre (range_row (Chg.hp ch4 (Chg.hp ch3 (Chg.hp ch2 hb1 trivial) trivial) ⟨by omega, trivial⟩)))) ?_
   refine rC 2 42 75 [.tmp 41] #[38] [.slice PA pn pc] rfl rfl rfl ?_
   have kk52 := Chg.step kk1 ch2 trivial
   have kk53 := Chg.step kk52 ch3 trivial
   have kk54 := Chg.step kk53 ch4 ⟨.inr (by omega), trivial⟩
   refine (CloneB_any p PA pn pc W4 (Mur.byt_chg hb kk54 (fun g off e hl => trivial)) hnil (by omega)).mono ?_
   rintro _ W28 ⟨AA14, nn25, nn26, rfl, ow20, ch26⟩
   have zz26 := ch26.size
   have hq37 := ow20.byt.1
   have hq38 := ow20.nc
   have hq39 := ow20.cm
   refine ⟨_, rfl, ?_⟩
   refine rQ 3 43 (.agg ((Mur.msgC 2 AA14 nn25 nn26 Mur.z32 0 none 0 0 false).toArray)) rfl rfl (Mur.run_built 66 _ rfl [(0, .int .u8 2), (1, .slice AA14 nn25 nn26)] (by kernel_rfl) _ (built_empty AA14 nn25 nn26)) ?_
   refine rX 4 44 rfl rfl (Mur.buildR1 67 66 (.tmp 43) rfl Tryd.underlying67 Mur.msgZ 37 104 msgI (Mur.msgC_length rfl) (by decide) (by decide) (Mur.msgC 2 AA14 nn25 nn26 Mur.z32 0 none 0 0 false) (Mur.msgC_length rfl) (by kernel_rfl)) ?_
   rintro _ W29 ⟨rfl, hb9, ch27, sz11⟩
   have zz27 := ch27.size
   refine rP 5 4 (.slice (some ⟨W28.heap.size, 0, none⟩) 1 1) rfl rfl ?_
   refine rEnd 6 rfl (nxt (wp_ret (thR (inR (thR ?_)))))
   have hde_ := hd1.out
   have hcn_ : Mur.cntL p L = (Mur.belowL p L).length := rfl
   have hpl_ := hb.1
   have ow21 := Mur.own8 (own_chg ow20.own ch27 (fun q e _ _ => trivial))
   have hsub5 := Mur.subs_own1 (kd := 2) (s := Mur.z32) (k := 0) (b := false) ow20 rfl
   have kk55 := Chg.step kk54 ch26 trivial
   have kk56 := Chg.step kk55 ch27 trivial
   refine Wk.ret (.slice (some ⟨W28.heap.size, 0, none⟩) 1 1) rfl (by kernel_rfl) ?_
   exact ⟨_, _, _, rfl, by rw [Mur.summed_empty (p := p) (s := s) (L := L) (m := m) (by rw [← hde_]; first | exact fun h_ => hds h_.1 | (rintro ⟨_, h_⟩; omega)) (by omega) (by omega)]; exact Mur.msgA_one (r := ⟨2, AA14, nn25, nn26, Mur.z32, 0, none, 0, 0, false, rfl⟩) hb9 (Mur.rawok_empty ow21) (by omega) (fun q_ hq_ => by have := hsub5 q_ hq_; omega), kk56⟩
  refine rQ 1 39 _ rfl rfl (qboolF (b := ((((Mur.belowL p L).length : Nat) : Int) == (0 : Int))) (beq_eq_false_iff_ne.2 (by first | exact hx9 | omega))) ?_
  refine rEnd 2 rfl (nxt (wp_cond_false (by kernel_rfl) (wp_skip (nxt (wp_seq ?_)))))
  refine dReg ([]) (by kernel_rfl) ?_
  intro W30 ch28 sz12
  have zz28 := ch28.size
  have sS10 : Chg ([]) W30 W30 := (Chg.refl _).more (by simp)
  refine dV 0 45 (.pointer (some ⟨w.heap.size, 1, none⟩)) rfl rfl (fun _ _ => by kernel_rfl) sS10 ?_
  refine dV 1 46 (.slice PA pn pc) rfl rfl (fun w' hw' => (load1 38 (.tmp 45) rfl (by kernel_rfl) ⟨w.heap.size, 1, none⟩ (by kernel_rfl) (.slice PA pn pc) (show World.cell? _ ⟨_, 0 + 1, _⟩ = _ from Mur.msg_pre (range_row (Chg.hp hw' (Chg.hp ch28 (Chg.hp ch4 (Chg.hp ch3 (Chg.hp ch2 hb1 trivial) trivial) ⟨by omega, trivial⟩) trivial) trivial))))) sS10 ?_
  refine dV 2 47 (.pointer (some ⟨g, 0, none⟩)) rfl rfl (fun _ _ => by kernel_rfl) sS10 ?_
  refine dV 3 48 (.pointer (some ⟨w.heap.size, 1, none⟩)) rfl rfl (fun _ _ => by kernel_rfl) sS10 ?_
  refine dV 4 49 (.slice PA pn pc) rfl rfl (fun w' hw' => (load1 38 (.tmp 48) rfl (by kernel_rfl) ⟨w.heap.size, 1, none⟩ (by kernel_rfl) (.slice PA pn pc) (show World.cell? _ ⟨_, 0 + 1, _⟩ = _ from Mur.msg_pre (range_row (Chg.hp hw' (Chg.hp ch28 (Chg.hp ch4 (Chg.hp ch3 (Chg.hp ch2 hb1 trivial) trivial) ⟨by omega, trivial⟩) trivial) trivial))))) sS10 ?_
  refine dOp 5 (by kernel_rfl) ?_
  refine oCall (some 50) 18 [.tmp 47, .tmp 49] #[24, 38] [.pointer (some ⟨g, 0, none⟩), .slice PA pn pc] rfl rfl (by kernel_rfl) rfl (by kernel_rfl) (by kernel_rfl) ?_
  have kk57 := Chg.step kk1 ch2 trivial
  have kk58 := Chg.step kk57 ch3 trivial
  have kk59 := Chg.step kk58 ch4 ⟨.inr (by omega), trivial⟩
  have kk60 := Chg.step kk59 ch28 trivial
  have hD17 := Mur.SetF.chg hD1 ch2 (fun s hs => trivial)
  have hD18 := Mur.SetF.chg hD17 ch3 (fun s hs => trivial)
  have hD19 := Mur.SetF.chg hD18 ch4 (fun s hs => ⟨by have := hM_ s hs; omega, trivial⟩)
  have hD20 := Mur.SetF.chg hD19 ch28 (fun s hs => trivial)
  refine (Below_any lo L g F p PA pn pc W30 hD20 (Mur.byt_chg hb kk60 (fun g off e hl => trivial)) (by omega)).mono ?_
  rintro _ W31 ⟨AA15, nn27, nn28, rfl, ow22, ch29⟩
  have zz29 := ch29.size
  have hq40 := ow22.nc
  have hq41 := ow22.cm
  have hq42 := ow22.sl.len
  have hq43 : (Mur.belowL p L).length ≤ 200 := Nat.le_trans (Mur.belowL_len _ _) (Mur.SetF.len hD20)
  have sS11 := Chg.step sS10 ch29 trivial
  refine ⟨_, rfl, sS11, ?_⟩
  refine dOp 6 (by kernel_rfl) ?_
  refine oCall (some 51) 57 [.tmp 46, .tmp 50, .const (.bool false)] #[38, 22, 4] [.slice PA pn pc, .slice AA15 nn27 nn28, .bool false] rfl rfl (by kernel_rfl) rfl (by kernel_rfl) (by kernel_rfl) ?_
  have kk61 := Chg.step kk60 ch29 trivial
  have hol4 := ow22.sl.len
  have hoc4 : nn28 ≤ 9223372036854775807 := Nat.le_trans ow22.cm (by unfold Go.maxLen; omega)
  have hon4 := ow22.nc
  refine (items_any p PA pn pc AA15 nn27 nn28 (Mur.belowL p L) false W31 (Mur.byt_chg hb kk61 (fun g off e hl => trivial)) hnil (by omega) ow22.sl (by omega)).mono ?_
  rintro _ W32 ⟨AA16, nn29, nn30, rfl, ow23, ch30⟩
  have zz30 := ch30.size
  have hq44 := ow23.nc
  have hq45 := ow23.cm
  have sS12 := Chg.step sS11 ch30 trivial
  refine ⟨_, rfl, sS12, ?_⟩
  refine dV 7 4 (.slice AA16 nn29 nn30) rfl rfl (fun _ _ => by kernel_rfl) sS12 ?_
  refine dEnd (by kernel_rfl) (nxt (wp_ret (inR (thR ?_))))
  have hde_ := hd1.out
  have hcn_ : Mur.cntL p L = (Mur.belowL p L).length := rfl
  have hpl_ := hb.1
  have kk62 := Chg.step kk61 ch30 trivial
  refine Wk.ret (.slice AA16 nn29 nn30) rfl (by kernel_rfl) ?_
  exact ⟨_, _, _, rfl, by rw [Mur.summed_items (p := p) (s := s) (L := L) (m := m) (by rw [← hde_]; first | exact fun h_ => hds h_.1 | (rintro ⟨_, h_⟩; omega)) (by omega) (by omega)]; exact Mur.MsgA.low ow23 (by omega), kk62⟩
 refine rQ 9 36 _ rfl rfl (qboolF (b := decide (((((Mur.belowL p L).length : Nat) : Int) + m) ≤ (8 : Int))) (decide_eq_false (by first | exact hx8 | omega))) ?_
 refine rP 10 37 (.bool false) rfl rfl ?_
 refine rP 11 26 (.bool false) rfl rfl ?_
 refine rEnd 12 rfl (nxt (wp_cond_false (by kernel_rfl) (wp_skip (inN (nxt (wp_seq (wp_seq (reg ?_))))))))
 refine rP 0 52 (.int .u8 0) rfl rfl ?_
 refine rEnd 1 rfl (nxt (wp_block ?_))
 refine Wk.loop (fun m_ a wr => ∃ (t : Nat) (A1 : Option Addr) (c1 : Nat), m_ = 16 - t ∧ a = Sumd_F2 a.tmps (.pointer (some ⟨g, 0, none⟩)) (.pointer (some ⟨w.heap.size, 0, none⟩)) (.slice A1 t c1) (.int .u8 ((t : Nat) : Int)) ∧ t ≤ 16 ∧ Mur.MsgA wr (w.heap.size + 1) 66 A1 t c1 (Mur.splitM p L t) ∧ wr.heap[w.heap.size]? = some (.cells (Mur.msgC kd PA pn pc s m A n c b).toArray 66 (0, 0)) ∧ Chg [] w wr) (16 - 0) ?_ ?_
 ·have kk63 := Chg.step kk1 ch2 trivial
  have kk64 := Chg.step kk63 ch3 trivial
  have kk65 := Chg.step kk64 ch4 ⟨.inr (by omega), trivial⟩
  refine ⟨0, none, 0, rfl, by kernel_rfl, Nat.zero_le _, (Mur.msgA_nil _ _ _), (Chg.hp ch4 (Chg.hp ch3 (Chg.hp ch2 hb1 trivial) trivial) ⟨by omega, trivial⟩), kk65⟩
 rintro mm2 aa2 W33 ⟨t, A1, c1, hmm2, hF2, hi, hM, hX, HB⟩
 generalize aa2.tmps = bb2 at hF2
 subst hF2
 have hzB := HB.size
 have hxl_ := (Array.getElem?_eq_some_iff.1 hX).1
 have hMl_ := hM.len
 have hMc_ := hM.nc
 have hDx_ := Mur.SetF.chg h HB (fun _ _ => trivial)
 by_cases hlt : t < 16
 ·obtain ⟨u, rfl⟩ : ∃ u : UInt8, u.toNat = t := ⟨UInt8.ofNat t, by simp; omega⟩
  have hul := u.toNat_lt
  refine wp_seq (reg ?_)
  refine rQ 0 53 _ rfl rfl (qboolT (b := decide (((u.toNat : Nat) : Int) < (16 : Int))) (decide_eq_true (by omega))) ?_
  refine rEnd 1 rfl (nxt (wp_seq (wp_cond_true (by kernel_rfl) (wp_skip (nxt (wp_seq (wp_block (wp_seq (reg ?_)))))))))
  refine rP 0 54 (.int .u8 ((u.toNat : Nat) : Int)) rfl rfl ?_
  refine rP 1 7 (.int .u8 ((u.toNat : Nat) : Int)) rfl rfl ?_
  refine rEnd 2 rfl (nxt (reg ?_))
  refine rP 0 55 (.slice A1 u.toNat c1) rfl rfl ?_
  refine rP 1 56 (.pointer (some ⟨g, 0, none⟩)) rfl rfl ?_
  refine rP 2 57 (.pointer (some ⟨w.heap.size, 1, none⟩)) rfl rfl ?_
  refine rQ 3 58 _ rfl rfl (load1 38 (.tmp 57) rfl (by kernel_rfl) ⟨w.heap.size, 1, none⟩ (by kernel_rfl) (.slice PA pn pc) (show World.cell? _ ⟨_, 0 + 1, _⟩ = _ from Mur.msg_pre (range_row hX))) ?_
  refine rC 4 59 75 [.tmp 58] #[38] [.slice PA pn pc] rfl rfl rfl ?_
  refine (CloneB_any p PA pn pc W33 (Mur.byt_chg hb HB (fun g off e hl => trivial)) hnil (by omega)).mono ?_
  rintro _ W34 ⟨AA17, nn31, nn32, rfl, ow24, ch31⟩
  have zz31 := ch31.size
  have hq46 := ow24.byt.1
  have hq47 := ow24.nc
  have hq48 := ow24.cm
  refine ⟨_, rfl, ?_⟩
  refine rP 5 60 (.int .u8 ((u.toNat : Nat) : Int)) rfl rfl ?_
  refine rX 6 61 rfl rfl (new_ex (.slice (some ⟨W34.heap.size, 0, none⟩) 1 1) #[.int .u8 ((u.toNat : Nat) : Int)] 5 (by kernel_rfl)) ?_
  rintro _ W35 ⟨rfl, hb10, ch32, sz13⟩
  have zz32 := ch32.size
  have ow25 := Mur.own8 (own_chg ow24.own ch32 (fun q e _ _ => trivial))
  refine rX 7 62 rfl rfl (Mur.append8 (.tmp 59) (.tmp 61) 38 5 rfl Tryd.underlying38 (by kernel_rfl) W33.heap.size AA17 nn31 nn32 p (some ⟨W34.heap.size, 0, none⟩) 1 1 ([u]) (by kernel_rfl) (by kernel_rfl) ow25.own (Mur.byt_row [u] hb10) (fun h => by cases h) (by omega) (by omega) (nn31 + 1) (by omega) (p ++ ([u])) rfl) ?_
  rintro _ W36 ⟨AA18, nn33, rfl, ow26, ch33, ha2⟩
  have zz33 := ch33.size
  have hq49 := ow26.nc
  have hq50 := ow26.cm
  refine rC 8 63 74 [.tmp 56, .tmp 62] #[24, 38] [.pointer (some ⟨g, 0, none⟩), .slice AA18 (nn31 + 1) nn33] rfl rfl rfl ?_
  have hD21 := Mur.SetF.chg hDx_ ch31 (fun s hs => trivial)
  have hD22 := Mur.SetF.chg hD21 ch32 (fun s hs => trivial)
  have hD23 := Mur.SetF.chg hD22 ch33 (fun s hs => (off_blk (fun gz hgz => by have := ow24.lt gz hgz; have := hM_ s hs; omega)))
  have kk66 := Chg.step HB ch31 trivial
  have kk67 := Chg.step kk66 ch32 trivial
  have kk68 := Chg.step kk67 ch33 (newOr_blk (fun g hg => by have := ow24.lt g hg; omega))
  refine (summary_any lo L g F (p ++ ([u])) AA18 (nn31 + 1) nn33 W36 (HV.out.below (Chg.below0 kk68)) hD23 ow26.byt ow26.nil (by omega)).mono ?_
  rintro _ W37 ⟨dd3, AA19, nn34, nn35, hd3, hdl3, rfl, ow27, ch34⟩
  have zz34 := ch34.size
  have hq51 := ow27.nc
  have hq52 := ow27.cm
  refine ⟨_, rfl, ?_⟩
  refine rX 9 64 rfl rfl (Mur.buildR1 67 66 (.tmp 63) rfl Tryd.underlying67 Mur.msgZ 37 104 msgI (Mur.msgC_length rfl) (by decide) (by decide) (Mur.msgC 1 AA19 nn34 nn35 dd3 (((Mur.belowL (p ++ ([u])) L).length : Nat) : Int) none 0 0 false) (Mur.msgC_length hdl3) (by kernel_rfl)) ?_
  rintro _ W38 ⟨rfl, hb11, ch35, sz14⟩
  have zz35 := ch35.size
  have kk69 : Chg [] W33 W34 := Chg.step ((Chg.refl _).more (by simp)) ch31 trivial
  have kk70 := Chg.step kk69 ch32 trivial
  have kk71 := Chg.step kk70 ch33 (newOr_blk (fun g hg => by have := ow24.lt g hg; omega))
  have kk72 := Chg.step kk71 ch34 trivial
  have kk73 := Chg.step kk72 ch35 trivial
  have ow28 := (Mur.MsgA.chg hM kk73 (fun _ _ _ _ => trivial))
  have ow29 := Mur.own8 (own_chg ow27.own ch35 (fun q e _ _ => trivial))
  have hsub6 := Mur.subs_own1 (kd := 1) (s := dd3) (k := (((Mur.belowL (p ++ ([u])) L).length : Nat) : Int)) (b := false) ow29 hdl3
  have hlt2 := hM.lt
  refine rX 10 65 rfl rfl (Mur.appendM (.tmp 55) (.tmp 64) 67 66 rfl Tryd.underlying67 msgI (w.heap.size + 1) A1 u.toNat c1 (Mur.splitM p L u.toNat) W37.heap.size ⟨1, AA19, nn34, nn35, dd3, (((Mur.belowL (p ++ ([u])) L).length : Nat) : Int), none, 0, 0, false, hdl3⟩ (Mur.summaryM (p ++ ([u])) L) (by kernel_rfl) (by kernel_rfl) ow28 hb11 (Mur.rawok_sum ow29 hd3.out hdl3) (fun q_ hq_ => ⟨by have := hsub6 q_ hq_; omega, fun e_ => by have := hlt2 q_ e_; have := hsub6 q_ hq_; omega⟩) (by omega) (by omega)) ?_
  rintro _ W39 ⟨AA20, nn36, rfl, ow30, ch36⟩
  have zz36 := ch36.size
  have hq53 := ow30.nc
  have hq54 := ow30.cm
  refine rP 11 4 (.slice AA20 (u.toNat + 1) nn36) rfl rfl ?_
  refine rEnd 12 rfl (inN (nxt (reg ?_)))
  refine rQ 0 66 (.int .u8 ((u.toNat + 1 : Nat) : Int)) rfl rfl (Mur.inc8 5 5 (.tmp 52) (.const (.int .u8 1)) rfl u (by omega) (by kernel_rfl) (by kernel_rfl)) ?_
  refine rP 1 52 (.int .u8 ((u.toNat + 1 : Nat) : Int)) rfl rfl ?_
  refine rEnd 2 rfl (nxt ?_)
  have kk74 := Chg.step kk68 ch34 trivial
  have kk75 := Chg.step kk74 ch35 trivial
  have kk76 := Chg.step kk75 ch36 (newOr_blk (fun g hg => by have := hlt2 g hg; omega))
  refine ⟨_, ?_, u.toNat + 1, AA20, nn36, rfl, by kernel_rfl, (by omega), (by rw [Mur.splitM_succ]; exact ow30), (Chg.hp ch36 (Chg.hp ch35 (Chg.hp ch34 (Chg.hp ch33 (Chg.hp ch32 (Chg.hp ch31 hX trivial) trivial) (off_blk (fun gz hgz => by have := ow24.lt gz hgz; omega))) trivial) trivial) (off_blk (fun gz hgz => by have := hlt2 gz hgz; omega))), kk76⟩
  omega
 have ht16_ : Mur.splitM p L t = Mur.splitM p L 16 := by rw [show t = 16 by omega]
 refine wp_seq (reg ?_)
 refine rQ 0 53 _ rfl rfl (qboolF (b := decide (((t : Nat) : Int) < (16 : Int))) (decide_eq_false (by omega))) ?_
 refine rEnd 1 rfl (nxt (wp_seq (wp_cond_false (by kernel_rfl) (wp_exit (thX (thX (inX (nxt (wp_seq (reg ?_))))))))))
 refine rP 0 67 (.slice A1 t c1) rfl rfl ?_
 refine rP 1 4 (.slice A1 t c1) rfl rfl ?_
 refine rEnd 2 rfl (nxt (wp_ret ?_))
 have hde_ := hd1.out
 have hcn_ : Mur.cntL p L = (Mur.belowL p L).length := rfl
 have hpl_ := hb.1
 refine Wk.ret (.slice A1 t c1) rfl (by kernel_rfl) ?_
 exact ⟨_, _, _, rfl, by rw [Mur.summed_split (p := p) (s := s) (L := L) (m := m) (by rw [← hde_]; first | exact fun h_ => hds h_.1 | (rintro ⟨_, h_⟩; omega)) (by omega), ← ht16_]; exact Mur.MsgA.low hM (by omega), HB⟩
end Go.Proofs.YtfhneademopciaaDoor
namespace Go.Proofs.YtfhneademopciaaDoor
open Go.RowKit Wk
open Mur (b8s Byt Own8 Seg Segs flat cutA attC Att SlA OwnA rowA msgC)
set_option maxRecDepth 100000
set_option maxHeartbeats 4000000
def MayG_F1 (b : Array Value) (u1 : Value) (u43 : Value) (u44 : Value) (u45 : Value) : Act := ⟨#[gd b 0, u1, gd b 2, gd b 3, gd b 4, gd b 5, gd b 6, gd b 7, gd b 8, gd b 9, gd b 10, gd b 11, gd b 12, gd b 13, gd b 14, gd b 15, gd b 16, gd b 17, gd b 18, gd b 19, gd b 20, gd b 21, gd b 22, gd b 23, gd b 24, gd b 25, gd b 26, gd b 27, gd b 28, gd b 29, gd b 30, gd b 31, gd b 32, gd b 33, gd b 34, gd b 35, gd b 36, gd b 37, gd b 38, gd b 39, gd b 40, gd b 41, gd b 42, u43, u44, u45, gd b 46, gd b 47, gd b 48, gd b 49, gd b 50, gd b 51, gd b 52, gd b 53, gd b 54, gd b 55, gd b 56, gd b 57, gd b 58, gd b 59, gd b 60, gd b 61, gd b 62, gd b 63, gd b 64, gd b 65, gd b 66, gd b 67, gd b 68, gd b 69, gd b 70, gd b 71, gd b 72, gd b 73, gd b 74, gd b 75, gd b 76, gd b 77, gd b 78, gd b 79, gd b 80, gd b 81, gd b 82, gd b 83, gd b 84, gd b 85, gd b 86, gd b 87, gd b 88], []⟩
theorem May_any (kd : UInt8) (p : List UInt8) (PA : Option Addr) (pn pc : Nat) (s : List UInt8) (m : Int) (I : List Att) (A : Option Addr) (n c : Nat) (b : Bool) (w : World) (hs : s.length = 32) (hb : Byt w PA pn p) (hl : SlA w A n I) (hpn : pn ≤ 9223372036854775807) (hn : n ≤ 9223372036854775807) : Calls Tryd.prog 37 #[.agg (msgC kd PA pn pc s m A n c b).toArray] w fun e w' => ∃ v, e = .returned (.bool v) ∧ (v = true ↔ Mur.mayM ⟨kd, p, s, m, I, b⟩) ∧ Chg [] w w' := by
 have hlI0 := hl.len
 have hkd_ := kd.toNat_lt
 refine calls_of_wp Tryd.func37 rfl ?_
 refine wp_seq (reg ?_)
 refine rX 0 1 rfl rfl (new_ex (.pointer (some ⟨w.heap.size, 0, none⟩)) ((Mur.msgC kd PA pn pc s m A n c b).toArray) 66 (by kernel_rfl)) ?_
 rintro _ W1 ⟨rfl, hb1, ch1, sz1⟩
 have zz1 := ch1.size
 refine rP 1 2 (.bool false) rfl rfl ?_
 refine rEnd 2 rfl (nxt (wp_seq (wp_seq (reg ?_))))
 refine rP 0 7 (.pointer (some ⟨w.heap.size, 1, none⟩)) rfl rfl ?_
 refine rQ 1 8 _ rfl rfl (load1 38 (.tmp 7) rfl (by kernel_rfl) ⟨w.heap.size, 1, none⟩ (by kernel_rfl) (.slice PA pn pc) (show World.cell? _ ⟨_, 0 + 1, _⟩ = _ from Mur.msg_pre (range_row hb1))) ?_
 refine rC 2 9 19 [.tmp 8] #[38] [.slice PA pn pc] rfl rfl rfl ?_
 have kk1 : Chg [] w W1 := Chg.step ((Chg.refl _).more (by simp)) ch1 trivial
 refine (IsPrefix_any p PA pn pc W1 (Mur.byt_chg hb kk1 (fun g off e hl => trivial)) (by omega)).mono ?_
 cases hpre1 : Mur.isPre p
 ·rintro _ _ ⟨rfl, rfl⟩
  refine ⟨_, rfl, ?_⟩
  refine rP 3 10 (.bool true) rfl rfl ?_
  refine rP 4 11 (.bool true) rfl rfl ?_
  refine rPass 5 (some 12) rfl rfl (by kernel_rfl) ?_
  refine rPass 6 (some 13) rfl rfl (by kernel_rfl) ?_
  refine rPass 7 (some 14) rfl rfl (by kernel_rfl) ?_
  refine rP 8 15 (.bool true) rfl rfl ?_
  refine rP 9 16 (.bool true) rfl rfl ?_
  refine rPass 10 (some 17) rfl rfl (by kernel_rfl) ?_
  refine rPass 11 (some 18) rfl rfl (by kernel_rfl) ?_
  refine rPass 12 (some 19) rfl rfl (by kernel_rfl) ?_
  refine rP 13 20 (.bool true) rfl rfl ?_
  refine rP 14 21 (.bool true) rfl rfl ?_
  refine rPass 15 (some 22) rfl rfl (by kernel_rfl) ?_
  refine rPass 16 (some 23) rfl rfl (by kernel_rfl) ?_
  refine rPass 17 (some 24) rfl rfl (by kernel_rfl) ?_
  refine rPass 18 (some 25) rfl rfl (by kernel_rfl) ?_
  refine rP 19 26 (.bool true) rfl rfl ?_
  refine rEnd 20 rfl (nxt (wp_cond_true (by kernel_rfl) (wp_seq (reg ?_))))
  refine rP 0 2 (.bool false) rfl rfl ?_
  refine rEnd 1 rfl (nxt (wp_ret (thR ?_)))
  have hlI_ := hl.len
  refine Wk.ret (.bool false) rfl (by kernel_rfl) ?_
  refine ⟨_, rfl, ⟨fun h_ => (by cases h_), fun h_ => ?_⟩, kk1⟩
  exfalso
  obtain ⟨h1_, h2_, h3_, h4_, h5_⟩ := Mur.mayM_iff.1 h_
  exact absurd (h1_.symm.trans hpre1) (by decide)
 rintro _ _ ⟨rfl, rfl⟩
 refine ⟨_, rfl, ?_⟩
 refine rP 3 10 (.bool false) rfl rfl ?_
 refine rP 4 11 (.bool false) rfl rfl ?_
 refine rP 5 12 (.pointer (some ⟨w.heap.size, 34, none⟩)) rfl rfl ?_
 refine rQ 6 13 _ rfl rfl (load1 3 (.tmp 12) rfl (by kernel_rfl) ⟨w.heap.size, 34, none⟩ (by kernel_rfl) (.int .i64 m) (show World.cell? _ ⟨_, 0 + 34, _⟩ = _ from Mur.msg_cnt hs (range_row hb1))) ?_
 by_cases hx1 : m < (0 : Int)
 ·refine rQ 7 14 _ rfl rfl (qboolT (b := decide (m < (0 : Int))) (decide_eq_true (by first | exact hx1 | omega))) ?_
  refine rP 8 15 (.bool true) rfl rfl ?_
  refine rP 9 16 (.bool true) rfl rfl ?_
  refine rPass 10 (some 17) rfl rfl (by kernel_rfl) ?_
  refine rPass 11 (some 18) rfl rfl (by kernel_rfl) ?_
  refine rPass 12 (some 19) rfl rfl (by kernel_rfl) ?_
  refine rP 13 20 (.bool true) rfl rfl ?_
  refine rP 14 21 (.bool true) rfl rfl ?_
  refine rPass 15 (some 22) rfl rfl (by kernel_rfl) ?_
  refine rPass 16 (some 23) rfl rfl (by kernel_rfl) ?_
  refine rPass 17 (some 24) rfl rfl (by kernel_rfl) ?_
  refine rPass 18 (some 25) rfl rfl (by kernel_rfl) ?_
  refine rP 19 26 (.bool true) rfl rfl ?_
  refine rEnd 20 rfl (nxt (wp_cond_true (by kernel_rfl) (wp_seq (reg ?_))))
  refine rP 0 2 (.bool false) rfl rfl ?_
  refine rEnd 1 rfl (nxt (wp_ret (thR ?_)))
  have hlI_ := hl.len
  refine Wk.ret (.bool false) rfl (by kernel_rfl) ?_
  refine ⟨_, rfl, ⟨fun h_ => (by cases h_), fun h_ => ?_⟩, kk1⟩
  exfalso
  obtain ⟨h1_, h2_, h3_, h4_, h5_⟩ := Mur.mayM_iff.1 h_
  have h1k_ : ((1 : UInt8).toNat : Int) = 1 := rfl
  have h2k_ : ((2 : UInt8).toNat : Int) = 2 := rfl
  rcases h5_ with ⟨hk_, hi_, hb_⟩ | ⟨hk_, hi_, hso_, hz_, hc_⟩
  ·have hk2_ : (kd.toNat : Int) = _ := congrArg (fun z : UInt8 => (z.toNat : Int)) hk_
   have hi2_ := congrArg List.length hi_
   rw [List.length_nil] at hi2_
   first | omega | cases hb_ | (subst hb_; omega)
  have hk2_ : (kd.toNat : Int) = _ := congrArg (fun z : UInt8 => (z.toNat : Int)) hk_
  omega
 refine rQ 7 14 _ rfl rfl (qboolF (b := decide (m < (0 : Int))) (decide_eq_false (by first | exact hx1 | omega))) ?_
 refine rP 8 15 (.bool false) rfl rfl ?_
 refine rP 9 16 (.bool false) rfl rfl ?_
 refine rP 10 17 (.pointer (some ⟨w.heap.size, 34, none⟩)) rfl rfl ?_
 refine rQ 11 18 _ rfl rfl (load1 3 (.tmp 17) rfl (by kernel_rfl) ⟨w.heap.size, 34, none⟩ (by kernel_rfl) (.int .i64 m) (show World.cell? _ ⟨_, 0 + 34, _⟩ = _ from Mur.msg_cnt hs (range_row hb1))) ?_
 by_cases hx2 : m > (200 : Int)
 ·refine rQ 12 19 _ rfl rfl (qboolT (b := decide (m > (200 : Int))) (decide_eq_true (by first | exact hx2 | omega))) ?_
  refine rP 13 20 (.bool true) rfl rfl ?_
  refine rP 14 21 (.bool true) rfl rfl ?_
  refine rPass 15 (some 22) rfl rfl (by kernel_rfl) ?_
  refine rPass 16 (some 23) rfl rfl (by kernel_rfl) ?_
  refine rPass 17 (some 24) rfl rfl (by kernel_rfl) ?_
  refine rPass 18 (some 25) rfl rfl (by kernel_rfl) ?_
  refine rP 19 26 (.bool true) rfl rfl ?_
  refine rEnd 20 rfl (nxt (wp_cond_true (by kernel_rfl) (wp_seq (reg ?_))))
  refine rP 0 2 (.bool false) rfl rfl ?_
  refine rEnd 1 rfl (nxt (wp_ret (thR ?_)))
  have hlI_ := hl.len
  refine Wk.ret (.bool false) rfl (by kernel_rfl) ?_
  refine ⟨_, rfl, ⟨fun h_ => (by cases h_), fun h_ => ?_⟩, kk1⟩
  exfalso
  obtain ⟨h1_, h2_, h3_, h4_, h5_⟩ := Mur.mayM_iff.1 h_
  have h1k_ : ((1 : UInt8).toNat : Int) = 1 := rfl
  have h2k_ : ((2 : UInt8).toNat : Int) = 2 := rfl
  rcases h5_ with ⟨hk_, hi_, hb_⟩ | ⟨hk_, hi_, hso_, hz_, hc_⟩
  ·have hk2_ : (kd.toNat : Int) = _ := congrArg (fun z : UInt8 => (z.toNat : Int)) hk_
   have hi2_ := congrArg List.length hi_
   rw [List.length_nil] at hi2_
   first | omega | cases hb_ | (subst hb_; omega)
  have hk2_ : (kd.toNat : Int) = _ := congrArg (fun z : UInt8 => (z.toNat : Int)) hk_
  omega
 refine rQ 12 19 _ rfl rfl (qboolF (b := decide (m > (200 : Int))) (decide_eq_false (by first | exact hx2 | omega))) ?_
 refine rP 13 20 (.bool false) rfl rfl ?_
 refine rP 14 21 (.bool false) rfl rfl ?_
 refine rP 15 22 (.pointer (some ⟨w.heap.size, 35, none⟩)) rfl rfl ?_
 refine rQ 16 23 _ rfl rfl (load1 22 (.tmp 22) rfl (by kernel_rfl) ⟨w.heap.size, 35, none⟩ (by kernel_rfl) (.slice A n c) (show World.cell? _ ⟨_, 0 + 35, _⟩ = _ from Mur.msg_items hs (range_row hb1))) ?_
 refine rP 17 24 (.int .i64 ((n : Nat) : Int)) rfl rfl ?_
 by_cases hx3 : ((n : Nat) : Int) > (8 : Int)
 ·refine rQ 18 25 _ rfl rfl (qboolT (b := decide (((n : Nat) : Int) > (8 : Int))) (decide_eq_true (by first | exact hx3 | omega))) ?_
  refine rP 19 26 (.bool true) rfl rfl ?_
  refine rEnd 20 rfl (nxt (wp_cond_true (by kernel_rfl) (wp_seq (reg ?_))))
  refine rP 0 2 (.bool false) rfl rfl ?_
  refine rEnd 1 rfl (nxt (wp_ret (thR ?_)))
  have hlI_ := hl.len
  refine Wk.ret (.bool false) rfl (by kernel_rfl) ?_
  refine ⟨_, rfl, ⟨fun h_ => (by cases h_), fun h_ => ?_⟩, kk1⟩
  exfalso
  obtain ⟨h1_, h2_, h3_, h4_, h5_⟩ := Mur.mayM_iff.1 h_
  have h1k_ : ((1 : UInt8).toNat : Int) = 1 := rfl
  have h2k_ : ((2 : UInt8).toNat : Int) = 2 := rfl
  rcases h5_ with ⟨hk_, hi_, hb_⟩ | ⟨hk_, hi_, hso_, hz_, hc_⟩
  ·have hk2_ : (kd.toNat : Int) = _ := congrArg (fun z : UInt8 => (z.toNat : Int)) hk_
   have hi2_ := congrArg List.length hi_
   rw [List.length_nil] at hi2_
   first | omega | cases hb_ | (subst hb_; omega)
  have hk2_ : (kd.toNat : Int) = _ := congrArg (fun z : UInt8 => (z.toNat : Int)) hk_
  omega
 refine rQ 18 25 _ rfl rfl (qboolF (b := decide (((n : Nat) : Int) > (8 : Int))) (decide_eq_false (by first | exact hx3 | omega))) ?_
 refine rP 19 26 (.bool false) rfl rfl ?_
 refine rEnd 20 rfl (nxt (wp_cond_false (by kernel_rfl) (wp_skip (nxt (wp_seq (wp_seq (reg ?_)))))))
 have hpreT_ := hpre1
 have hp8_ := Mur.pre_len hpreT_
 have hpl_ := hb.1
 refine rP 0 27 (.pointer (some ⟨w.heap.size, 0, none⟩)) rfl rfl ?_
 refine rQ 1 28 _ rfl rfl (load1 5 (.tmp 27) rfl (by kernel_rfl) ⟨w.heap.size, 0, none⟩ (by kernel_rfl) (.int .u8 ((kd.toNat : Nat) : Int)) (show World.cell? _ ⟨_, 0 + 0, _⟩ = _ from Mur.msg_kind (range_row hb1))) ?_
 refine rEnd 2 rfl (nxt (wp_block (wp_seq (reg ?_))))
 by_cases hx4 : ((kd.toNat : Nat) : Int) = (1 : Int)
 ·refine rQ 0 30 _ rfl rfl (qboolT (b := (((kd.toNat : Nat) : Int) == (1 : Int))) (beq_iff_eq.2 (by first | exact hx4 | omega))) ?_
  refine rP 1 29 (.bool true) rfl rfl ?_
  refine rEnd 2 rfl (nxt (wp_cond_true (by kernel_rfl) (wp_seq (reg ?_))))
  cases b
  ·refine rP 0 31 (.pointer (some ⟨w.heap.size, 35, none⟩)) rfl rfl ?_
   refine rQ 1 32 _ rfl rfl (load1 22 (.tmp 31) rfl (by kernel_rfl) ⟨w.heap.size, 35, none⟩ (by kernel_rfl) (.slice A n c) (show World.cell? _ ⟨_, 0 + 35, _⟩ = _ from Mur.msg_items hs (range_row hb1))) ?_
   refine rP 2 33 (.int .i64 ((n : Nat) : Int)) rfl rfl ?_
   by_cases hx5 : ((n : Nat) : Int) = (0 : Int)
   ·refine rQ 3 34 _ rfl rfl (qboolT (b := (((n : Nat) : Int) == (0 : Int))) (beq_iff_eq.2 (by first | exact hx5 | omega))) ?_
    refine rP 4 35 (.bool true) rfl rfl ?_
    refine rP 5 36 (.pointer (some ⟨w.heap.size, 36, none⟩)) rfl rfl ?_
    refine rQ 6 37 _ rfl rfl (load1 4 (.tmp 36) rfl (by kernel_rfl) ⟨w.heap.size, 36, none⟩ (by kernel_rfl) (.bool false) (show World.cell? _ ⟨_, 0 + 36, _⟩ = _ from Mur.msg_ans hs (range_row hb1))) ?_
    refine rP 7 38 (.bool true) rfl rfl ?_
    refine rP 8 39 (.bool true) rfl rfl ?_
    refine rP 9 2 (.bool true) rfl rfl ?_
    refine rEnd 10 rfl (nxt (wp_ret (inR (thR ?_))))
    have hlI_ := hl.len
    refine Wk.ret (.bool true) rfl (by kernel_rfl) ?_
    exact ⟨_, rfl, ⟨fun _ => Mur.mayM_iff.2 ⟨hpreT_, by omega, by omega, by omega, .inl ⟨Mur.u8_cast_inj (by have h_ : ((1 : UInt8).toNat : Int) = 1 := rfl; omega), List.eq_nil_of_length_eq_zero (by omega), rfl⟩⟩, fun _ => rfl⟩, kk1⟩
   refine rQ 3 34 _ rfl rfl (qboolF (b := (((n : Nat) : Int) == (0 : Int))) (beq_eq_false_iff_ne.2 (by first | exact hx5 | omega))) ?_
   refine rP 4 35 (.bool false) rfl rfl ?_
   refine rPass 5 (some 36) rfl rfl (by kernel_rfl) ?_
   refine rPass 6 (some 37) rfl rfl (by kernel_rfl) ?_
   refine rPass 7 (some 38) rfl rfl (by kernel_rfl) ?_
   refine rP 8 39 (.bool false) rfl rfl ?_
   refine rP 9 2 (.bool false) rfl rfl ?_
   refine rEnd 10 rfl (nxt (wp_ret (inR (thR ?_))))
   have hlI_ := hl.len
   refine Wk.ret (.bool false) rfl (by kernel_rfl) ?_
   refine ⟨_, rfl, ⟨fun h_ => (by cases h_), fun h_ => ?_⟩, kk1⟩
   exfalso
   obtain ⟨h1_, h2_, h3_, h4_, h5_⟩ := Mur.mayM_iff.1 h_
   have h1k_ : ((1 : UInt8).toNat : Int) = 1 := rfl
   have h2k_ : ((2 : UInt8).toNat : Int) = 2 := rfl
   rcases h5_ with ⟨hk_, hi_, hb_⟩ | ⟨hk_, hi_, hso_, hz_, hc_⟩
   ·have hk2_ : (kd.toNat : Int) = _ := congrArg (fun z : UInt8 => (z.toNat : Int)) hk_
    have hi2_ := congrArg List.length hi_
    rw [List.length_nil] at hi2_
    first | omega | cases hb_ | (subst hb_; omega)
   have hk2_ : (kd.toNat : Int) = _ := congrArg (fun z : UInt8 => (z.toNat : Int)) hk_
   omega
  refine rP 0 31 (.pointer (some ⟨w.heap.size, 35, none⟩)) rfl rfl ?_
  refine rQ 1 32 _ rfl rfl (load1 22 (.tmp 31) rfl (by kernel_rfl) ⟨w.heap.size, 35, none⟩ (by kernel_rfl) (.slice A n c) (show World.cell? _ ⟨_, 0 + 35, _⟩ = _ from Mur.msg_items hs (range_row hb1))) ?_
  refine rP 2 33 (.int .i64 ((n : Nat) : Int)) rfl rfl ?_
  by_cases hx6 : ((n : Nat) : Int) = (0 : Int)
  ·refine rQ 3 34 _ rfl rfl (qboolT (b := (((n : Nat) : Int) == (0 : Int))) (beq_iff_eq.2 (by first | exact hx6 | omega))) ?_
   refine rP 4 35 (.bool true) rfl rfl ?_
   refine rP 5 36 (.pointer (some ⟨w.heap.size, 36, none⟩)) rfl rfl ?_
   refine rQ 6 37 _ rfl rfl (load1 4 (.tmp 36) rfl (by kernel_rfl) ⟨w.heap.size, 36, none⟩ (by kernel_rfl) (.bool true) (show World.cell? _ ⟨_, 0 + 36, _⟩ = _ from Mur.msg_ans hs (range_row hb1))) ?_
   refine rP 7 38 (.bool false) rfl rfl ?_
   refine rP 8 39 (.bool false) rfl rfl ?_
   refine rP 9 2 (.bool false) rfl rfl ?_
   refine rEnd 10 rfl (nxt (wp_ret (inR (thR ?_))))
   have hlI_ := hl.len
   refine Wk.ret (.bool false) rfl (by kernel_rfl) ?_
   refine ⟨_, rfl, ⟨fun h_ => (by cases h_), fun h_ => ?_⟩, kk1⟩
   exfalso
   obtain ⟨h1_, h2_, h3_, h4_, h5_⟩ := Mur.mayM_iff.1 h_
   have h1k_ : ((1 : UInt8).toNat : Int) = 1 := rfl
   have h2k_ : ((2 : UInt8).toNat : Int) = 2 := rfl
   rcases h5_ with ⟨hk_, hi_, hb_⟩ | ⟨hk_, hi_, hso_, hz_, hc_⟩
   ·have hk2_ : (kd.toNat : Int) = _ := congrArg (fun z : UInt8 => (z.toNat : Int)) hk_
    have hi2_ := congrArg List.length hi_
    rw [List.length_nil] at hi2_
    first | omega | cases hb_ | (subst hb_; omega)
   have hk2_ : (kd.toNat : Int) = _ := congrArg (fun z : UInt8 => (z.toNat : Int)) hk_
   omega
  refine rQ 3 34 _ rfl rfl (qboolF (b := (((n : Nat) : Int) == (0 : Int))) (beq_eq_false_iff_ne.2 (by first | exact hx6 | omega))) ?_
  refine rP 4 35 (.bool false) rfl rfl ?_
  refine rPass 5 (some 36) rfl rfl (by kernel_rfl) ?_
  refine rPass 6 (some 37) rfl rfl (by kernel_rfl) ?_
  refine rPass 7 (some 38) rfl rfl (by kernel_rfl) ?_
  refine rP 8 39 (.bool false) rfl rfl ?_
  refine rP 9 2 (.bool false) rfl rfl ?_
  refine rEnd 10 rfl (nxt (wp_ret (inR (thR ?_))))
  have hlI_ := hl.len
  refine Wk.ret (.bool false) rfl (by kernel_rfl) ?_
  refine ⟨_, rfl, ⟨fun h_ => (by cases h_), fun h_ => ?_⟩, kk1⟩
  exfalso
  obtain ⟨h1_, h2_, h3_, h4_, h5_⟩ := Mur.mayM_iff.1 h_
  have h1k_ : ((1 : UInt8).toNat : Int) = 1 := rfl
  have h2k_ : ((2 : UInt8).toNat : Int) = 2 := rfl
  rcases h5_ with ⟨hk_, hi_, hb_⟩ | ⟨hk_, hi_, hso_, hz_, hc_⟩
  ·have hk2_ : (kd.toNat : Int) = _ := congrArg (fun z : UInt8 => (z.toNat : Int)) hk_
   have hi2_ := congrArg List.length hi_
   rw [List.length_nil] at hi2_
   first | omega | cases hb_ | (subst hb_; omega)
  have hk2_ : (kd.toNat : Int) = _ := congrArg (fun z : UInt8 => (z.toNat : Int)) hk_
  omega
 refine rQ 0 30 _ rfl rfl (qboolF (b := (((kd.toNat : Nat) : Int) == (1 : Int))) (beq_eq_false_iff_ne.2 (by first | exact hx4 | omega))) ?_
 refine rP 1 29 (.bool false) rfl rfl ?_
 refine rEnd 2 rfl (nxt (wp_cond_false (by kernel_rfl) (wp_seq (reg ?_))))
 by_cases hx7 : ((kd.toNat : Nat) : Int) = (2 : Int)
 ·refine rQ 0 41 _ rfl rfl (qboolT (b := (((kd.toNat : Nat) : Int) == (2 : Int))) (beq_iff_eq.2 (by first | exact hx7 | omega))) ?_
  refine rP 1 40 (.bool true) rfl rfl ?_
  refine rEnd 2 rfl (nxt (wp_cond_true (by kernel_rfl) (wp_seq (wp_seq (reg ?_)))))
  refine rP 0 42 (.pointer (some ⟨w.heap.size, 35, none⟩)) rfl rfl ?_
  refine rQ 1 43 _ rfl rfl (load1 22 (.tmp 42) rfl (by kernel_rfl) ⟨w.heap.size, 35, none⟩ (by kernel_rfl) (.slice A n c) (show World.cell? _ ⟨_, 0 + 35, _⟩ = _ from Mur.msg_items hs (range_row hb1))) ?_
  refine rP 2 44 (.int .i64 ((n : Nat) : Int)) rfl rfl ?_
  refine rP 3 45 (.int .i64 0) rfl rfl ?_
  refine rEnd 4 rfl (nxt (wp_block ?_))
  refine Wk.loop (fun m_ a wr => ∃ (i : Nat), m_ = n - i ∧ a = MayG_F1 a.tmps (.pointer (some ⟨w.heap.size, 0, none⟩)) (.slice A n c) (.int .i64 ((n : Nat) : Int)) (.int .i64 ((i : Nat) : Int)) ∧ i ≤ n ∧ (∀ x, x ∈ I.take i → Mur.may x.n ∧ Mur.under p x.k = true) ∧ Mur.Sorted (I.take i) ∧ wr.heap[w.heap.size]? = some (.cells (Mur.msgC kd PA pn pc s m A n c b).toArray 66 (0, 0)) ∧ Chg [] w wr) (n - 0) ?_ ?_
  ·refine ⟨0, rfl, by kernel_rfl, (by omega), (by simp), List.Pairwise.nil, hb1, kk1⟩
  rintro mm1 aa1 W2 ⟨i, hmm1, hF1, hi, hall, hsr, hX, HB⟩
  generalize aa1.tmps = bb1 at hF1
  subst hF1
  have hzB := HB.size
  have hxl_ := (Array.getElem?_eq_some_iff.1 hX).1
  have hlI := hl.len
  by_cases hlt : i < n
  ·obtain ⟨g_x, o_x, rfl, _⟩ := hl.ex (by omega)
   obtain ⟨x, hx⟩ : ∃ x, I[i]? = some x := ⟨_, List.getElem?_eq_getElem (by have := hl.len; omega)⟩
   refine wp_seq (reg ?_)
   refine rQ 0 46 _ rfl rfl (qboolT (b := decide (((i : Nat) : Int) < ((n : Nat) : Int))) (decide_eq_true (by omega))) ?_
   refine rEnd 1 rfl (nxt (wp_seq (wp_cond_true (by kernel_rfl) (wp_skip (nxt (wp_seq (wp_block (wp_seq (reg ?_)))))))))
   refine rP 0 47 (.int .i64 ((i : Nat) : Int)) rfl rfl ?_
   refine rQ 1 48 (.pointer (some ⟨g_x, o_x + i * 97, none⟩)) rfl rfl (index_sl 22 32 (.tmp 43) (.tmp 45) rfl Tryd.underlying22 97 (by kernel_rfl) g_x o_x n c i .i64 (by kernel_rfl) (by kernel_rfl) (by omega)) ?_
   refine rQ 2 49 (.agg ((Mur.attC x.k x.r x.n x.t).toArray)) rfl rfl (loadR 32 (.tmp 48) rfl _ Tryd.underlying32 rfl g_x (o_x + i * 97) (by kernel_rfl) (Mur.attC x.k x.r x.n x.t) (by rw [Mur.attC_length x.hk x.hr x.ht]; kernel_rfl) ((Mur.SlA.chg hl HB (fun g off e hl => trivial)).elem hx)) ?_
   refine rX 3 4 rfl rfl (new_ex (.pointer (some ⟨W2.heap.size, 0, none⟩)) #[.int .u8 0, .int .u8 0, .int .u8 0, .int .u8 0, .int .u8 0, .int .u8 0, .int .u8 0, .int .u8 0, .int .u8 0, .int .u8 0, .int .u8 0, .int .u8 0, .int .u8 0, .int .u8 0, .int .u8 0, .int .u8 0, .int .u8 0, .int .u8 0, .int .u8 0, .int .u8 0, .int .u8 0, .int .u8 0, .int .u8 0, .int .u8 0, .int .u8 0, .int .u8 0, .int .u8 0, .int .u8 0, .int .u8 0, .int .u8 0, .int .u8 0, .int .u8 0, .int .u8 0, .int .u8 0, .int .u8 0, .int .u8 0, .int .u8 0, .int .u8 0, .int .u8 0, .int .u8 0, .int .u8 0, .int .u8 0, .int .u8 0, .int .u8 0, .int .u8 0, .int .u8 0, .int .u8 0, .int .u8 0, .int .u8 0, .int .u8 0, .int .u8 0, .int .u8 0, .int .u8 0, .int .u8 0, .int .u8 0, .int .u8 0, .int .u8 0, .int .u8 0, .int .u8 0, .int .u8 0, .int .u8 0, .int .u8 0, .int .u8 0, .int .u8 0, .int .i64 0, .int .u8 0, .int .u8 0, .int .u8 0, .int .u8 0, .int .u8 0, .int .u8 0, .int .u8 0, .int .u8 0, .int .u8 0, .int .u8 0, .int .u8 0, .int .u8 0, .int .u8 0, .int .u8 0, .int .u8 0, .int .u8 0, .int .u8 0, .int .u8 0, .int .u8 0, .int .u8 0, .int .u8 0, .int .u8 0, .int .u8 0, .int .u8 0, .int .u8 0, .int .u8 0, .int .u8 0, .int .u8 0, .int .u8 0, .int .u8 0, .int .u8 0, .int .u8 0] 32 (by kernel_rfl)) ?_
   rintro _ W3 ⟨rfl, hb2, ch2, sz2⟩
   have zz2 := ch2.size
   rw [← Mur.attC_zero] at hb2
   refine rP 4 3 (.int .i64 ((i : Nat) : Int)) rfl rfl ?_
   refine rY 5 rfl rfl (Mur.storeArr 32 (.tmp 4) (.tmp 49) rfl W2.heap.size (by kernel_rfl) (Mur.attC x.k x.r x.n x.t).toArray 97 (Mur.attC_size x.hk x.hr x.ht) Mur.attC_all (by kernel_rfl) (by kernel_rfl) 32 ((Mur.attC Mur.z32 Mur.z32 0 Mur.z32).toArray) hb2 (Mur.attC_size rfl rfl rfl)) ?_
   rintro W4 ⟨hb3, ch3⟩
   have zz3 := ch3.size
   refine rEnd 6 rfl (nxt (wp_seq (reg ?_)))
   refine rQ 0 51 (.agg ((Mur.attC x.k x.r x.n x.t).toArray)) rfl rfl (Mur.loadArr 32 (.tmp 4) rfl _ Tryd.underlying32 rfl W2.heap.size (by kernel_rfl) (Mur.attC x.k x.r x.n x.t).toArray 97 (Mur.attC_size x.hk x.hr x.ht) (by kernel_rfl) 32 (0, 0) hb3) ?_
   refine rC 1 52 38 [.tmp 51] #[32] [.agg ((Mur.attC x.k x.r x.n x.t).toArray)] rfl rfl rfl ?_
   by_cases hmay1 : Mur.may x.n
   ·have hmay1u : (1 ≤ x.n ∧ x.n ≤ 5000) := hmay1
    refine (Bytes_ok x.k x.r x.t x.n x.hk x.hr x.ht W4 hmay1).mono ?_
    rintro _ W5 ⟨qr1, cr1, RB1, hRB1, rfl, hbr1, hq1, hq2, ch4⟩
    have zz4 := ch4.size
    have hBt1 : ∀ g off, (some ⟨qr1, 0, none⟩ : Option Addr) = some ⟨g, off, none⟩ → W4.heap.size ≤ g ∧ g < W5.heap.size := fun g off e => by cases e; exact hq1
    refine ⟨_, rfl, ?_⟩
    refine rP 2 50 (.tuple #[.slice (some ⟨qr1, 0, none⟩) 104 cr1, .int .i64 0]) rfl rfl ?_
    refine rP 3 53 (.slice (some ⟨qr1, 0, none⟩) 104 cr1) rfl rfl ?_
    refine rP 4 54 (.int .i64 0) rfl rfl ?_
    refine rP 5 5 (.slice (some ⟨qr1, 0, none⟩) 104 cr1) rfl rfl ?_
    refine rP 6 6 (.int .i64 0) rfl rfl ?_
    refine rEnd 7 rfl (nxt (wp_seq ?_))
    refine dReg ([]) (by kernel_rfl) ?_
    intro W6 ch5 sz3
    have zz5 := ch5.size
    have sS1 : Chg ([]) W6 W6 := (Chg.refl _).more (by simp)
    refine dV 0 55 (.int .i64 0) rfl rfl (fun _ _ => by kernel_rfl) sS1 ?_
    refine dV 1 56 (.bool false) rfl rfl (fun w' hw' => (boolF (b := ((0 : Int) != (0 : Int))) (bne_eq_false_iff_eq.2 (by decide)) (by kernel_rfl))) sS1 ?_
    refine dV 2 57 (.bool false) rfl rfl (fun _ _ => by kernel_rfl) sS1 ?_
    refine dV 3 58 (.agg ((Mur.attC x.k x.r x.n x.t).toArray)) rfl rfl (fun w' hw' => (Mur.loadArr 32 (.tmp 4) rfl _ Tryd.underlying32 rfl W2.heap.size (by kernel_rfl) (Mur.attC x.k x.r x.n x.t).toArray 97 (Mur.attC_size x.hk x.hr x.ht) (by kernel_rfl) 32 (0, 0) (Chg.hp hw' (Chg.hp ch5 (Chg.hp ch4 hb3 trivial) trivial) trivial))) sS1 ?_
    refine dV 4 59 (.pointer (some ⟨w.heap.size, 1, none⟩)) rfl rfl (fun _ _ => by kernel_rfl) sS1 ?_
    refine dV 5 60 (.slice PA pn pc) rfl rfl (fun w' hw' => (load1 38 (.tmp 59) rfl (by kernel_rfl) ⟨w.heap.size, 1, none⟩ (by kernel_rfl) (.slice PA pn pc) (show World.cell? _ ⟨_, 0 + 1, _⟩ = _ from Mur.msg_pre (range_row (Chg.hp hw' (Chg.hp ch5 (Chg.hp ch4 (Chg.hp ch3 (Chg.hp ch2 hX trivial) ⟨by omega, trivial⟩) trivial) trivial) trivial))))) sS1 ?_
    refine dOp 6 (by kernel_rfl) ?_
    refine oCall (some 61) 58 [.tmp 58, .tmp 60] #[32, 38] [.agg ((Mur.attC x.k x.r x.n x.t).toArray), .slice PA pn pc] rfl rfl (by kernel_rfl) rfl (by kernel_rfl) (by kernel_rfl) ?_
    have kk2 := Chg.step HB ch2 trivial
    have kk3 := Chg.step kk2 ch3 ⟨.inr (by omega), trivial⟩
    have kk4 := Chg.step kk3 ch4 trivial
    have kk5 := Chg.step kk4 ch5 trivial
    refine (within_any x p PA pn pc W6 (Mur.byt_chg hb kk5 (fun g off e hl => trivial)) (by omega)).mono ?_
    cases hun1 : Mur.under p x.k
    ·rintro _ W7 ⟨rfl, ch6⟩
     have zz6 := ch6.size
     have sS2 := Chg.step sS1 ch6 trivial
     refine ⟨_, rfl, sS2, ?_⟩
     refine dV 7 62 (.bool true) rfl rfl (fun _ _ => by kernel_rfl) sS2 ?_
     refine dV 8 63 (.bool true) rfl rfl (fun _ _ => by kernel_rfl) sS2 ?_
     refine dV 9 64 (.bool true) rfl rfl (fun _ _ => by kernel_rfl) sS2 ?_
     refine Wk.dPass 10 (some 65) rfl rfl (by kernel_rfl) (by kernel_rfl) (by kernel_rfl) (fun _ _ _ h => h) (by kernel_rfl) sS2 ?_
     refine Wk.dPass 11 (some 66) rfl rfl (by kernel_rfl) (by kernel_rfl) (by kernel_rfl) (fun _ _ _ h => h) (by kernel_rfl) sS2 ?_
     refine Wk.dPass 12 (some 67) rfl rfl (by kernel_rfl) (by kernel_rfl) (by kernel_rfl) (fun _ _ _ h => h) (by kernel_rfl) sS2 ?_
     refine Wk.dPass 13 (some 68) rfl rfl (by kernel_rfl) (by kernel_rfl) (by kernel_rfl) (fun _ _ _ h => h) (by kernel_rfl) sS2 ?_
     refine Wk.dPass 14 (some 69) rfl rfl (by kernel_rfl) (by kernel_rfl) (by kernel_rfl) (fun _ _ _ h => h) (by kernel_rfl) sS2 ?_
     refine Wk.dPass 15 (some 70) rfl rfl (by kernel_rfl) (by kernel_rfl) (by kernel_rfl) (fun _ _ _ h => h) (by kernel_rfl) sS2 ?_
     refine Wk.dPass 16 (some 71) rfl rfl (by kernel_rfl) (by kernel_rfl) (by kernel_rfl) (fun _ _ _ h => h) (by kernel_rfl) sS2 ?_
     refine Wk.dPass 17 (some 72) rfl rfl (by kernel_rfl) (by kernel_rfl) (by kernel_rfl) (fun _ _ _ h => h) (by kernel_rfl) sS2 ?_
     refine Wk.dPass 18 (some 73) rfl rfl (by kernel_rfl) (by kernel_rfl) (by kernel_rfl) (fun _ _ _ h => h) (by kernel_rfl) sS2 ?_
     refine Wk.dPass 19 (some 74) rfl rfl (by kernel_rfl) (by kernel_rfl) (by kernel_rfl) (fun _ _ _ h => h) (by kernel_rfl) sS2 ?_
     refine Wk.dPass 20 (some 75) rfl rfl (by kernel_rfl) (by kernel_rfl) (by kernel_rfl) (fun _ _ _ h => h) (by kernel_rfl) sS2 ?_
     refine Wk.dPass 21 (some 76) rfl rfl (by kernel_rfl) (by kernel_rfl) (by kernel_rfl) (fun _ _ _ h => h) (by kernel_rfl) sS2 ?_
     refine Wk.dPass 22 (some 77) rfl rfl (by kernel_rfl) (by kernel_rfl) (by kernel_rfl) (fun _ _ _ h => h) (by kernel_rfl) sS2 ?_
     refine dV 23 78 (.bool true) rfl rfl (fun _ _ => by kernel_rfl) sS2 ?_
     refine dEnd (by kernel_rfl) (nxt (wp_cond_true (by kernel_rfl) (wp_seq (reg ?_))))
     refine rP 0 2 (.bool false) rfl rfl ?_
     refine rEnd 1 rfl (nxt (wp_ret (inR (thR (thR (inR (thR (inR (thR ?_)))))))))
     have kk6 := Chg.step kk5 ch6 trivial
     have hlI_ := hl.len
     refine Wk.ret (.bool false) rfl (by kernel_rfl) ?_
     refine ⟨_, rfl, ⟨fun h_ => (by cases h_), fun h_ => ?_⟩, kk6⟩
     exfalso
     obtain ⟨h1_, h2_, h3_, h4_, h5_⟩ := Mur.mayM_iff.1 h_
     have h1k_ : ((1 : UInt8).toNat : Int) = 1 := rfl
     have h2k_ : ((2 : UInt8).toNat : Int) = 2 := rfl
     rcases h5_ with ⟨hk_, hi_, hb_⟩ | ⟨hk_, hi_, hso_, hz_, hc_⟩
     ·have hk2_ : (kd.toNat : Int) = _ := congrArg (fun z : UInt8 => (z.toNat : Int)) hk_
      have hi2_ := congrArg List.length hi_
      rw [List.length_nil] at hi2_
      first | omega | cases hb_ | (subst hb_; omega)
     have hk2_ : (kd.toNat : Int) = _ := congrArg (fun z : UInt8 => (z.toNat : Int)) hk_
     have hu_ := (hi_ x (List.mem_of_getElem? hx)).2
     rw [hun1] at hu_
     cases hu_
    rintro _ W7 ⟨rfl, ch6⟩
    have zz7 := ch6.size
    have sS3 := Chg.step sS1 ch6 trivial
    refine ⟨_, rfl, sS3, ?_⟩
    refine dV 7 62 (.bool false) rfl rfl (fun _ _ => by kernel_rfl) sS3 ?_
    refine dV 8 63 (.bool false) rfl rfl (fun _ _ => by kernel_rfl) sS3 ?_
    refine dV 9 64 (.bool false) rfl rfl (fun _ _ => by kernel_rfl) sS3 ?_
    refine dV 10 65 (.int .i64 ((i : Nat) : Int)) rfl rfl (fun _ _ => by kernel_rfl) sS3 ?_
    by_cases hx8 : ((i : Nat) : Int) > (0 : Int)
    ·refine dV 11 66 (.bool true) rfl rfl (fun w' hw' => (boolT (b := decide (((i : Nat) : Int) > (0 : Int))) (decide_eq_true (by first | exact hx8 | omega)) (by kernel_rfl))) sS3 ?_
     refine dV 12 67 (.bool true) rfl rfl (fun _ _ => by kernel_rfl) sS3 ?_
     refine dV 13 68 (.pointer (some ⟨w.heap.size, 35, none⟩)) rfl rfl (fun _ _ => by kernel_rfl) sS3 ?_
     refine dV 14 69 (.slice (some ⟨g_x, o_x, none⟩) n c) rfl rfl (fun w' hw' => (load1 22 (.tmp 68) rfl (by kernel_rfl) ⟨w.heap.size, 35, none⟩ (by kernel_rfl) (.slice (some ⟨g_x, o_x, none⟩) n c) (show World.cell? _ ⟨_, 0 + 35, _⟩ = _ from Mur.msg_items hs (range_row (Chg.hp hw' (Chg.hp ch5 (Chg.hp ch4 (Chg.hp ch3 (Chg.hp ch2 hX trivial) ⟨by omega, trivial⟩) trivial) trivial) trivial))))) sS3 ?_
     refine dV 15 70 (.int .i64 ((i : Nat) : Int)) rfl rfl (fun _ _ => by kernel_rfl) sS3 ?_
     obtain ⟨z, hz⟩ : ∃ z, I[i - 1]? = some z := ⟨_, List.getElem?_eq_getElem (by omega)⟩
     refine dV 16 71 (.int .i64 ((i - 1 : Nat) : Int)) rfl rfl (fun w' hw' => (int64 (n := ((i : Nat) : Int) - 1) (z := ((i - 1 : Nat) : Int)) (by omega) (by omega) (by omega) (by kernel_rfl))) sS3 ?_
     refine dV 17 72 (.pointer (some ⟨g_x, o_x + (i - 1) * 97, none⟩)) rfl rfl (fun w' hw' => (index_sl 22 32 (.tmp 69) (.tmp 71) rfl Tryd.underlying22 97 (by kernel_rfl) g_x o_x n c (i - 1) .i64 (by kernel_rfl) (by kernel_rfl) (by omega))) sS3 ?_
     refine dV 18 73 (.agg ((Mur.attC z.k z.r z.n z.t).toArray)) rfl rfl (fun w' hw' => (loadR 32 (.tmp 72) rfl _ Tryd.underlying32 rfl g_x (o_x + (i - 1) * 97) (by kernel_rfl) (Mur.attC z.k z.r z.n z.t) (by rw [Mur.attC_length z.hk z.hr z.ht]; kernel_rfl) ((Mur.SlA.chg (Mur.SlA.chg hl kk5 (fun g off e hl => trivial)) hw' (fun g off e hl => trivial)).elem hz))) sS3 ?_
     refine dV 19 74 (.agg ((Mur.attC x.k x.r x.n x.t).toArray)) rfl rfl (fun w' hw' => (Mur.loadArr 32 (.tmp 4) rfl _ Tryd.underlying32 rfl W2.heap.size (by kernel_rfl) (Mur.attC x.k x.r x.n x.t).toArray 97 (Mur.attC_size x.hk x.hr x.ht) (by kernel_rfl) 32 (0, 0) (Chg.hp hw' (Chg.hp ch5 (Chg.hp ch4 hb3 trivial) trivial) trivial))) sS3 ?_
     refine dOp 20 (by kernel_rfl) ?_
     refine oCall (some 75) 59 [.tmp 73, .tmp 74] #[32, 32] [.agg ((Mur.attC z.k z.r z.n z.t).toArray), .agg ((Mur.attC x.k x.r x.n x.t).toArray)] rfl rfl (by kernel_rfl) rfl (by kernel_rfl) (by kernel_rfl) ?_
     refine (Less_any z.k z.r z.t z.n z.hk z.hr z.ht x.k x.r x.t x.n x.hk x.hr x.ht W7).mono ?_
     by_cases hls1 : Go.Lib.compareBytes (Mur.rawL z.k z.r z.n z.t) (Mur.rawL x.k x.r x.n x.t) < 0
     ·rw [decide_eq_true (hls1 : Go.Lib.compareBytes (Mur.rawL z.k z.r z.n z.t) (Mur.rawL x.k x.r x.n x.t) < 0)]
      rintro _ W8 ⟨rfl, ch7⟩
      have zz8 := ch7.size
      have sS4 := Chg.step sS3 ch7 trivial
      refine ⟨_, rfl, sS4, ?_⟩
      refine dV 21 76 (.bool false) rfl rfl (fun _ _ => by kernel_rfl) sS4 ?_
      refine dV 22 77 (.bool false) rfl rfl (fun _ _ => by kernel_rfl) sS4 ?_
      refine dV 23 78 (.bool false) rfl rfl (fun _ _ => by kernel_rfl) sS4 ?_
      refine dEnd (by kernel_rfl) (nxt (wp_cond_false (by kernel_rfl) (wp_skip (inN (nxt (reg ?_))))))
      refine rQ 0 79 _ rfl rfl (qint64 (n := ((i : Nat) : Int) + 1) (z := ((i + 1 : Nat) : Int)) (by omega) (by omega) (by omega)) ?_
      refine rP 1 45 (.int .i64 ((i + 1 : Nat) : Int)) rfl rfl ?_
      refine rEnd 2 rfl (nxt ?_)
      have kk7 := Chg.step kk5 ch6 trivial
      have kk8 := Chg.step kk7 ch7 trivial
      refine ⟨_, ?_, i + 1, rfl, by kernel_rfl, (by omega), (fun y_ hy_ => by rw [Mur.take_snoc hx] at hy_; rcases List.mem_append.1 hy_ with h1_ | h1_ <;> first | exact hall y_ h1_ | (rw [List.mem_singleton.1 h1_]; exact ⟨hmay1, hun1⟩)), (Mur.sorted_more hsr hx hz (by omega) hls1), (Chg.hp ch7 (Chg.hp ch6 (Chg.hp ch5 (Chg.hp ch4 (Chg.hp ch3 (Chg.hp ch2 hX trivial) ⟨by omega, trivial⟩) trivial) trivial) trivial) trivial), kk8⟩
      omega
     rw [decide_eq_false (hls1 : ¬ Go.Lib.compareBytes (Mur.rawL z.k z.r z.n z.t) (Mur.rawL x.k x.r x.n x.t) < 0)]
     rintro _ W8 ⟨rfl, ch7⟩
     have zz9 := ch7.size
     have sS5 := Chg.step sS3 ch7 trivial
     refine ⟨_, rfl, sS5, ?_⟩
     refine dV 21 76 (.bool true) rfl rfl (fun _ _ => by kernel_rfl) sS5 ?_
     refine dV 22 77 (.bool true) rfl rfl (fun _ _ => by kernel_rfl) sS5 ?_
     refine dV 23 78 (.bool true) rfl rfl (fun _ _ => by kernel_rfl) sS5 ?_
     refine dEnd (by kernel_rfl) (nxt (wp_cond_true (by kernel_rfl) (wp_seq (reg ?_))))
     refine rP 0 2 (.bool false) rfl rfl ?_
     refine rEnd 1 rfl (nxt (wp_ret (inR (thR (thR (inR (thR (inR (thR ?_)))))))))
     have kk9 := Chg.step kk5 ch6 trivial
     have kk10 := Chg.step kk9 ch7 trivial
     have hlI_ := hl.len
     refine Wk.ret (.bool false) rfl (by kernel_rfl) ?_
     refine ⟨_, rfl, ⟨fun h_ => (by cases h_), fun h_ => ?_⟩, kk10⟩
     exfalso
     obtain ⟨h1_, h2_, h3_, h4_, h5_⟩ := Mur.mayM_iff.1 h_
     have h1k_ : ((1 : UInt8).toNat : Int) = 1 := rfl
     have h2k_ : ((2 : UInt8).toNat : Int) = 2 := rfl
     rcases h5_ with ⟨hk_, hi_, hb_⟩ | ⟨hk_, hi_, hso_, hz_, hc_⟩
     ·have hk2_ : (kd.toNat : Int) = _ := congrArg (fun z : UInt8 => (z.toNat : Int)) hk_
      have hi2_ := congrArg List.length hi_
      rw [List.length_nil] at hi2_
      first | omega | cases hb_ | (subst hb_; omega)
     have hk2_ : (kd.toNat : Int) = _ := congrArg (fun z : UInt8 => (z.toNat : Int)) hk_
     exact Mur.not_sorted hx hz (by omega) hls1 hso_
    refine dV 11 66 (.bool false) rfl rfl (fun w' hw' => (boolF (b := decide (((i : Nat) : Int) > (0 : Int))) (decide_eq_false (by first | exact hx8 | omega)) (by kernel_rfl))) sS3 ?_
    refine dV 12 67 (.bool false) rfl rfl (fun _ _ => by kernel_rfl) sS3 ?_
    refine Wk.dPass 13 (some 68) rfl rfl (by kernel_rfl) (by kernel_rfl) (by kernel_rfl) (fun _ _ _ h => h) (by kernel_rfl) sS3 ?_
    refine Wk.dPass 14 (some 69) rfl rfl (by kernel_rfl) (by kernel_rfl) (by kernel_rfl) (fun _ _ _ h => h) (by kernel_rfl) sS3 ?_
    refine Wk.dPass 15 (some 70) rfl rfl (by kernel_rfl) (by kernel_rfl) (by kernel_rfl) (fun _ _ _ h => h) (by kernel_rfl) sS3 ?_
    refine Wk.dPass 16 (some 71) rfl rfl (by kernel_rfl) (by kernel_rfl) (by kernel_rfl) (fun _ _ _ h => h) (by kernel_rfl) sS3 ?_
    refine Wk.dPass 17 (some 72) rfl rfl (by kernel_rfl) (by kernel_rfl) (by kernel_rfl) (fun _ _ _ h => h) (by kernel_rfl) sS3 ?_
    refine Wk.dPass 18 (some 73) rfl rfl (by kernel_rfl) (by kernel_rfl) (by kernel_rfl) (fun _ _ _ h => h) (by kernel_rfl) sS3 ?_
    refine Wk.dPass 19 (some 74) rfl rfl (by kernel_rfl) (by kernel_rfl) (by kernel_rfl) (fun _ _ _ h => h) (by kernel_rfl) sS3 ?_
    refine Wk.dPass 20 (some 75) rfl rfl (by kernel_rfl) (by kernel_rfl) (by kernel_rfl) (fun _ _ _ h => h) (by kernel_rfl) sS3 ?_
    refine Wk.dPass 21 (some 76) rfl rfl (by kernel_rfl) (by kernel_rfl) (by kernel_rfl) (fun _ _ _ h => h) (by kernel_rfl) sS3 ?_
    refine dV 22 77 (.bool false) rfl rfl (fun _ _ => by kernel_rfl) sS3 ?_
    refine dV 23 78 (.bool false) rfl rfl (fun _ _ => by kernel_rfl) sS3 ?_
    refine dEnd (by kernel_rfl) (nxt (wp_cond_false (by kernel_rfl) (wp_skip (inN (nxt (reg ?_))))))
    refine rQ 0 79 _ rfl rfl (qint64 (n := ((i : Nat) : Int) + 1) (z := ((i + 1 : Nat) : Int)) (by omega) (by omega) (by omega)) ?_
    refine rP 1 45 (.int .i64 ((i + 1 : Nat) : Int)) rfl rfl ?_
    refine rEnd 2 rfl (nxt ?_)
    have kk11 := Chg.step kk5 ch6 trivial
    refine ⟨_, ?_, i + 1, rfl, by kernel_rfl, (by omega), (fun y_ hy_ => by rw [Mur.take_snoc hx] at hy_; rcases List.mem_append.1 hy_ with h1_ | h1_ <;> first | exact hall y_ h1_ | (rw [List.mem_singleton.1 h1_]; exact ⟨hmay1, hun1⟩)), (by have h0_ : i = 0 := (by omega); subst h0_; exact Mur.sorted_one hx), (Chg.hp ch6 (Chg.hp ch5 (Chg.hp ch4 (Chg.hp ch3 (Chg.hp ch2 hX trivial) ⟨by omega, trivial⟩) trivial) trivial) trivial), kk11⟩
    omega
   have hmay1u : ¬ (1 ≤ x.n ∧ x.n ≤ 5000) := hmay1
   refine (Bytes_no x.k x.r x.t x.n x.hk x.hr x.ht W4 hmay1).mono ?_
   rintro _ W10 ⟨rfl, ch8⟩
   have zz10 := ch8.size
   refine ⟨_, rfl, ?_⟩
   refine rP 2 50 (.tuple #[.slice none 0 0, .int .i64 2]) rfl rfl ?_
   refine rP 3 53 (.slice none 0 0) rfl rfl ?_
   refine rP 4 54 (.int .i64 2) rfl rfl ?_
   refine rP 5 5 (.slice none 0 0) rfl rfl ?_
   refine rP 6 6 (.int .i64 2) rfl rfl ?_
   refine rEnd 7 rfl (nxt (wp_seq ?_))
   refine dReg ([]) (by kernel_rfl) ?_
   intro W11 ch9 sz4
   have zz11 := ch9.size
   have sS6 : Chg ([]) W11 W11 := (Chg.refl _).more (by simp)
   refine dV 0 55 (.int .i64 2) rfl rfl (fun _ _ => by kernel_rfl) sS6 ?_
   refine dV 1 56 (.bool true) rfl rfl (fun w' hw' => (boolT (b := ((2 : Int) != (0 : Int))) (bne_iff_ne.2 (by decide)) (by kernel_rfl))) sS6 ?_
   refine dV 2 57 (.bool true) rfl rfl (fun _ _ => by kernel_rfl) sS6 ?_
   refine Wk.dPass 3 (some 58) rfl rfl (by kernel_rfl) (by kernel_rfl) (by kernel_rfl) (fun _ _ _ h => h) (by kernel_rfl) sS6 ?_
   refine Wk.dPass 4 (some 59) rfl rfl (by kernel_rfl) (by kernel_rfl) (by kernel_rfl) (fun _ _ _ h => h) (by kernel_rfl) sS6 ?_
   refine Wk.dPass 5 (some 60) rfl rfl (by kernel_rfl) (by kernel_rfl) (by kernel_rfl) (fun _ _ _ h => h) (by kernel_rfl) sS6 ?_
   refine Wk.dPass 6 (some 61) rfl rfl (by kernel_rfl) (by kernel_rfl) (by kernel_rfl) (fun _ _ _ h => h) (by kernel_rfl) sS6 ?_
   refine Wk.dPass 7 (some 62) rfl rfl (by kernel_rfl) (by kernel_rfl) (by kernel_rfl) (fun _ _ _ h => h) (by kernel_rfl) sS6 ?_
   refine dV 8 63 (.bool true) rfl rfl (fun _ _ => by kernel_rfl) sS6 ?_
   refine dV 9 64 (.bool true) rfl rfl (fun _ _ => by kernel_rfl) sS6 ?_
   refine Wk.dPass 10 (some 65) rfl rfl (by kernel_rfl) (by kernel_rfl) (by kernel_rfl) (fun _ _ _ h => h) (by kernel_rfl) sS6 ?_
   refine Wk.dPass 11 (some 66) rfl rfl (by kernel_rfl) (by kernel_rfl) (by kernel_rfl) (fun _ _ _ h => h) (by kernel_rfl) sS6 ?_
   refine Wk.dPass 12 (some 67) rfl rfl (by kernel_rfl) (by kernel_rfl) (by kernel_rfl) (fun _ _ _ h => h) (by kernel_rfl) sS6 ?_
   refine Wk.dPass 13 (some 68) rfl rfl (by kernel_rfl) (by kernel_rfl) (by kernel_rfl) (fun _ _ _ h => h) (by kernel_rfl) sS6 ?_
   refine Wk.dPass 14 (some 69) rfl rfl (by kernel_rfl) (by kernel_rfl) (by kernel_rfl) (fun _ _ _ h => h) (by kernel_rfl) sS6 ?_
   refine Wk.dPass 15 (some 70) rfl rfl (by kernel_rfl) (by kernel_rfl) (by kernel_rfl) (fun _ _ _ h => h) (by kernel_rfl) sS6 ?_
   refine Wk.dPass 16 (some 71) rfl rfl (by kernel_rfl) (by kernel_rfl) (by kernel_rfl) (fun _ _ _ h => h) (by kernel_rfl) sS6 ?_
   refine Wk.dPass 17 (some 72) rfl rfl (by kernel_rfl) (by kernel_rfl) (by kernel_rfl) (fun _ _ _ h => h) (by kernel_rfl) sS6 ?_
   refine Wk.dPass 18 (some 73) rfl rfl (by kernel_rfl) (by kernel_rfl) (by kernel_rfl) (fun _ _ _ h => h) (by kernel_rfl) sS6 ?_
   refine Wk.dPass 19 (some 74) rfl rfl (by kernel_rfl) (by kernel_rfl) (by kernel_rfl) (fun _ _ _ h => h) (by kernel_rfl) sS6 ?_
   refine Wk.dPass 20 (some 75) rfl rfl (by kernel_rfl) (by kernel_rfl) (by kernel_rfl) (fun _ _ _ h => h) (by kernel_rfl) sS6 ?_
   refine Wk.dPass 21 (some 76) rfl rfl (by kernel_rfl) (by kernel_rfl) (by kernel_rfl) (fun _ _ _ h => h) (by kernel_rfl) sS6 ?_
   refine Wk.dPass 22 (some 77) rfl rfl (by kernel_rfl) (by kernel_rfl) (by kernel_rfl) (fun _ _ _ h => h) (by kernel_rfl) sS6 ?_
   refine dV 23 78 (.bool true) rfl rfl (fun _ _ => by kernel_rfl) sS6 ?_
   refine dEnd (by kernel_rfl) (nxt (wp_cond_true (by kernel_rfl) (wp_seq (reg ?_))))
   refine rP 0 2 (.bool false) rfl rfl ?_
   refine rEnd 1 rfl (nxt (wp_ret (inR (thR (thR (inR (thR (inR (thR ?_)))))))))
   have kk12 := Chg.step HB ch2 trivial
   have kk13 := Chg.step kk12 ch3 ⟨.inr (by omega), trivial⟩
   have kk14 := Chg.step kk13 ch8 trivial
   have kk15 := Chg.step kk14 ch9 trivial
   have hlI_ := hl.len
   refine Wk.ret (.bool false) rfl (by kernel_rfl) ?_
   refine ⟨_, rfl, ⟨fun h_ => (by cases h_), fun h_ => ?_⟩, kk15⟩
   exfalso
   obtain ⟨h1_, h2_, h3_, h4_, h5_⟩ := Mur.mayM_iff.1 h_
   have h1k_ : ((1 : UInt8).toNat : Int) = 1 := rfl
   have h2k_ : ((2 : UInt8).toNat : Int) = 2 := rfl
   rcases h5_ with ⟨hk_, hi_, hb_⟩ | ⟨hk_, hi_, hso_, hz_, hc_⟩
   ·have hk2_ : (kd.toNat : Int) = _ := congrArg (fun z : UInt8 => (z.toNat : Int)) hk_
    have hi2_ := congrArg List.length hi_
    rw [List.length_nil] at hi2_
    first | omega | cases hb_ | (subst hb_; omega)
   have hk2_ : (kd.toNat : Int) = _ := congrArg (fun z : UInt8 => (z.toNat : Int)) hk_
   exact hmay1 (hi_ x (List.mem_of_getElem? hx)).1
  rw [List.take_of_length_le (show I.length ≤ i by omega)] at hall hsr
  refine wp_seq (reg ?_)
  refine rQ 0 46 _ rfl rfl (qboolF (b := decide (((i : Nat) : Int) < ((n : Nat) : Int))) (decide_eq_false (by omega))) ?_
  refine rEnd 1 rfl (nxt (wp_seq (wp_cond_false (by kernel_rfl) (wp_exit (thX (thX (inX (nxt (wp_seq (reg ?_))))))))))
  refine rP 0 80 (.pointer (some ⟨w.heap.size, 2, none⟩)) rfl rfl ?_
  refine rQ 1 81 (.agg ((b8s s).toArray)) rfl rfl (loadR 30 (.tmp 80) rfl _ Tryd.underlying30 rfl w.heap.size 2 (by kernel_rfl) (b8s s) (by rw [Mur.b8s_length, hs]; kernel_rfl) (show World.rangeAt _ _ (0 + 2) _ from Mur.msg_sum (range_row hX))) ?_
  refine rP 2 82 (.agg ((b8s [0, 0, 0, 0, 0, 0, 0, 0, 0, 0, 0, 0, 0, 0, 0, 0, 0, 0, 0, 0, 0, 0, 0, 0, 0, 0, 0, 0, 0, 0, 0, 0]).toArray)) rfl rfl ?_
  by_cases hzs : s = Mur.z32
  ·refine rQ 3 83 (.bool true) rfl rfl (Mur.run_eql_yes digT s Mur.z32 hs rfl hzs _ (.tmp 81) (.tmp 82) 30 rfl (by kernel_rfl) (by kernel_rfl)) ?_
   refine rP 4 84 (.bool true) rfl rfl ?_
   refine rP 5 85 (.pointer (some ⟨w.heap.size, 34, none⟩)) rfl rfl ?_
   refine rQ 6 86 _ rfl rfl (load1 3 (.tmp 85) rfl (by kernel_rfl) ⟨w.heap.size, 34, none⟩ (by kernel_rfl) (.int .i64 m) (show World.cell? _ ⟨_, 0 + 34, _⟩ = _ from Mur.msg_cnt hs (range_row hX))) ?_
   by_cases hx9 : m = (0 : Int)
   ·refine rQ 7 87 _ rfl rfl (qboolT (b := (m == (0 : Int))) (beq_iff_eq.2 (by first | exact hx9 | omega))) ?_
    refine rP 8 88 (.bool true) rfl rfl ?_
    refine rP 9 2 (.bool true) rfl rfl ?_
    refine rEnd 10 rfl (nxt (wp_ret (inR (thR ?_))))
    have hlI_ := hl.len
    refine Wk.ret (.bool true) rfl (by kernel_rfl) ?_
    exact ⟨_, rfl, ⟨fun _ => Mur.mayM_iff.2 ⟨hpreT_, by omega, by omega, by omega, .inr ⟨Mur.u8_cast_inj (by have h_ : ((2 : UInt8).toNat : Int) = 2 := rfl; omega), hall, hsr, hzs, by omega⟩⟩, fun _ => rfl⟩, HB⟩
   refine rQ 7 87 _ rfl rfl (qboolF (b := (m == (0 : Int))) (beq_eq_false_iff_ne.2 (by first | exact hx9 | omega))) ?_
   refine rP 8 88 (.bool false) rfl rfl ?_
   refine rP 9 2 (.bool false) rfl rfl ?_
   refine rEnd 10 rfl (nxt (wp_ret (inR (thR ?_))))
   have hlI_ := hl.len
   refine Wk.ret (.bool false) rfl (by kernel_rfl) ?_
   refine ⟨_, rfl, ⟨fun h_ => (by cases h_), fun h_ => ?_⟩, HB⟩
   exfalso
   obtain ⟨h1_, h2_, h3_, h4_, h5_⟩ := Mur.mayM_iff.1 h_
   have h1k_ : ((1 : UInt8).toNat : Int) = 1 := rfl
   have h2k_ : ((2 : UInt8).toNat : Int) = 2 := rfl
   rcases h5_ with ⟨hk_, hi_, hb_⟩ | ⟨hk_, hi_, hso_, hz_, hc_⟩
   ·have hk2_ : (kd.toNat : Int) = _ := congrArg (fun z : UInt8 => (z.toNat : Int)) hk_
    have hi2_ := congrArg List.length hi_
    rw [List.length_nil] at hi2_
    first | omega | cases hb_ | (subst hb_; omega)
   have hk2_ : (kd.toNat : Int) = _ := congrArg (fun z : UInt8 => (z.toNat : Int)) hk_
   omega
  refine rQ 3 83 (.bool false) rfl rfl (Mur.run_eql_no digT s Mur.z32 hs rfl hzs _ (.tmp 81) (.tmp 82) 30 rfl (by kernel_rfl) (by kernel_rfl)) ?_
  refine rP 4 84 (.bool false) rfl rfl ?_
  refine rPass 5 (some 85) rfl rfl (by kernel_rfl) ?_
  refine rPass 6 (some 86) rfl rfl (by kernel_rfl) ?_
  refine rPass 7 (some 87) rfl rfl (by kernel_rfl) ?_
  refine rP 8 88 (.bool false) rfl rfl ?_
  refine rP 9 2 (.bool false) rfl rfl ?_
  refine rEnd 10 rfl (nxt (wp_ret (inR (thR ?_))))
  have hlI_ := hl.len
  refine Wk.ret (.bool false) rfl (by kernel_rfl) ?_
  refine ⟨_, rfl, ⟨fun h_ => (by cases h_), fun h_ => ?_⟩, HB⟩
  exfalso
  obtain ⟨h1_, h2_, h3_, h4_, h5_⟩ := Mur.mayM_iff.1 h_
  have h1k_ : ((1 : UInt8).toNat : Int) = 1 := rfl
  have h2k_ : ((2 : UInt8).toNat : Int) = 2 := rfl
  rcases h5_ with ⟨hk_, hi_, hb_⟩ | ⟨hk_, hi_, hso_, hz_, hc_⟩
  ·have hk2_ : (kd.toNat : Int) = _ := congrArg (fun z : UInt8 => (z.toNat : Int)) hk_
   have hi2_ := congrArg List.length hi_
   rw [List.length_nil] at hi2_
   first | omega | cases hb_ | (subst hb_; omega)
  have hk2_ : (kd.toNat : Int) = _ := congrArg (fun z : UInt8 => (z.toNat : Int)) hk_
  exact hzs hz_
 refine rQ 0 41 _ rfl rfl (qboolF (b := (((kd.toNat : Nat) : Int) == (2 : Int))) (beq_eq_false_iff_ne.2 (by first | exact hx7 | omega))) ?_
 refine rP 1 40 (.bool false) rfl rfl ?_
 refine rEnd 2 rfl (nxt (wp_cond_false (by kernel_rfl) (wp_skip (inN (nxt (wp_seq (reg ?_)))))))
 refine rP 0 2 (.bool false) rfl rfl ?_
 refine rEnd 1 rfl (nxt (wp_ret ?_))
 have hlI_ := hl.len
 refine Wk.ret (.bool false) rfl (by kernel_rfl) ?_
 refine ⟨_, rfl, ⟨fun h_ => (by cases h_), fun h_ => ?_⟩, kk1⟩
 exfalso
 obtain ⟨h1_, h2_, h3_, h4_, h5_⟩ := Mur.mayM_iff.1 h_
 have h1k_ : ((1 : UInt8).toNat : Int) = 1 := rfl
 have h2k_ : ((2 : UInt8).toNat : Int) = 2 := rfl
 rcases h5_ with ⟨hk_, hi_, hb_⟩ | ⟨hk_, hi_, hso_, hz_, hc_⟩
 ·have hk2_ : (kd.toNat : Int) = _ := congrArg (fun z : UInt8 => (z.toNat : Int)) hk_
  have hi2_ := congrArg List.length hi_
  rw [List.length_nil] at hi2_
  first | omega | cases hb_ | (subst hb_; omega)
 have hk2_ : (kd.toNat : Int) = _ := congrArg (fun z : UInt8 => (z.toNat : Int)) hk_
 omega
end Go.Proofs.YtfhneademopciaaDoor
