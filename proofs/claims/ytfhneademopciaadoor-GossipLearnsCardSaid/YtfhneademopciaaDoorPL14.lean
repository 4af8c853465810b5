/- GossipLearns, walked. -/
import Derived.Test.YtfhneademopciaaDoorPL13
namespace Go.Proofs.YtfhneademopciaaDoor
open Go.RowKit
open Mur (b8s Byt Own8 Seg Segs flat cutA attC Att SlA OwnA rowA msgC)
set_option maxRecDepth 100000
set_option maxHeartbeats 4000000
def LearnG_F1 (b : Array Value) (u3 : Value) (u5 : Value) (u8 : Value) (u49 : Value) (u50 : Value) (u51 : Value) : Act := ⟨#[b.getD 0 undef, b.getD 1 undef, b.getD 2 undef, u3, b.getD 4 undef, u5, b.getD 6 undef, b.getD 7 undef, u8, b.getD 9 undef, b.getD 10 undef, b.getD 11 undef, b.getD 12 undef, b.getD 13 undef, b.getD 14 undef, b.getD 15 undef, b.getD 16 undef, b.getD 17 undef, b.getD 18 undef, b.getD 19 undef, b.getD 20 undef, b.getD 21 undef, b.getD 22 undef, b.getD 23 undef, b.getD 24 undef, b.getD 25 undef, b.getD 26 undef, b.getD 27 undef, b.getD 28 undef, b.getD 29 undef, b.getD 30 undef, b.getD 31 undef, b.getD 32 undef, b.getD 33 undef, b.getD 34 undef, b.getD 35 undef, b.getD 36 undef, b.getD 37 undef, b.getD 38 undef, b.getD 39 undef, b.getD 40 undef, b.getD 41 undef, b.getD 42 undef, b.getD 43 undef, b.getD 44 undef, b.getD 45 undef, b.getD 46 undef, b.getD 47 undef, b.getD 48 undef, u49, u50, u51, b.getD 52 undef, b.getD 53 undef, b.getD 54 undef, b.getD 55 undef, b.getD 56 undef, b.getD 57 undef, b.getD 58 undef, b.getD 59 undef, b.getD 60 undef, b.getD 61 undef, b.getD 62 undef, b.getD 63 undef, b.getD 64 undef, b.getD 65 undef, b.getD 66 undef, b.getD 67 undef, b.getD 68 undef, b.getD 69 undef, b.getD 70 undef, b.getD 71 undef, b.getD 72 undef, b.getD 73 undef, b.getD 74 undef, b.getD 75 undef, b.getD 76 undef, b.getD 77 undef, b.getD 78 undef, b.getD 79 undef, b.getD 80 undef, b.getD 81 undef, b.getD 82 undef, b.getD 83 undef, b.getD 84 undef, b.getD 85 undef, b.getD 86 undef, b.getD 87 undef, b.getD 88 undef, b.getD 89 undef, b.getD 90 undef, b.getD 91 undef, b.getD 92 undef, b.getD 93 undef, b.getD 94 undef, b.getD 95 undef, b.getD 96 undef, b.getD 97 undef, b.getD 98 undef, b.getD 99 undef, b.getD 100 undef, b.getD 101 undef, b.getD 102 undef, b.getD 103 undef, b.getD 104 undef, b.getD 105 undef, b.getD 106 undef, b.getD 107 undef, b.getD 108 undef, b.getD 109 undef, b.getD 110 undef, b.getD 111 undef, b.getD 112 undef, b.getD 113 undef, b.getD 114 undef, b.getD 115 undef, b.getD 116 undef, b.getD 117 undef, b.getD 118 undef, b.getD 119 undef, b.getD 120 undef, b.getD 121 undef], []⟩
def LearnG_F2 (b : Array Value) (u3 : Value) (u5 : Value) (u8 : Value) (u11 : Value) (u12 : Value) (u49 : Value) (u50 : Value) (u51 : Value) (u56 : Value) (u57 : Value) (u58 : Value) : Act := ⟨#[b.getD 0 undef, b.getD 1 undef, b.getD 2 undef, u3, b.getD 4 undef, u5, b.getD 6 undef, b.getD 7 undef, u8, b.getD 9 undef, b.getD 10 undef, u11, u12, b.getD 13 undef, b.getD 14 undef, b.getD 15 undef, b.getD 16 undef, b.getD 17 undef, b.getD 18 undef, b.getD 19 undef, b.getD 20 undef, b.getD 21 undef, b.getD 22 undef, b.getD 23 undef, b.getD 24 undef, b.getD 25 undef, b.getD 26 undef, b.getD 27 undef, b.getD 28 undef, b.getD 29 undef, b.getD 30 undef, b.getD 31 undef, b.getD 32 undef, b.getD 33 undef, b.getD 34 undef, b.getD 35 undef, b.getD 36 undef, b.getD 37 undef, b.getD 38 undef, b.getD 39 undef, b.getD 40 undef, b.getD 41 undef, b.getD 42 undef, b.getD 43 undef, b.getD 44 undef, b.getD 45 undef, b.getD 46 undef, b.getD 47 undef, b.getD 48 undef, u49, u50, u51, b.getD 52 undef, b.getD 53 undef, b.getD 54 undef, b.getD 55 undef, u56, u57, u58, b.getD 59 undef, b.getD 60 undef, b.getD 61 undef, b.getD 62 undef, b.getD 63 undef, b.getD 64 undef, b.getD 65 undef, b.getD 66 undef, b.getD 67 undef, b.getD 68 undef, b.getD 69 undef, b.getD 70 undef, b.getD 71 undef, b.getD 72 undef, b.getD 73 undef, b.getD 74 undef, b.getD 75 undef, b.getD 76 undef, b.getD 77 undef, b.getD 78 undef, b.getD 79 undef, b.getD 80 undef, b.getD 81 undef, b.getD 82 undef, b.getD 83 undef, b.getD 84 undef, b.getD 85 undef, b.getD 86 undef, b.getD 87 undef, b.getD 88 undef, b.getD 89 undef, b.getD 90 undef, b.getD 91 undef, b.getD 92 undef, b.getD 93 undef, b.getD 94 undef, b.getD 95 undef, b.getD 96 undef, b.getD 97 undef, b.getD 98 undef, b.getD 99 undef, b.getD 100 undef, b.getD 101 undef, b.getD 102 undef, b.getD 103 undef, b.getD 104 undef, b.getD 105 undef, b.getD 106 undef, b.getD 107 undef, b.getD 108 undef, b.getD 109 undef, b.getD 110 undef, b.getD 111 undef, b.getD 112 undef, b.getD 113 undef, b.getD 114 undef, b.getD 115 undef, b.getD 116 undef, b.getD 117 undef, b.getD 118 undef, b.getD 119 undef, b.getD 120 undef, b.getD 121 undef], []⟩
def LearnG_F3 (b : Array Value) (u3 : Value) (u5 : Value) (u77 : Value) (u78 : Value) (u79 : Value) : Act := ⟨#[b.getD 0 undef, b.getD 1 undef, b.getD 2 undef, u3, b.getD 4 undef, u5, b.getD 6 undef, b.getD 7 undef, b.getD 8 undef, b.getD 9 undef, b.getD 10 undef, b.getD 11 undef, b.getD 12 undef, b.getD 13 undef, b.getD 14 undef, b.getD 15 undef, b.getD 16 undef, b.getD 17 undef, b.getD 18 undef, b.getD 19 undef, b.getD 20 undef, b.getD 21 undef, b.getD 22 undef, b.getD 23 undef, b.getD 24 undef, b.getD 25 undef, b.getD 26 undef, b.getD 27 undef, b.getD 28 undef, b.getD 29 undef, b.getD 30 undef, b.getD 31 undef, b.getD 32 undef, b.getD 33 undef, b.getD 34 undef, b.getD 35 undef, b.getD 36 undef, b.getD 37 undef, b.getD 38 undef, b.getD 39 undef, b.getD 40 undef, b.getD 41 undef, b.getD 42 undef, b.getD 43 undef, b.getD 44 undef, b.getD 45 undef, b.getD 46 undef, b.getD 47 undef, b.getD 48 undef, b.getD 49 undef, b.getD 50 undef, b.getD 51 undef, b.getD 52 undef, b.getD 53 undef, b.getD 54 undef, b.getD 55 undef, b.getD 56 undef, b.getD 57 undef, b.getD 58 undef, b.getD 59 undef, b.getD 60 undef, b.getD 61 undef, b.getD 62 undef, b.getD 63 undef, b.getD 64 undef, b.getD 65 undef, b.getD 66 undef, b.getD 67 undef, b.getD 68 undef, b.getD 69 undef, b.getD 70 undef, b.getD 71 undef, b.getD 72 undef, b.getD 73 undef, b.getD 74 undef, b.getD 75 undef, b.getD 76 undef, u77, u78, u79, b.getD 80 undef, b.getD 81 undef, b.getD 82 undef, b.getD 83 undef, b.getD 84 undef, b.getD 85 undef, b.getD 86 undef, b.getD 87 undef, b.getD 88 undef, b.getD 89 undef, b.getD 90 undef, b.getD 91 undef, b.getD 92 undef, b.getD 93 undef, b.getD 94 undef, b.getD 95 undef, b.getD 96 undef, b.getD 97 undef, b.getD 98 undef, b.getD 99 undef, b.getD 100 undef, b.getD 101 undef, b.getD 102 undef, b.getD 103 undef, b.getD 104 undef, b.getD 105 undef, b.getD 106 undef, b.getD 107 undef, b.getD 108 undef, b.getD 109 undef, b.getD 110 undef, b.getD 111 undef, b.getD 112 undef, b.getD 113 undef, b.getD 114 undef, b.getD 115 undef, b.getD 116 undef, b.getD 117 undef, b.getD 118 undef, b.getD 119 undef, b.getD 120 undef, b.getD 121 undef], []⟩
def LearnG_F4 (b : Array Value) (u3 : Value) (u5 : Value) (u77 : Value) (u78 : Value) (u79 : Value) (u109 : Value) (u110 : Value) (u111 : Value) : Act := ⟨#[b.getD 0 undef, b.getD 1 undef, b.getD 2 undef, u3, b.getD 4 undef, u5, b.getD 6 undef, b.getD 7 undef, b.getD 8 undef, b.getD 9 undef, b.getD 10 undef, b.getD 11 undef, b.getD 12 undef, b.getD 13 undef, b.getD 14 undef, b.getD 15 undef, b.getD 16 undef, b.getD 17 undef, b.getD 18 undef, b.getD 19 undef, b.getD 20 undef, b.getD 21 undef, b.getD 22 undef, b.getD 23 undef, b.getD 24 undef, b.getD 25 undef, b.getD 26 undef, b.getD 27 undef, b.getD 28 undef, b.getD 29 undef, b.getD 30 undef, b.getD 31 undef, b.getD 32 undef, b.getD 33 undef, b.getD 34 undef, b.getD 35 undef, b.getD 36 undef, b.getD 37 undef, b.getD 38 undef, b.getD 39 undef, b.getD 40 undef, b.getD 41 undef, b.getD 42 undef, b.getD 43 undef, b.getD 44 undef, b.getD 45 undef, b.getD 46 undef, b.getD 47 undef, b.getD 48 undef, b.getD 49 undef, b.getD 50 undef, b.getD 51 undef, b.getD 52 undef, b.getD 53 undef, b.getD 54 undef, b.getD 55 undef, b.getD 56 undef, b.getD 57 undef, b.getD 58 undef, b.getD 59 undef, b.getD 60 undef, b.getD 61 undef, b.getD 62 undef, b.getD 63 undef, b.getD 64 undef, b.getD 65 undef, b.getD 66 undef, b.getD 67 undef, b.getD 68 undef, b.getD 69 undef, b.getD 70 undef, b.getD 71 undef, b.getD 72 undef, b.getD 73 undef, b.getD 74 undef, b.getD 75 undef, b.getD 76 undef, u77, u78, u79, b.getD 80 undef, b.getD 81 undef, b.getD 82 undef, b.getD 83 undef, b.getD 84 undef, b.getD 85 undef, b.getD 86 undef, b.getD 87 undef, b.getD 88 undef, b.getD 89 undef, b.getD 90 undef, b.getD 91 undef, b.getD 92 undef, b.getD 93 undef, b.getD 94 undef, b.getD 95 undef, b.getD 96 undef, b.getD 97 undef, b.getD 98 undef, b.getD 99 undef, b.getD 100 undef, b.getD 101 undef, b.getD 102 undef, b.getD 103 undef, b.getD 104 undef, b.getD 105 undef, b.getD 106 undef, b.getD 107 undef, b.getD 108 undef, u109, u110, u111, b.getD 112 undef, b.getD 113 undef, b.getD 114 undef, b.getD 115 undef, b.getD 116 undef, b.getD 117 undef, b.getD 118 undef, b.getD 119 undef, b.getD 120 undef, b.getD 121 undef], []⟩
theorem learns_any (A : Option Addr) (n c : Nat) (L : List Att) (kd : UInt8) (p : List UInt8) (PA : Option Addr) (pn pc : Nat) (s : List UInt8) (m : Int) (B : Option Addr) (bn bc : Nat) (b : Bool) (I : List Att) (w : World) (hv : ShaVars w) (hl : SlA w A n L) (_hnc : n ≤ c ∧ c ≤ 9223372036854775807) (hs : s.length = 32) (hb : Byt w PA pn p) (hnil : PA = none → pc = 0) (hlI : SlA w B bn I) : Calls Tryd.prog 11 #[.slice A n c, .agg (msgC kd PA pn pc s m B bn bc b).toArray] w fun e w' => e = .returned (.bool true) ∧ Below w.heap.size w w' := by
  have HV := Go.Lib.hid hv
  clear hv
  have hpl_ := hb.1
  have hIl_ := hlI.len
  have hLl_ := hl.len
  have hkd_ := kd.toNat_lt
  refine calls_of_wp Tryd.func11 rfl ?_
  refine wp_seq ?_
  refine Wk.reg ?_
  refine Wk.rEx 0 (some 3) _ rfl rfl (by kernel_rfl) (Wk.new_ex (.pointer (some ⟨w.heap.size, 0, none⟩)) ((Mur.msgC kd PA pn pc s m B bn bc b).toArray) 66 (by kernel_rfl)) ?_
  rintro _ W1 ⟨rfl, hb1, ch1, sz1⟩
  have zz1 := ch1.size
  refine Wk.rPure 1 (some 4) (.bool false) rfl rfl (by kernel_rfl) (by kernel_rfl) ?_
  refine Wk.rEnd 2 rfl ?_
  refine Wk.nxt ?_
  refine wp_seq ?_
  refine wp_seq ?_
  refine Wk.reg ?_
  refine Wk.rPure 0 (some 19) (.slice A n c) rfl rfl (by kernel_rfl) (by kernel_rfl) ?_
  refine Wk.rPure 1 (some 20) (.int .i64 ((n : Nat) : Int)) rfl rfl (by kernel_rfl) (by kernel_rfl) ?_
  by_cases hx1 : ((n : Nat) : Int) > (300 : Int)
  · refine Wk.rPure 2 (some 21) (.bool true) rfl rfl (by kernel_rfl) (Wk.boolT (b := decide (((n : Nat) : Int) > (300 : Int))) (decide_eq_true (by first | exact hx1 | omega)) (by kernel_rfl)) ?_
    refine Wk.rPure 3 (some 22) (.bool true) rfl rfl (by kernel_rfl) (by kernel_rfl) ?_
    refine Wk.rPass 4 (some 23) rfl rfl (by kernel_rfl) ?_
    refine Wk.rPass 5 (some 24) rfl rfl (by kernel_rfl) ?_
    refine Wk.rPass 6 (some 25) rfl rfl (by kernel_rfl) ?_
    refine Wk.rPass 7 (some 26) rfl rfl (by kernel_rfl) ?_
    refine Wk.rPure 8 (some 27) (.bool true) rfl rfl (by kernel_rfl) (by kernel_rfl) ?_
    refine Wk.rPure 9 (some 28) (.bool true) rfl rfl (by kernel_rfl) (by kernel_rfl) ?_
    refine Wk.rPass 10 (some 29) rfl rfl (by kernel_rfl) ?_
    refine Wk.rPass 11 (some 30) rfl rfl (by kernel_rfl) ?_
    refine Wk.rPass 12 (some 31) rfl rfl (by kernel_rfl) ?_
    refine Wk.rPass 13 (some 32) rfl rfl (by kernel_rfl) ?_
    refine Wk.rPure 14 (some 33) (.bool true) rfl rfl (by kernel_rfl) (by kernel_rfl) ?_
    refine Wk.rEnd 15 rfl ?_
    refine Wk.nxt ?_
    refine wp_cond_true (by kernel_rfl) ?_
    refine wp_seq ?_
    refine Wk.reg ?_
    refine Wk.rCall 0 (some 34) 32 [] #[] [] rfl rfl (by kernel_rfl) rfl (by kernel_rfl) (by kernel_rfl) ?_
    have kk1 : Wk.Chg [] w W1 := Wk.Chg.step ((Wk.Chg.refl _).more (by simp)) ch1 trivial
    refine (known21_any W1 (HV.out.below (Wk.Chg.below0 kk1))).mono ?_
    rintro _ W2 ⟨rfl, ch2⟩
    have zz2 := ch2.size
    refine ⟨_, rfl, ?_⟩
    refine Wk.rPure 1 (some 4) (.bool true) rfl rfl (by kernel_rfl) (by kernel_rfl) ?_
    refine Wk.rEnd 2 rfl ?_
    refine Wk.nxt ?_
    refine wp_ret ?_
    refine Wk.thR ?_
    have kk2 := Wk.Chg.step kk1 ch2 trivial
    refine Wk.ret (.bool true) rfl (by kernel_rfl) ?_
    exact ⟨rfl, Wk.Chg.below0 kk2⟩
  · refine Wk.rPure 2 (some 21) (.bool false) rfl rfl (by kernel_rfl) (Wk.boolF (b := decide (((n : Nat) : Int) > (300 : Int))) (decide_eq_false (by first | exact hx1 | omega)) (by kernel_rfl)) ?_
    refine Wk.rPure 3 (some 22) (.bool false) rfl rfl (by kernel_rfl) (by kernel_rfl) ?_
    refine Wk.rPure 4 (some 23) (.pointer (some ⟨w.heap.size, 35, none⟩)) rfl rfl (by kernel_rfl) (by kernel_rfl) ?_
    refine Wk.rPure 5 (some 24) (.slice B bn bc) rfl rfl (by kernel_rfl) (Wk.load1 22 (.tmp 23) rfl (by kernel_rfl) ⟨w.heap.size, 35, none⟩ (by kernel_rfl) (.slice B bn bc) (show World.cell? _ ⟨_, 0 + 35, _⟩ = _ from Mur.msg_items hs (Wk.range_row hb1))) ?_
    refine Wk.rPure 6 (some 25) (.int .i64 ((bn : Nat) : Int)) rfl rfl (by kernel_rfl) (by kernel_rfl) ?_
    by_cases hx2 : ((bn : Nat) : Int) > (20 : Int)
    · refine Wk.rPure 7 (some 26) (.bool true) rfl rfl (by kernel_rfl) (Wk.boolT (b := decide (((bn : Nat) : Int) > (20 : Int))) (decide_eq_true (by first | exact hx2 | omega)) (by kernel_rfl)) ?_
      refine Wk.rPure 8 (some 27) (.bool true) rfl rfl (by kernel_rfl) (by kernel_rfl) ?_
      refine Wk.rPure 9 (some 28) (.bool true) rfl rfl (by kernel_rfl) (by kernel_rfl) ?_
      refine Wk.rPass 10 (some 29) rfl rfl (by kernel_rfl) ?_
      refine Wk.rPass 11 (some 30) rfl rfl (by kernel_rfl) ?_
      refine Wk.rPass 12 (some 31) rfl rfl (by kernel_rfl) ?_
      refine Wk.rPass 13 (some 32) rfl rfl (by kernel_rfl) ?_
      refine Wk.rPure 14 (some 33) (.bool true) rfl rfl (by kernel_rfl) (by kernel_rfl) ?_
      refine Wk.rEnd 15 rfl ?_
      refine Wk.nxt ?_
      refine wp_cond_true (by kernel_rfl) ?_
      refine wp_seq ?_
      refine Wk.reg ?_
      refine Wk.rCall 0 (some 34) 32 [] #[] [] rfl rfl (by kernel_rfl) rfl (by kernel_rfl) (by kernel_rfl) ?_
      have kk3 : Wk.Chg [] w W1 := Wk.Chg.step ((Wk.Chg.refl _).more (by simp)) ch1 trivial
      refine (known21_any W1 (HV.out.below (Wk.Chg.below0 kk3))).mono ?_
      rintro _ W3 ⟨rfl, ch3⟩
      have zz3 := ch3.size
      refine ⟨_, rfl, ?_⟩
      refine Wk.rPure 1 (some 4) (.bool true) rfl rfl (by kernel_rfl) (by kernel_rfl) ?_
      refine Wk.rEnd 2 rfl ?_
      refine Wk.nxt ?_
      refine wp_ret ?_
      refine Wk.thR ?_
      have kk4 := Wk.Chg.step kk3 ch3 trivial
      refine Wk.ret (.bool true) rfl (by kernel_rfl) ?_
      exact ⟨rfl, Wk.Chg.below0 kk4⟩
    · refine Wk.rPure 7 (some 26) (.bool false) rfl rfl (by kernel_rfl) (Wk.boolF (b := decide (((bn : Nat) : Int) > (20 : Int))) (decide_eq_false (by first | exact hx2 | omega)) (by kernel_rfl)) ?_
      refine Wk.rPure 8 (some 27) (.bool false) rfl rfl (by kernel_rfl) (by kernel_rfl) ?_
      refine Wk.rPure 9 (some 28) (.bool false) rfl rfl (by kernel_rfl) (by kernel_rfl) ?_
      refine Wk.rPure 10 (some 29) (.pointer (some ⟨w.heap.size, 1, none⟩)) rfl rfl (by kernel_rfl) (by kernel_rfl) ?_
      refine Wk.rPure 11 (some 30) (.slice PA pn pc) rfl rfl (by kernel_rfl) (Wk.load1 38 (.tmp 29) rfl (by kernel_rfl) ⟨w.heap.size, 1, none⟩ (by kernel_rfl) (.slice PA pn pc) (show World.cell? _ ⟨_, 0 + 1, _⟩ = _ from Mur.msg_pre (Wk.range_row hb1))) ?_
      refine Wk.rPure 12 (some 31) (.int .i64 ((pn : Nat) : Int)) rfl rfl (by kernel_rfl) (by kernel_rfl) ?_
      by_cases hx3 : ((pn : Nat) : Int) > (50 : Int)
      · refine Wk.rPure 13 (some 32) (.bool true) rfl rfl (by kernel_rfl) (Wk.boolT (b := decide (((pn : Nat) : Int) > (50 : Int))) (decide_eq_true (by first | exact hx3 | omega)) (by kernel_rfl)) ?_
        refine Wk.rPure 14 (some 33) (.bool true) rfl rfl (by kernel_rfl) (by kernel_rfl) ?_
        refine Wk.rEnd 15 rfl ?_
        refine Wk.nxt ?_
        refine wp_cond_true (by kernel_rfl) ?_
        refine wp_seq ?_
        refine Wk.reg ?_
        refine Wk.rCall 0 (some 34) 32 [] #[] [] rfl rfl (by kernel_rfl) rfl (by kernel_rfl) (by kernel_rfl) ?_
        have kk5 : Wk.Chg [] w W1 := Wk.Chg.step ((Wk.Chg.refl _).more (by simp)) ch1 trivial
        refine (known21_any W1 (HV.out.below (Wk.Chg.below0 kk5))).mono ?_
        rintro _ W4 ⟨rfl, ch4⟩
        have zz4 := ch4.size
        refine ⟨_, rfl, ?_⟩
        refine Wk.rPure 1 (some 4) (.bool true) rfl rfl (by kernel_rfl) (by kernel_rfl) ?_
        refine Wk.rEnd 2 rfl ?_
        refine Wk.nxt ?_
        refine wp_ret ?_
        refine Wk.thR ?_
        have kk6 := Wk.Chg.step kk5 ch4 trivial
        refine Wk.ret (.bool true) rfl (by kernel_rfl) ?_
        exact ⟨rfl, Wk.Chg.below0 kk6⟩
      · refine Wk.rPure 13 (some 32) (.bool false) rfl rfl (by kernel_rfl) (Wk.boolF (b := decide (((pn : Nat) : Int) > (50 : Int))) (decide_eq_false (by first | exact hx3 | omega)) (by kernel_rfl)) ?_
        refine Wk.rPure 14 (some 33) (.bool false) rfl rfl (by kernel_rfl) (by kernel_rfl) ?_
        refine Wk.rEnd 15 rfl ?_
        refine Wk.nxt ?_
        refine wp_cond_false (by kernel_rfl) ?_
        refine wp_skip ?_
        refine Wk.nxt ?_
        refine wp_seq ?_
        refine Wk.reg ?_
        refine Wk.rPure 0 (some 36) (.slice A n c) rfl rfl (by kernel_rfl) (by kernel_rfl) ?_
        refine Wk.rCall 1 (some 37) 33 [.tmp 36] #[22] [.slice A n c] rfl rfl (by kernel_rfl) rfl (by kernel_rfl) (by kernel_rfl) ?_
        have kk7 : Wk.Chg [] w W1 := Wk.Chg.step ((Wk.Chg.refl _).more (by simp)) ch1 trivial
        refine (set_any A n c L W1 (Mur.SlA.chg hl kk7 (fun g off e hl => trivial)) _hnc).mono ?_
        rintro _ W5 ⟨gs1, FF1, DA1, dn1, dc1, Z1, rfl, hD1, hdo1, hdc1, hnm1, hcn1, ch5⟩
        have zz5 := ch5.size
        have hM1 := Mur.SetF.mem hD1
        have zz6 := (hM1 _ (Mur.SetF.self hD1))
        have hzl1 := Mur.SetF.len hD1
        have hdl1 := hdo1.len
        have hlt1 : ∀ g_ off_, DA1 = some ⟨g_, off_, none⟩ → g_ ∉ FF1 ∧ W1.heap.size ≤ g_ ∧ g_ < W5.heap.size := hnm1
        refine ⟨_, rfl, ?_⟩
        refine Wk.rPure 2 (some 35) (.tuple #[.pointer (some ⟨gs1, 0, none⟩), .slice DA1 dn1 dc1, .bool true]) rfl rfl (by kernel_rfl) (by kernel_rfl) ?_
        refine Wk.rPure 3 (some 38) (.pointer (some ⟨gs1, 0, none⟩)) rfl rfl (by kernel_rfl) (by kernel_rfl) ?_
        refine Wk.rPure 4 (some 39) (.slice DA1 dn1 dc1) rfl rfl (by kernel_rfl) (by kernel_rfl) ?_
        refine Wk.rPure 5 (some 40) (.bool true) rfl rfl (by kernel_rfl) (by kernel_rfl) ?_
        refine Wk.rPure 6 (some 5) (.pointer (some ⟨gs1, 0, none⟩)) rfl rfl (by kernel_rfl) (by kernel_rfl) ?_
        refine Wk.rPure 7 (some 6) (.slice DA1 dn1 dc1) rfl rfl (by kernel_rfl) (by kernel_rfl) ?_
        refine Wk.rPure 8 (some 7) (.bool true) rfl rfl (by kernel_rfl) (by kernel_rfl) ?_
        refine Wk.rEnd 9 rfl ?_
        refine Wk.nxt ?_
        refine wp_seq ?_
        refine wp_seq ?_
        refine Wk.reg ?_
        refine Wk.rPure 0 (some 41) (.bool true) rfl rfl (by kernel_rfl) (by kernel_rfl) ?_
        refine Wk.rPure 1 (some 42) (.bool false) rfl rfl (by kernel_rfl) (by kernel_rfl) ?_
        refine Wk.rEnd 2 rfl ?_
        refine Wk.nxt ?_
        refine wp_cond_false (by kernel_rfl) ?_
        refine wp_skip ?_
        refine Wk.nxt ?_
        refine wp_seq ?_
        refine Wk.reg ?_
        refine Wk.rPure 0 (some 44) (.pointer (some ⟨gs1, 0, none⟩)) rfl rfl (by kernel_rfl) (by kernel_rfl) ?_
        refine Wk.rPure 1 (some 45) (.agg ((Mur.msgC kd PA pn pc s m B bn bc b).toArray)) rfl rfl (by kernel_rfl) (Mur.loadArr 66 (.tmp 3) rfl _ Tryd.underlying66 rfl w.heap.size (by kernel_rfl) (Mur.msgC kd PA pn pc s m B bn bc b).toArray 37 (Mur.msgC_size hs) (by kernel_rfl) 66 (0, 0) (Wk.Chg.hp ch5 hb1 trivial)) ?_
        refine Wk.rCall 2 (some 46) 36 [.tmp 44, .tmp 45] #[24, 66] [.pointer (some ⟨gs1, 0, none⟩), .agg ((Mur.msgC kd PA pn pc s m B bn bc b).toArray)] rfl rfl (by kernel_rfl) rfl (by kernel_rfl) (by kernel_rfl) ?_
        have kk8 := Wk.Chg.step kk7 ch5 trivial
        refine (Hear_any W1.heap.size Z1 gs1 FF1 kd p PA pn pc s m I B bn bc b W5 (HV.out.below (Wk.Chg.below0 kk8)) hD1 hs (Mur.byt_chg hb kk8 (fun g off e hl => trivial)) hnil (Mur.SlA.chg hlI kk8 (fun g off e hl => trivial)) (by omega) (by omega)).mono ?_
        rintro _ W6 ⟨AA1, nn1, nn2, AA2, nn3, nn4, rfl, ow1, ow2, ch6⟩
        have zz7 := ch6.size
        have hq1 : nn1 ≤ 9223372036854775807 := Nat.le_trans ow1.nc (Nat.le_trans ow1.cm (by unfold Go.maxLen; omega))
        have hq2 : nn3 ≤ 9223372036854775807 := Nat.le_trans ow2.nc (Nat.le_trans ow2.cm (by unfold Go.maxLen; omega))
        have hq3 := ow1.nc
        have hq4 := ow1.cm
        have hq5 := ow1.len
        have hq6 := ow2.nc
        have hq7 := ow2.cm
        have hq8 := ow2.sl.len
        refine ⟨_, rfl, ?_⟩
        refine Wk.rPure 3 (some 43) (.tuple #[.slice AA1 nn1 nn2, .slice AA2 nn3 nn4]) rfl rfl (by kernel_rfl) (by kernel_rfl) ?_
        refine Wk.rPure 4 (some 47) (.slice AA1 nn1 nn2) rfl rfl (by kernel_rfl) (by kernel_rfl) ?_
        refine Wk.rPure 5 (some 48) (.slice AA2 nn3 nn4) rfl rfl (by kernel_rfl) (by kernel_rfl) ?_
        refine Wk.rPure 6 (some 8) (.slice AA1 nn1 nn2) rfl rfl (by kernel_rfl) (by kernel_rfl) ?_
        refine Wk.rPure 7 (some 9) (.slice AA2 nn3 nn4) rfl rfl (by kernel_rfl) (by kernel_rfl) ?_
        refine Wk.rEnd 8 rfl ?_
        refine Wk.nxt ?_
        refine wp_seq ?_
        refine wp_seq ?_
        refine Wk.reg ?_
        refine Wk.rPure 0 (some 49) (.slice AA2 nn3 nn4) rfl rfl (by kernel_rfl) (by kernel_rfl) ?_
        refine Wk.rPure 1 (some 50) (.int .i64 ((nn3 : Nat) : Int)) rfl rfl (by kernel_rfl) (by kernel_rfl) ?_
        refine Wk.rPure 2 (some 51) (.int .i64 0) rfl rfl (by kernel_rfl) (by kernel_rfl) ?_
        refine Wk.rEnd 3 rfl ?_
        refine Wk.nxt ?_
        refine wp_block ?_
        have kk9 := Wk.Chg.step kk8 ch6 trivial
        have hD2 := Mur.SetF.chg hD1 ch6 (fun s hs => trivial)
        refine Wk.loop (fun m_ a wr => ∃ (i : Nat), m_ = nn3 - i ∧ a = LearnG_F1 a.tmps (.pointer (some ⟨w.heap.size, 0, none⟩)) (.pointer (some ⟨gs1, 0, none⟩)) (.slice AA1 nn1 nn2) (.slice AA2 nn3 nn4) (.int .i64 ((nn3 : Nat) : Int)) (.int .i64 ((i : Nat) : Int)) ∧ i ≤ nn3 ∧ Wk.Chg [] W6 wr) (nn3 - 0) ?_ ?_
        · refine ⟨0, rfl, by kernel_rfl, (by omega), (Wk.Chg.refl _)⟩
        · rintro mm1 aa1 W7 ⟨i, hmm1, hF1, hi, HBa⟩
          generalize aa1.tmps = bb1 at hF1
          subst hF1
          have hz1 := HBa.size
          have hB1 := Wk.Chg.step kk9 HBa trivial
          have hD3 := Mur.SetF.chg hD2 HBa (fun _ _ => trivial)
          by_cases hlt : i < nn3
          · have ow3 := Mur.OwnA.chg ow2 HBa (fun _ _ _ _ => trivial)
            obtain ⟨g_x, o_x, rfl, _⟩ := ow3.sl.ex (by omega)
            obtain ⟨x, hx⟩ : ∃ x, (Mur.learnsM Z1 ⟨kd, p, s, m, I, b⟩)[i]? = some x := ⟨_, List.getElem?_eq_getElem (by have := ow3.sl.len; omega)⟩
            obtain ⟨hxI_, hxZ_⟩ := Mur.learns_sub (List.mem_of_getElem? hx)
            refine wp_seq ?_
            refine Wk.reg ?_
            refine Wk.rPure 0 (some 52) (.bool true) rfl rfl (by kernel_rfl) (Wk.boolT (b := decide (((i : Nat) : Int) < ((nn3 : Nat) : Int))) (decide_eq_true (by omega)) (by kernel_rfl)) ?_
            refine Wk.rEnd 1 rfl ?_
            refine Wk.nxt ?_
            refine wp_seq ?_
            refine wp_cond_true (by kernel_rfl) ?_
            refine wp_skip ?_
            refine Wk.nxt ?_
            refine wp_seq ?_
            refine wp_block ?_
            refine wp_seq ?_
            refine Wk.reg ?_
            refine Wk.rPure 0 (some 53) (.pointer (some ⟨g_x, o_x + i * 97, none⟩)) rfl rfl (by kernel_rfl) (Wk.index_sl 22 32 (.tmp 49) (.tmp 51) rfl Tryd.underlying22 97 (by kernel_rfl) g_x o_x nn3 nn4 i .i64 (by kernel_rfl) (by kernel_rfl) (by omega)) ?_
            have ow4 := Mur.OwnA.chg ow2 HBa (fun _ _ _ _ => trivial)
            refine Wk.rPure 1 (some 54) (.agg ((Mur.attC x.k x.r x.n x.t).toArray)) rfl rfl (by kernel_rfl) (Wk.loadR 32 (.tmp 53) rfl _ Tryd.underlying32 rfl g_x (o_x + i * 97) (by kernel_rfl) (Mur.attC x.k x.r x.n x.t) (by rw [Mur.attC_length x.hk x.hr x.ht]; kernel_rfl) (ow4.sl.elem hx)) ?_
            refine Wk.rEx 2 (some 11) _ rfl rfl (by kernel_rfl) (Wk.new_ex (.pointer (some ⟨W7.heap.size, 0, none⟩)) #[.int .u8 0, .int .u8 0, .int .u8 0, .int .u8 0, .int .u8 0, .int .u8 0, .int .u8 0, .int .u8 0, .int .u8 0, .int .u8 0, .int .u8 0, .int .u8 0, .int .u8 0, .int .u8 0, .int .u8 0, .int .u8 0, .int .u8 0, .int .u8 0, .int .u8 0, .int .u8 0, .int .u8 0, .int .u8 0, .int .u8 0, .int .u8 0, .int .u8 0, .int .u8 0, .int .u8 0, .int .u8 0, .int .u8 0, .int .u8 0, .int .u8 0, .int .u8 0, .int .u8 0, .int .u8 0, .int .u8 0, .int .u8 0, .int .u8 0, .int .u8 0, .int .u8 0, .int .u8 0, .int .u8 0, .int .u8 0, .int .u8 0, .int .u8 0, .int .u8 0, .int .u8 0, .int .u8 0, .int .u8 0, .int .u8 0, .int .u8 0, .int .u8 0, .int .u8 0, .int .u8 0, .int .u8 0, .int .u8 0, .int .u8 0, .int .u8 0, .int .u8 0, .int .u8 0, .int .u8 0, .int .u8 0, .int .u8 0, .int .u8 0, .int .u8 0, .int .i64 0, .int .u8 0, .int .u8 0, .int .u8 0, .int .u8 0, .int .u8 0, .int .u8 0, .int .u8 0, .int .u8 0, .int .u8 0, .int .u8 0, .int .u8 0, .int .u8 0, .int .u8 0, .int .u8 0, .int .u8 0, .int .u8 0, .int .u8 0, .int .u8 0, .int .u8 0, .int .u8 0, .int .u8 0, .int .u8 0, .int .u8 0, .int .u8 0, .int .u8 0, .int .u8 0, .int .u8 0, .int .u8 0, .int .u8 0, .int .u8 0, .int .u8 0, .int .u8 0] 32 (by kernel_rfl)) ?_
            rintro _ W8 ⟨rfl, hb2, ch7, sz2⟩
            have zz8 := ch7.size
            rw [← Mur.attC_zero] at hb2
            refine Wk.rExS 3 none _ rfl rfl (by kernel_rfl) (Mur.storeArr 32 (.tmp 11) (.tmp 54) rfl W7.heap.size (by kernel_rfl) (Mur.attC x.k x.r x.n x.t).toArray 97 (Mur.attC_size x.hk x.hr x.ht) Mur.attC_all (by kernel_rfl) (by kernel_rfl) 32 ((Mur.attC Mur.z32 Mur.z32 0 Mur.z32).toArray) hb2 (Mur.attC_size rfl rfl rfl)) ?_
            rintro W10 ⟨hb3, ch8⟩
            have zz9 := ch8.size
            refine Wk.rEnd 4 rfl ?_
            refine Wk.nxt ?_
            refine wp_seq ?_
            refine Wk.reg ?_
            refine Wk.rPure 0 (some 12) (.bool false) rfl rfl (by kernel_rfl) (by kernel_rfl) ?_
            refine Wk.rEnd 1 rfl ?_
            refine Wk.nxt ?_
            refine wp_seq ?_
            refine wp_seq ?_
            refine Wk.reg ?_
            refine Wk.rPure 0 (some 55) (.pointer (some ⟨w.heap.size, 35, none⟩)) rfl rfl (by kernel_rfl) (by kernel_rfl) ?_
            have kk10 := Wk.Chg.step HBa ch7 trivial
            have kk11 := Wk.Chg.step kk10 ch8 ⟨.inr (by omega), trivial⟩
            refine Wk.rPure 1 (some 56) (.slice B bn bc) rfl rfl (by kernel_rfl) (Wk.load1 22 (.tmp 55) rfl (by kernel_rfl) ⟨w.heap.size, 35, none⟩ (by kernel_rfl) (.slice B bn bc) (show World.cell? _ ⟨_, 0 + 35, _⟩ = _ from Mur.msg_items hs (Wk.range_row (Wk.Chg.hp kk11 (Wk.Chg.hp ch6 (Wk.Chg.hp ch5 hb1 trivial) trivial) trivial)))) ?_
            refine Wk.rPure 2 (some 57) (.int .i64 ((bn : Nat) : Int)) rfl rfl (by kernel_rfl) (by kernel_rfl) ?_
            refine Wk.rPure 3 (some 58) (.int .i64 0) rfl rfl (by kernel_rfl) (by kernel_rfl) ?_
            refine Wk.rEnd 4 rfl ?_
            refine Wk.nxt ?_
            refine wp_block ?_
            have kk12 := Wk.Chg.step hB1 ch7 trivial
            have kk13 := Wk.Chg.step kk12 ch8 ⟨.inr (by omega), trivial⟩
            have hD4 := Mur.SetF.chg hD3 ch7 (fun s hs => trivial)
            have hD5 := Mur.SetF.chg hD4 ch8 (fun s hs => ⟨by have := hM1 s hs; omega, trivial⟩)
            have ow5 := Mur.MsgA.chg ow1 kk11 (fun _ _ _ _ => trivial)
            have ow6 := Mur.OwnA.chg ow2 kk11 (fun _ _ _ _ => trivial)
            refine Wk.loop (fun m_ a wr => ∃ (j : Nat) (t : Bool), m_ = bn - j ∧ a = LearnG_F2 a.tmps (.pointer (some ⟨w.heap.size, 0, none⟩)) (.pointer (some ⟨gs1, 0, none⟩)) (.slice AA1 nn1 nn2) (.pointer (some ⟨W7.heap.size, 0, none⟩)) (.bool t) (.slice (some ⟨g_x, o_x, none⟩) nn3 nn4) (.int .i64 ((nn3 : Nat) : Int)) (.int .i64 ((i : Nat) : Int)) (.slice B bn bc) (.int .i64 ((bn : Nat) : Int)) (.int .i64 ((j : Nat) : Int)) ∧ j ≤ bn ∧ (t = true ↔ x ∈ I.take j) ∧ Wk.Chg [] W10 wr) (bn - 0) ?_ ?_
            · refine ⟨0, false, rfl, by kernel_rfl, (by omega), (by simp), (Wk.Chg.refl _)⟩
            · rintro mm2 aa2 W11 ⟨j, t, hmm2, hF2, hj, ht, HBi⟩
              generalize aa2.tmps = bb2 at hF2
              subst hF2
              have hz2 := HBi.size
              have hB2 := Wk.Chg.step kk11 HBi trivial
              have hB3 := Wk.Chg.step kk13 HBi trivial
              have hD6 := Mur.SetF.chg hD5 HBi (fun _ _ => trivial)
              by_cases hltj : j < bn
              · obtain ⟨g_y, o_y, rfl, _⟩ := hlI.ex (by omega)
                obtain ⟨y, hy⟩ : ∃ x, I[j]? = some x := ⟨_, List.getElem?_eq_getElem (by have := hlI.len; omega)⟩
                refine wp_seq ?_
                refine Wk.reg ?_
                refine Wk.rPure 0 (some 59) (.bool true) rfl rfl (by kernel_rfl) (Wk.boolT (b := decide (((j : Nat) : Int) < ((bn : Nat) : Int))) (decide_eq_true (by omega)) (by kernel_rfl)) ?_
                refine Wk.rEnd 1 rfl ?_
                refine Wk.nxt ?_
                refine wp_seq ?_
                refine wp_cond_true (by kernel_rfl) ?_
                refine wp_skip ?_
                refine Wk.nxt ?_
                refine wp_seq ?_
                refine wp_block ?_
                refine wp_seq ?_
                refine Wk.reg ?_
                refine Wk.rPure 0 (some 60) (.pointer (some ⟨g_y, o_y + j * 97, none⟩)) rfl rfl (by kernel_rfl) (Wk.index_sl 22 32 (.tmp 56) (.tmp 58) rfl Tryd.underlying22 97 (by kernel_rfl) g_y o_y bn bc j .i64 (by kernel_rfl) (by kernel_rfl) (by omega)) ?_
                refine Wk.rPure 1 (some 61) (.agg ((Mur.attC y.k y.r y.n y.t).toArray)) rfl rfl (by kernel_rfl) (Wk.loadR 32 (.tmp 60) rfl _ Tryd.underlying32 rfl g_y (o_y + j * 97) (by kernel_rfl) (Mur.attC y.k y.r y.n y.t) (by rw [Mur.attC_length y.hk y.hr y.ht]; kernel_rfl) ((Mur.SlA.chg (Mur.SlA.chg (Mur.SlA.chg hlI kk9 (fun g off e hl => trivial)) kk11 (fun g off e hl => trivial)) HBi (fun g off e hl => trivial)).elem hy)) ?_
                refine Wk.rEx 2 (some 14) _ rfl rfl (by kernel_rfl) (Wk.new_ex (.pointer (some ⟨W11.heap.size, 0, none⟩)) #[.int .u8 0, .int .u8 0, .int .u8 0, .int .u8 0, .int .u8 0, .int .u8 0, .int .u8 0, .int .u8 0, .int .u8 0, .int .u8 0, .int .u8 0, .int .u8 0, .int .u8 0, .int .u8 0, .int .u8 0, .int .u8 0, .int .u8 0, .int .u8 0, .int .u8 0, .int .u8 0, .int .u8 0, .int .u8 0, .int .u8 0, .int .u8 0, .int .u8 0, .int .u8 0, .int .u8 0, .int .u8 0, .int .u8 0, .int .u8 0, .int .u8 0, .int .u8 0, .int .u8 0, .int .u8 0, .int .u8 0, .int .u8 0, .int .u8 0, .int .u8 0, .int .u8 0, .int .u8 0, .int .u8 0, .int .u8 0, .int .u8 0, .int .u8 0, .int .u8 0, .int .u8 0, .int .u8 0, .int .u8 0, .int .u8 0, .int .u8 0, .int .u8 0, .int .u8 0, .int .u8 0, .int .u8 0, .int .u8 0, .int .u8 0, .int .u8 0, .int .u8 0, .int .u8 0, .int .u8 0, .int .u8 0, .int .u8 0, .int .u8 0, .int .u8 0, .int .i64 0, .int .u8 0, .int .u8 0, .int .u8 0, .int .u8 0, .int .u8 0, .int .u8 0, .int .u8 0, .int .u8 0, .int .u8 0, .int .u8 0, .int .u8 0, .int .u8 0, .int .u8 0, .int .u8 0, .int .u8 0, .int .u8 0, .int .u8 0, .int .u8 0, .int .u8 0, .int .u8 0, .int .u8 0, .int .u8 0, .int .u8 0, .int .u8 0, .int .u8 0, .int .u8 0, .int .u8 0, .int .u8 0, .int .u8 0, .int .u8 0, .int .u8 0, .int .u8 0] 32 (by kernel_rfl)) ?_
                rintro _ W12 ⟨rfl, hb4, ch9, sz3⟩
                have zz10 := ch9.size
                rw [← Mur.attC_zero] at hb4
                refine Wk.rExS 3 none _ rfl rfl (by kernel_rfl) (Mur.storeArr 32 (.tmp 14) (.tmp 61) rfl W11.heap.size (by kernel_rfl) (Mur.attC y.k y.r y.n y.t).toArray 97 (Mur.attC_size y.hk y.hr y.ht) Mur.attC_all (by kernel_rfl) (by kernel_rfl) 32 ((Mur.attC Mur.z32 Mur.z32 0 Mur.z32).toArray) hb4 (Mur.attC_size rfl rfl rfl)) ?_
                rintro W13 ⟨hb5, ch10⟩
                have zz11 := ch10.size
                refine Wk.rEnd 4 rfl ?_
                refine Wk.nxt ?_
                refine Wk.reg ?_
                refine Wk.rPure 0 (some 62) (.bool t) rfl rfl (by kernel_rfl) (by kernel_rfl) ?_
                refine Wk.rPure 1 (some 63) (.bool t) rfl rfl (by kernel_rfl) (by kernel_rfl) ?_
                cases t
                · refine Wk.rPure 2 (some 64) (.agg ((Mur.attC y.k y.r y.n y.t).toArray)) rfl rfl (by kernel_rfl) (Mur.loadArr 32 (.tmp 14) rfl _ Tryd.underlying32 rfl W11.heap.size (by kernel_rfl) (Mur.attC y.k y.r y.n y.t).toArray 97 (Mur.attC_size y.hk y.hr y.ht) (by kernel_rfl) 32 (0, 0) hb5) ?_
                  have kk14 := Wk.Chg.step HBi ch9 trivial
                  have kk15 := Wk.Chg.step kk14 ch10 ⟨.inr (by omega), trivial⟩
                  refine Wk.rPure 3 (some 65) (.agg ((Mur.attC x.k x.r x.n x.t).toArray)) rfl rfl (by kernel_rfl) (Mur.loadArr 32 (.tmp 11) rfl _ Tryd.underlying32 rfl W7.heap.size (by kernel_rfl) (Mur.attC x.k x.r x.n x.t).toArray 97 (Mur.attC_size x.hk x.hr x.ht) (by kernel_rfl) 32 (0, 0) (Wk.Chg.hp kk15 hb3 trivial)) ?_
                  by_cases hatt1 : y.k = x.k ∧ y.r = x.r ∧ y.n = x.n ∧ y.t = x.t
                  · refine Wk.rPure 4 (some 66) (.bool true) rfl rfl (by kernel_rfl) (Wk.boolT (b := decide (y.k = x.k ∧ y.r = x.r ∧ y.n = x.n ∧ y.t = x.t)) (decide_eq_true (hatt1)) (run_eql_att (.tmp 64) (.tmp 65) 32 rfl y.hk y.hr y.ht x.hk x.hr x.ht y.hn x.hn (by kernel_rfl) (by kernel_rfl))) ?_
                    refine Wk.rPure 5 (some 67) (.bool true) rfl rfl (by kernel_rfl) (by kernel_rfl) ?_
                    refine Wk.rPure 6 (some 12) (.bool true) rfl rfl (by kernel_rfl) (by kernel_rfl) ?_
                    refine Wk.rEnd 7 rfl ?_
                    refine Wk.inN ?_
                    refine Wk.nxt ?_
                    refine Wk.reg ?_
                    refine Wk.rPure 0 (some 68) (.int .i64 ((j + 1 : Nat) : Int)) rfl rfl (by kernel_rfl) (Wk.int64 (n := ((j : Nat) : Int) + 1) (z := ((j + 1 : Nat) : Int)) (by omega) (by omega) (by omega) (by kernel_rfl)) ?_
                    refine Wk.rPure 1 (some 58) (.int .i64 ((j + 1 : Nat) : Int)) rfl rfl (by kernel_rfl) (by kernel_rfl) ?_
                    refine Wk.rEnd 2 rfl ?_
                    refine Wk.nxt ?_
                    refine ⟨_, ?_, j + 1, true, rfl, by kernel_rfl, (by omega), ⟨fun _ => Mur.told_in hy (.inr ((Mur.Att.eq_iff y x).2 hatt1)), fun _ => rfl⟩, kk15⟩
                    · omega
                  · refine Wk.rPure 4 (some 66) (.bool false) rfl rfl (by kernel_rfl) (Wk.boolF (b := decide (y.k = x.k ∧ y.r = x.r ∧ y.n = x.n ∧ y.t = x.t)) (decide_eq_false (hatt1)) (run_eql_att (.tmp 64) (.tmp 65) 32 rfl y.hk y.hr y.ht x.hk x.hr x.ht y.hn x.hn (by kernel_rfl) (by kernel_rfl))) ?_
                    refine Wk.rPure 5 (some 67) (.bool false) rfl rfl (by kernel_rfl) (by kernel_rfl) ?_
                    refine Wk.rPure 6 (some 12) (.bool false) rfl rfl (by kernel_rfl) (by kernel_rfl) ?_
                    refine Wk.rEnd 7 rfl ?_
                    refine Wk.inN ?_
                    refine Wk.nxt ?_
                    refine Wk.reg ?_
                    refine Wk.rPure 0 (some 68) (.int .i64 ((j + 1 : Nat) : Int)) rfl rfl (by kernel_rfl) (Wk.int64 (n := ((j : Nat) : Int) + 1) (z := ((j + 1 : Nat) : Int)) (by omega) (by omega) (by omega) (by kernel_rfl)) ?_
                    refine Wk.rPure 1 (some 58) (.int .i64 ((j + 1 : Nat) : Int)) rfl rfl (by kernel_rfl) (by kernel_rfl) ?_
                    refine Wk.rEnd 2 rfl ?_
                    refine Wk.nxt ?_
                    refine ⟨_, ?_, j + 1, false, rfl, by kernel_rfl, (by omega), ⟨fun h_ => (by cases h_), fun h_ => absurd h_ (Mur.told_no hy (fun k_ => absurd (ht.2 k_) (by decide)) (fun e_ => hatt1 ((Mur.Att.eq_iff y x).1 e_)))⟩, kk15⟩
                    · omega
                · refine Wk.rPass 2 (some 64) rfl rfl (by kernel_rfl) ?_
                  refine Wk.rPass 3 (some 65) rfl rfl (by kernel_rfl) ?_
                  refine Wk.rPass 4 (some 66) rfl rfl (by kernel_rfl) ?_
                  refine Wk.rPure 5 (some 67) (.bool true) rfl rfl (by kernel_rfl) (by kernel_rfl) ?_
                  refine Wk.rPure 6 (some 12) (.bool true) rfl rfl (by kernel_rfl) (by kernel_rfl) ?_
                  refine Wk.rEnd 7 rfl ?_
                  refine Wk.inN ?_
                  refine Wk.nxt ?_
                  refine Wk.reg ?_
                  refine Wk.rPure 0 (some 68) (.int .i64 ((j + 1 : Nat) : Int)) rfl rfl (by kernel_rfl) (Wk.int64 (n := ((j : Nat) : Int) + 1) (z := ((j + 1 : Nat) : Int)) (by omega) (by omega) (by omega) (by kernel_rfl)) ?_
                  refine Wk.rPure 1 (some 58) (.int .i64 ((j + 1 : Nat) : Int)) rfl rfl (by kernel_rfl) (by kernel_rfl) ?_
                  refine Wk.rEnd 2 rfl ?_
                  refine Wk.nxt ?_
                  have kk16 := Wk.Chg.step HBi ch9 trivial
                  have kk17 := Wk.Chg.step kk16 ch10 ⟨.inr (by omega), trivial⟩
                  refine ⟨_, ?_, j + 1, true, rfl, by kernel_rfl, (by omega), ⟨fun _ => Mur.told_in hy (.inl (ht.1 rfl)), fun _ => rfl⟩, kk17⟩
                  · omega
              · obtain rfl : t = true := ht.2 (by rw [List.take_of_length_le (show I.length ≤ j by have := hlI.len; omega)]; exact hxI_)
                refine wp_seq ?_
                refine Wk.reg ?_
                refine Wk.rPure 0 (some 59) (.bool false) rfl rfl (by kernel_rfl) (Wk.boolF (b := decide (((j : Nat) : Int) < ((bn : Nat) : Int))) (decide_eq_false (by omega)) (by kernel_rfl)) ?_
                refine Wk.rEnd 1 rfl ?_
                refine Wk.nxt ?_
                refine wp_seq ?_
                refine wp_cond_false (by kernel_rfl) ?_
                refine wp_exit ?_
                refine Wk.thX ?_
                refine Wk.thX ?_
                refine Wk.inX ?_
                refine Wk.nxt ?_
                refine wp_seq ?_
                refine Wk.reg ?_
                refine Wk.rPure 0 (some 69) (.bool true) rfl rfl (by kernel_rfl) (by kernel_rfl) ?_
                refine Wk.rPure 1 (some 70) (.bool false) rfl rfl (by kernel_rfl) (by kernel_rfl) ?_
                refine Wk.rPure 2 (some 71) (.bool false) rfl rfl (by kernel_rfl) (by kernel_rfl) ?_
                refine Wk.rPure 3 (some 72) (.pointer (some ⟨gs1, 0, none⟩)) rfl rfl (by kernel_rfl) (by kernel_rfl) ?_
                refine Wk.rPure 4 (some 73) (.agg ((Mur.attC x.k x.r x.n x.t).toArray)) rfl rfl (by kernel_rfl) (Mur.loadArr 32 (.tmp 11) rfl _ Tryd.underlying32 rfl W7.heap.size (by kernel_rfl) (Mur.attC x.k x.r x.n x.t).toArray 97 (Mur.attC_size x.hk x.hr x.ht) (by kernel_rfl) 32 (0, 0) (Wk.Chg.hp HBi hb3 trivial)) ?_
                refine Wk.rCall 5 (some 74) 24 [.tmp 72, .tmp 73] #[24, 32] [.pointer (some ⟨gs1, 0, none⟩), .agg ((Mur.attC x.k x.r x.n x.t).toArray)] rfl rfl (by kernel_rfl) rfl (by kernel_rfl) (by kernel_rfl) ?_
                refine (Has_any W1.heap.size Z1 gs1 FF1 x W11 hD6).mono ?_
                rw [decide_eq_false hxZ_]
                rintro _ W14 ⟨rfl, ch11⟩
                have zz12 := ch11.size
                refine ⟨_, rfl, ?_⟩
                refine Wk.rPure 6 (some 75) (.bool false) rfl rfl (by kernel_rfl) (by kernel_rfl) ?_
                refine Wk.rEnd 7 rfl ?_
                refine Wk.nxt ?_
                refine wp_cond_false (by kernel_rfl) ?_
                refine wp_skip ?_
                refine Wk.inN ?_
                refine Wk.nxt ?_
                refine Wk.reg ?_
                refine Wk.rPure 0 (some 76) (.int .i64 ((i + 1 : Nat) : Int)) rfl rfl (by kernel_rfl) (Wk.int64 (n := ((i : Nat) : Int) + 1) (z := ((i + 1 : Nat) : Int)) (by omega) (by omega) (by omega) (by kernel_rfl)) ?_
                refine Wk.rPure 1 (some 51) (.int .i64 ((i + 1 : Nat) : Int)) rfl rfl (by kernel_rfl) (by kernel_rfl) ?_
                refine Wk.rEnd 2 rfl ?_
                refine Wk.nxt ?_
                have kk18 := Wk.Chg.step hB2 ch11 trivial
                refine ⟨_, ?_, i + 1, rfl, by kernel_rfl, (by omega), kk18⟩
                · omega
          · refine wp_seq ?_
            refine Wk.reg ?_
            refine Wk.rPure 0 (some 52) (.bool false) rfl rfl (by kernel_rfl) (Wk.boolF (b := decide (((i : Nat) : Int) < ((nn3 : Nat) : Int))) (decide_eq_false (by omega)) (by kernel_rfl)) ?_
            refine Wk.rEnd 1 rfl ?_
            refine Wk.nxt ?_
            refine wp_seq ?_
            refine wp_cond_false (by kernel_rfl) ?_
            refine wp_exit ?_
            refine Wk.thX ?_
            refine Wk.thX ?_
            refine Wk.inX ?_
            refine Wk.nxt ?_
            refine wp_seq ?_
            refine wp_seq ?_
            refine Wk.reg ?_
            refine Wk.rPure 0 (some 77) (.slice AA1 nn1 nn2) rfl rfl (by kernel_rfl) (by kernel_rfl) ?_
            refine Wk.rPure 1 (some 78) (.int .i64 ((nn1 : Nat) : Int)) rfl rfl (by kernel_rfl) (by kernel_rfl) ?_
            refine Wk.rPure 2 (some 79) (.int .i64 0) rfl rfl (by kernel_rfl) (by kernel_rfl) ?_
            refine Wk.rEnd 3 rfl ?_
            refine Wk.nxt ?_
            refine wp_block ?_
            have ow7 := Mur.MsgA.chg ow1 HBa (fun _ _ _ _ => trivial)
            have ow8 := Mur.OwnA.chg ow2 HBa (fun _ _ _ _ => trivial)
            refine Wk.loop (fun m_ a wr => ∃ (i : Nat), m_ = nn1 - i ∧ a = LearnG_F3 a.tmps (.pointer (some ⟨w.heap.size, 0, none⟩)) (.pointer (some ⟨gs1, 0, none⟩)) (.slice AA1 nn1 nn2) (.int .i64 ((nn1 : Nat) : Int)) (.int .i64 ((i : Nat) : Int)) ∧ i ≤ nn1 ∧ Wk.Chg [] W7 wr) (nn1 - 0) ?_ ?_
            · refine ⟨0, rfl, by kernel_rfl, (by omega), (Wk.Chg.refl _)⟩
            · rintro mm3 aa3 W15 ⟨i, hmm3, hF3, hi, HBb⟩
              generalize aa3.tmps = bb3 at hF3
              subst hF3
              have hz3 := HBb.size
              have hB4 := Wk.Chg.step HBa HBb trivial
              have hB5 := Wk.Chg.step hB1 HBb trivial
              have hD7 := Mur.SetF.chg hD3 HBb (fun _ _ => trivial)
              by_cases hlt : i < nn1
              · have ow9 := Mur.MsgA.chg ow7 HBb (fun _ _ _ _ => trivial)
                obtain ⟨mm, hmm⟩ : ∃ m_, ((Mur.repliesM Z1 ⟨kd, p, s, m, I, b⟩))[i]? = some m_ := ⟨_, List.getElem?_eq_getElem (by have := ow9.len; omega)⟩
                obtain ⟨hx1_, ⟨qq, hx2_⟩, hx3_⟩ := Mur.replies_ok (Mur.SetF.srt hD7) (Mur.SetF.len hD7) (Mur.SetF.ok hD7) (List.mem_of_getElem? hmm)
                have hx2l_ : mm.pre.length = p.length + qq.length := by rw [hx2_, List.length_append]
                have hx1l_ := Mur.pre_len hx1_.1
                have hx1i_ := hx1_.2.2.2.1
                have ow10 := Mur.MsgA.chg ow7 HBb (fun _ _ _ _ => trivial)
                obtain ⟨⟨kd1, PA1, np1, cp1, sm_, cn_, QA1, nq1, cq1, an_, hsm1⟩, gm1, hA1, hrg1, ⟨rfl, rfl, rfl, rfl, hby1, hsl1, hnp1, hnq1, hac1, hpc1⟩, hgb1, hsb1⟩ := Mur.MsgA.row0 ow10 hmm
                replace hsm1 : (mm.sum).length = 32 := hsm1
                replace hrg1 : W15.rangeAt gm1 (0 + i * 37) (msgC mm.kind PA1 np1 cp1 mm.sum mm.cnt QA1 nq1 cq1 mm.ans) := hrg1
                replace hby1 : Byt W15 PA1 np1 mm.pre := hby1
                replace hsl1 : SlA W15 QA1 nq1 mm.items := hsl1
                replace hnp1 : PA1 = none → cp1 = 0 := hnp1
                replace hac1 : nq1 ≤ cq1 ∧ cq1 ≤ 9223372036854775807 := hac1
                replace hpc1 : np1 ≤ cp1 ∧ cp1 ≤ 9223372036854775807 := hpc1
                have hlp1 : ∀ g_ off_, PA1 = some ⟨g_, off_, none⟩ → 0 < np1 → W5.heap.size ≤ g_ ∧ g_ < W15.heap.size := fun g_ off_ e_ hn_ => hsb1 g_ (List.mem_append_left _ (Mur.pblk_mem e_ hn_))
                have hlq1 : ∀ g_ off_, QA1 = some ⟨g_, off_, none⟩ → 0 < nq1 → W5.heap.size ≤ g_ ∧ g_ < W15.heap.size := fun g_ off_ e_ hn_ => hsb1 g_ (List.mem_append_right _ (Mur.pblk_mem e_ hn_))
                have hpl1 := hby1.1
                have hil1 := hsl1.len
                subst hA1
                refine wp_seq ?_
                refine Wk.reg ?_
                refine Wk.rPure 0 (some 80) (.bool true) rfl rfl (by kernel_rfl) (Wk.boolT (b := decide (((i : Nat) : Int) < ((nn1 : Nat) : Int))) (decide_eq_true (by omega)) (by kernel_rfl)) ?_
                refine Wk.rEnd 1 rfl ?_
                refine Wk.nxt ?_
                refine wp_seq ?_
                refine wp_cond_true (by kernel_rfl) ?_
                refine wp_skip ?_
                refine Wk.nxt ?_
                refine wp_seq ?_
                refine wp_block ?_
                refine wp_seq ?_
                refine Wk.reg ?_
                refine Wk.rPure 0 (some 81) (.pointer (some ⟨gm1, 0 + i * 37, none⟩)) rfl rfl (by kernel_rfl) (Wk.index_sl 67 66 (.tmp 77) (.tmp 79) rfl Tryd.underlying67 37 (by kernel_rfl) gm1 0 nn1 nn2 i .i64 (by kernel_rfl) (by kernel_rfl) (by omega)) ?_
                refine Wk.rPure 1 (some 82) (.agg ((Mur.msgC mm.kind PA1 np1 cp1 mm.sum mm.cnt QA1 nq1 cq1 mm.ans).toArray)) rfl rfl (by kernel_rfl) (Wk.loadR 66 (.tmp 81) rfl _ Tryd.underlying66 rfl gm1 (0 + i * 37) (by kernel_rfl) (Mur.msgC mm.kind PA1 np1 cp1 mm.sum mm.cnt QA1 nq1 cq1 mm.ans) (by rw [Mur.msgC_length hsm1]; kernel_rfl) hrg1) ?_
                refine Wk.rEx 2 (some 16) _ rfl rfl (by kernel_rfl) (Wk.new_ex (.pointer (some ⟨W15.heap.size, 0, none⟩)) #[.int .u8 0, .slice none 0 0, .int .u8 0, .int .u8 0, .int .u8 0, .int .u8 0, .int .u8 0, .int .u8 0, .int .u8 0, .int .u8 0, .int .u8 0, .int .u8 0, .int .u8 0, .int .u8 0, .int .u8 0, .int .u8 0, .int .u8 0, .int .u8 0, .int .u8 0, .int .u8 0, .int .u8 0, .int .u8 0, .int .u8 0, .int .u8 0, .int .u8 0, .int .u8 0, .int .u8 0, .int .u8 0, .int .u8 0, .int .u8 0, .int .u8 0, .int .u8 0, .int .u8 0, .int .u8 0, .int .i64 0, .slice none 0 0, .bool false] 66 (by kernel_rfl)) ?_
                rintro _ W16 ⟨rfl, hb6, ch12, sz4⟩
                have zz13 := ch12.size
                refine Wk.rExS 3 none _ rfl rfl (by kernel_rfl) (Mur.storeArr 66 (.tmp 16) (.tmp 82) rfl W15.heap.size (by kernel_rfl) (Mur.msgC mm.kind PA1 np1 cp1 mm.sum mm.cnt QA1 nq1 cq1 mm.ans).toArray 37 (Mur.msgC_size hsm1) Mur.msgC_all (by kernel_rfl) (by kernel_rfl) 66 #[.int .u8 0, .slice none 0 0, .int .u8 0, .int .u8 0, .int .u8 0, .int .u8 0, .int .u8 0, .int .u8 0, .int .u8 0, .int .u8 0, .int .u8 0, .int .u8 0, .int .u8 0, .int .u8 0, .int .u8 0, .int .u8 0, .int .u8 0, .int .u8 0, .int .u8 0, .int .u8 0, .int .u8 0, .int .u8 0, .int .u8 0, .int .u8 0, .int .u8 0, .int .u8 0, .int .u8 0, .int .u8 0, .int .u8 0, .int .u8 0, .int .u8 0, .int .u8 0, .int .u8 0, .int .u8 0, .int .i64 0, .slice none 0 0, .bool false] hb6 (by kernel_rfl)) ?_
                rintro W17 ⟨hb7, ch13⟩
                have zz14 := ch13.size
                refine Wk.rEnd 4 rfl ?_
                refine Wk.nxt ?_
                refine wp_seq ?_
                refine wp_seq ?_
                refine Wk.dReg ([]) (by kernel_rfl) ?_
                intro W18 ch14 sz5
                have zz15 := ch14.size
                have sS1 : Wk.Chg ([]) W18 W18 := (Wk.Chg.refl _).more (by simp)
                refine Wk.dVal 0 (some 83) (.agg ((Mur.msgC mm.kind PA1 np1 cp1 mm.sum mm.cnt QA1 nq1 cq1 mm.ans).toArray)) rfl rfl (by kernel_rfl) (by kernel_rfl) (by kernel_rfl) (fun _ _ _ h => h) (by kernel_rfl) (fun w' hw' => (Mur.loadArr 66 (.tmp 16) rfl _ Tryd.underlying66 rfl W15.heap.size (by kernel_rfl) (Mur.msgC mm.kind PA1 np1 cp1 mm.sum mm.cnt QA1 nq1 cq1 mm.ans).toArray 37 (Mur.msgC_size hsm1) (by kernel_rfl) 66 (0, 0) (Wk.Chg.hp hw' (Wk.Chg.hp ch14 hb7 trivial) trivial))) sS1 ?_
                refine Wk.dOp 1 (by kernel_rfl) ?_
                refine Wk.oCall (some 84) 37 [.tmp 83] #[66] [.agg ((Mur.msgC mm.kind PA1 np1 cp1 mm.sum mm.cnt QA1 nq1 cq1 mm.ans).toArray)] rfl rfl (by kernel_rfl) rfl (by kernel_rfl) (by kernel_rfl) ?_
                refine (May_any mm.kind mm.pre PA1 np1 cp1 mm.sum mm.cnt mm.items QA1 nq1 cq1 mm.ans W18 hsm1 (Mur.byt_chgp (Mur.byt_chgp (Mur.byt_chgp hby1 ch12 (fun g off e hn hl => trivial)) ch13 (fun g off e hn hl => ⟨by have := hlp1 g off e hn; omega, trivial⟩)) ch14 (fun g off e hn hl => trivial)) (Mur.SlA.chgp (Mur.SlA.chgp (Mur.SlA.chgp hsl1 ch12 (fun g off e hn hl => trivial)) ch13 (fun g off e hn hl => ⟨by have := hlq1 g off e hn; omega, trivial⟩)) ch14 (fun g off e hn hl => trivial)) (by omega) (by omega)).mono ?_
                rintro _ W19 ⟨vv1, rfl, hvm1, ch15⟩
                have zz16 := ch15.size
                cases vv1
                · exact absurd (hvm1.2 hx1_) (by decide)
                · have hmay1 : Mur.mayM ⟨mm.kind, mm.pre, mm.sum, mm.cnt, mm.items, mm.ans⟩ := hvm1.1 rfl
                  have sS2 := Wk.Chg.step sS1 ch15 trivial
                  refine ⟨_, rfl, sS2, ?_⟩
                  refine Wk.dVal 2 (some 85) (.bool false) rfl rfl (by kernel_rfl) (by kernel_rfl) (by kernel_rfl) (fun _ _ _ h => h) (by kernel_rfl) (fun w' hw' => by kernel_rfl) sS2 ?_
                  refine Wk.dVal 3 (some 86) (.bool false) rfl rfl (by kernel_rfl) (by kernel_rfl) (by kernel_rfl) (fun _ _ _ h => h) (by kernel_rfl) (fun w' hw' => by kernel_rfl) sS2 ?_
                  refine Wk.dVal 4 (some 87) (.pointer (some ⟨W15.heap.size, 1, none⟩)) rfl rfl (by kernel_rfl) (by kernel_rfl) (by kernel_rfl) (fun _ _ _ h => h) (by kernel_rfl) (fun w' hw' => by kernel_rfl) sS2 ?_
                  refine Wk.dVal 5 (some 88) (.slice PA1 np1 cp1) rfl rfl (by kernel_rfl) (by kernel_rfl) (by kernel_rfl) (fun _ _ _ h => h) (by kernel_rfl) (fun w' hw' => (Wk.load1 38 (.tmp 87) rfl (by kernel_rfl) ⟨W15.heap.size, 1, none⟩ (by kernel_rfl) (.slice PA1 np1 cp1) (show World.cell? _ ⟨_, 0 + 1, _⟩ = _ from Mur.msg_pre (Wk.range_row (Wk.Chg.hp hw' (Wk.Chg.hp ch14 hb7 trivial) trivial))))) sS2 ?_
                  refine Wk.dVal 6 (some 89) (.int .i64 ((np1 : Nat) : Int)) rfl rfl (by kernel_rfl) (by kernel_rfl) (by kernel_rfl) (fun _ _ _ h => h) (by kernel_rfl) (fun w' hw' => by kernel_rfl) sS2 ?_
                  refine Wk.dVal 7 (some 90) (.pointer (some ⟨w.heap.size, 1, none⟩)) rfl rfl (by kernel_rfl) (by kernel_rfl) (by kernel_rfl) (fun _ _ _ h => h) (by kernel_rfl) (fun w' hw' => by kernel_rfl) sS2 ?_
                  have kk19 := Wk.Chg.step HBb ch12 trivial
                  have kk20 := Wk.Chg.step kk19 ch13 ⟨.inr (by omega), trivial⟩
                  have kk21 := Wk.Chg.step kk20 ch14 trivial
                  refine Wk.dVal 8 (some 91) (.slice PA pn pc) rfl rfl (by kernel_rfl) (by kernel_rfl) (by kernel_rfl) (fun _ _ _ h => h) (by kernel_rfl) (fun w' hw' => (Wk.load1 38 (.tmp 90) rfl (by kernel_rfl) ⟨w.heap.size, 1, none⟩ (by kernel_rfl) (.slice PA pn pc) (show World.cell? _ ⟨_, 0 + 1, _⟩ = _ from Mur.msg_pre (Wk.range_row (Wk.Chg.hp hw' (Wk.Chg.hp kk21 (Wk.Chg.hp HBa (Wk.Chg.hp ch6 (Wk.Chg.hp ch5 hb1 trivial) trivial) trivial) trivial) trivial))))) sS2 ?_
                  refine Wk.dVal 9 (some 92) (.int .i64 ((pn : Nat) : Int)) rfl rfl (by kernel_rfl) (by kernel_rfl) (by kernel_rfl) (fun _ _ _ h => h) (by kernel_rfl) (fun w' hw' => by kernel_rfl) sS2 ?_
                  refine Wk.dVal 10 (some 93) (.bool false) rfl rfl (by kernel_rfl) (by kernel_rfl) (by kernel_rfl) (fun _ _ _ h => h) (by kernel_rfl) (fun w' hw' => (Wk.boolF (b := decide (((np1 : Nat) : Int) < ((pn : Nat) : Int))) (decide_eq_false (by omega)) (by kernel_rfl))) sS2 ?_
                  refine Wk.dVal 11 (some 94) (.bool false) rfl rfl (by kernel_rfl) (by kernel_rfl) (by kernel_rfl) (fun _ _ _ h => h) (by kernel_rfl) (fun w' hw' => by kernel_rfl) sS2 ?_
                  refine Wk.dVal 12 (some 95) (.bool false) rfl rfl (by kernel_rfl) (by kernel_rfl) (by kernel_rfl) (fun _ _ _ h => h) (by kernel_rfl) (fun w' hw' => by kernel_rfl) sS2 ?_
                  refine Wk.dVal 13 (some 96) (.pointer (some ⟨W15.heap.size, 1, none⟩)) rfl rfl (by kernel_rfl) (by kernel_rfl) (by kernel_rfl) (fun _ _ _ h => h) (by kernel_rfl) (fun w' hw' => by kernel_rfl) sS2 ?_
                  refine Wk.dVal 14 (some 97) (.slice PA1 np1 cp1) rfl rfl (by kernel_rfl) (by kernel_rfl) (by kernel_rfl) (fun _ _ _ h => h) (by kernel_rfl) (fun w' hw' => (Wk.load1 38 (.tmp 96) rfl (by kernel_rfl) ⟨W15.heap.size, 1, none⟩ (by kernel_rfl) (.slice PA1 np1 cp1) (show World.cell? _ ⟨_, 0 + 1, _⟩ = _ from Mur.msg_pre (Wk.range_row (Wk.Chg.hp hw' (Wk.Chg.hp ch14 hb7 trivial) trivial))))) sS2 ?_
                  refine Wk.dVal 15 (some 98) (.pointer (some ⟨w.heap.size, 1, none⟩)) rfl rfl (by kernel_rfl) (by kernel_rfl) (by kernel_rfl) (fun _ _ _ h => h) (by kernel_rfl) (fun w' hw' => by kernel_rfl) sS2 ?_
                  refine Wk.dVal 16 (some 99) (.slice PA pn pc) rfl rfl (by kernel_rfl) (by kernel_rfl) (by kernel_rfl) (fun _ _ _ h => h) (by kernel_rfl) (fun w' hw' => (Wk.load1 38 (.tmp 98) rfl (by kernel_rfl) ⟨w.heap.size, 1, none⟩ (by kernel_rfl) (.slice PA pn pc) (show World.cell? _ ⟨_, 0 + 1, _⟩ = _ from Mur.msg_pre (Wk.range_row (Wk.Chg.hp hw' (Wk.Chg.hp kk21 (Wk.Chg.hp HBa (Wk.Chg.hp ch6 (Wk.Chg.hp ch5 hb1 trivial) trivial) trivial) trivial) trivial))))) sS2 ?_
                  refine Wk.dVal 17 (some 100) (.int .i64 ((pn : Nat) : Int)) rfl rfl (by kernel_rfl) (by kernel_rfl) (by kernel_rfl) (fun _ _ _ h => h) (by kernel_rfl) (fun w' hw' => by kernel_rfl) sS2 ?_
                  have hcu1 : ∀ w_, Byt w_ PA1 np1 mm.pre → Byt w_ (Mur.cutA PA1 cp1 0) pn p := fun w_ h_ => by have k_ := Mur.byt_to (c := cp1) h_ pn (by omega) (by omega); rwa [show mm.pre.take pn = p by rw [hx2_, List.take_left' (by omega)]] at k_
                  refine Wk.dVal 18 (some 101) (.slice (Mur.cutA PA1 cp1 0) pn cp1) rfl rfl (by kernel_rfl) (by kernel_rfl) (by kernel_rfl) (fun _ _ _ h => h) (by kernel_rfl) (fun w' hw' => (Mur.run_op_cut_to 38 (.tmp 97) (.tmp 100) rfl 5 Tryd.underlying38 (by kernel_rfl) PA1 np1 cp1 pn (by kernel_rfl) (by kernel_rfl) (by omega) (by omega))) sS2 ?_
                  refine Wk.dVal 19 (some 102) (.string (Mur.str p)) rfl rfl (by kernel_rfl) (by kernel_rfl) (by kernel_rfl) (fun _ _ _ h => h) (by kernel_rfl) (fun w' hw' => (Mur.run_str 38 9 (.tmp 101) 5 rfl Tryd.underlying38 Tryd.underlying5 Tryd.underlying9 (Mur.cutA PA1 cp1 0) pn cp1 p (by kernel_rfl) (hcu1 _ (Mur.byt_chgp (Mur.byt_chgp (Mur.byt_chgp (Mur.byt_chgp hby1 ch12 (fun g off e hn hl => trivial)) ch13 (fun g off e hn hl => ⟨by have := hlp1 g off e hn; omega, trivial⟩)) ch14 (fun g off e hn hl => trivial)) hw' (fun g off e hn hl => trivial))))) sS2 ?_
                  refine Wk.dVal 20 (some 103) (.pointer (some ⟨w.heap.size, 1, none⟩)) rfl rfl (by kernel_rfl) (by kernel_rfl) (by kernel_rfl) (fun _ _ _ h => h) (by kernel_rfl) (fun w' hw' => by kernel_rfl) sS2 ?_
                  refine Wk.dVal 21 (some 104) (.slice PA pn pc) rfl rfl (by kernel_rfl) (by kernel_rfl) (by kernel_rfl) (fun _ _ _ h => h) (by kernel_rfl) (fun w' hw' => (Wk.load1 38 (.tmp 103) rfl (by kernel_rfl) ⟨w.heap.size, 1, none⟩ (by kernel_rfl) (.slice PA pn pc) (show World.cell? _ ⟨_, 0 + 1, _⟩ = _ from Mur.msg_pre (Wk.range_row (Wk.Chg.hp hw' (Wk.Chg.hp kk21 (Wk.Chg.hp HBa (Wk.Chg.hp ch6 (Wk.Chg.hp ch5 hb1 trivial) trivial) trivial) trivial) trivial))))) sS2 ?_
                  refine Wk.dVal 22 (some 105) (.string (Mur.str p)) rfl rfl (by kernel_rfl) (by kernel_rfl) (by kernel_rfl) (fun _ _ _ h => h) (by kernel_rfl) (fun w' hw' => (Mur.run_str 38 9 (.tmp 104) 5 rfl Tryd.underlying38 Tryd.underlying5 Tryd.underlying9 PA pn pc p (by kernel_rfl) (Mur.byt_chg (Mur.byt_chg (Mur.byt_chg (Mur.byt_chg hb kk9 (fun g off e hl => trivial)) HBa (fun g off e hl => trivial)) kk21 (fun g off e hl => trivial)) hw' (fun g off e hl => trivial)))) sS2 ?_
                  refine Wk.dVal 23 (some 106) (.bool false) rfl rfl (by kernel_rfl) (by kernel_rfl) (by kernel_rfl) (fun _ _ _ h => h) (by kernel_rfl) (fun w' hw' => (Wk.boolF (b := decide (p ≠ p)) (decide_eq_false (fun h => h rfl)) (Mur.strne 9 9 (.tmp 102) (.tmp 105) rfl p p (by kernel_rfl) (by kernel_rfl)))) sS2 ?_
                  refine Wk.dVal 24 (some 107) (.bool false) rfl rfl (by kernel_rfl) (by kernel_rfl) (by kernel_rfl) (fun _ _ _ h => h) (by kernel_rfl) (fun w' hw' => by kernel_rfl) sS2 ?_
                  refine Wk.dEnd (by kernel_rfl) ?_
                  refine Wk.nxt ?_
                  refine wp_cond_false (by kernel_rfl) ?_
                  refine wp_skip ?_
                  refine Wk.nxt ?_
                  refine wp_seq ?_
                  refine Wk.reg ?_
                  refine Wk.rPure 0 (some 108) (.pointer (some ⟨W15.heap.size, 35, none⟩)) rfl rfl (by kernel_rfl) (by kernel_rfl) ?_
                  refine Wk.rPure 1 (some 109) (.slice QA1 nq1 cq1) rfl rfl (by kernel_rfl) (Wk.load1 22 (.tmp 108) rfl (by kernel_rfl) ⟨W15.heap.size, 35, none⟩ (by kernel_rfl) (.slice QA1 nq1 cq1) (show World.cell? _ ⟨_, 0 + 35, _⟩ = _ from Mur.msg_items hsm1 (Wk.range_row (Wk.Chg.hp ch15 (Wk.Chg.hp ch14 hb7 trivial) trivial)))) ?_
                  refine Wk.rPure 2 (some 110) (.int .i64 ((nq1 : Nat) : Int)) rfl rfl (by kernel_rfl) (by kernel_rfl) ?_
                  refine Wk.rPure 3 (some 111) (.int .i64 0) rfl rfl (by kernel_rfl) (by kernel_rfl) ?_
                  refine Wk.rEnd 4 rfl ?_
                  refine Wk.nxt ?_
                  refine wp_block ?_
                  have kk22 := Wk.Chg.step kk21 ch15 trivial
                  have kk23 := Wk.Chg.step hB4 ch12 trivial
                  have kk24 := Wk.Chg.step kk23 ch13 ⟨.inr (by omega), trivial⟩
                  have kk25 := Wk.Chg.step kk24 ch14 trivial
                  have kk26 := Wk.Chg.step kk25 ch15 trivial
                  have kk27 := Wk.Chg.step hB5 ch12 trivial
                  have kk28 := Wk.Chg.step kk27 ch13 ⟨.inr (by omega), trivial⟩
                  have kk29 := Wk.Chg.step kk28 ch14 trivial
                  have kk30 := Wk.Chg.step kk29 ch15 trivial
                  have hD8 := Mur.SetF.chg hD7 ch12 (fun s hs => trivial)
                  have hD9 := Mur.SetF.chg hD8 ch13 (fun s hs => ⟨by have := hM1 s hs; omega, trivial⟩)
                  have hD10 := Mur.SetF.chg hD9 ch14 (fun s hs => trivial)
                  have hD11 := Mur.SetF.chg hD10 ch15 (fun s hs => trivial)
                  have ow11 := Mur.MsgA.chg ow7 kk22 (fun _ _ _ _ => trivial)
                  have ow12 := Mur.OwnA.chg ow8 kk22 (fun _ _ _ _ => trivial)
                  refine Wk.loop (fun m_ a wr => ∃ (j : Nat), m_ = nq1 - j ∧ a = LearnG_F4 a.tmps (.pointer (some ⟨w.heap.size, 0, none⟩)) (.pointer (some ⟨gs1, 0, none⟩)) (.slice (some ⟨gm1, 0, none⟩) nn1 nn2) (.int .i64 ((nn1 : Nat) : Int)) (.int .i64 ((i : Nat) : Int)) (.slice QA1 nq1 cq1) (.int .i64 ((nq1 : Nat) : Int)) (.int .i64 ((j : Nat) : Int)) ∧ j ≤ nq1 ∧ Wk.Chg [] W19 wr) (nq1 - 0) ?_ ?_
                  · refine ⟨0, rfl, by kernel_rfl, (by omega), (Wk.Chg.refl _)⟩
                  · rintro mm4 aa4 W20 ⟨j, hmm4, hF4, hj, HBx⟩
                    generalize aa4.tmps = bb4 at hF4
                    subst hF4
                    have hz4 := HBx.size
                    have hB6 := Wk.Chg.step kk22 HBx trivial
                    have hB7 := Wk.Chg.step kk26 HBx trivial
                    have hB8 := Wk.Chg.step kk30 HBx trivial
                    have hD12 := Mur.SetF.chg hD11 HBx (fun _ _ => trivial)
                    by_cases hltj : j < nq1
                    · have hslv_ := (Mur.SlA.chgp (Mur.SlA.chgp (Mur.SlA.chgp (Mur.SlA.chgp (Mur.SlA.chgp hsl1 ch12 (fun g off e hn hl => trivial)) ch13 (fun g off e hn hl => ⟨by have := hlq1 g off e hn; omega, trivial⟩)) ch14 (fun g off e hn hl => trivial)) ch15 (fun g off e hn hl => trivial)) HBx (fun g off e hn hl => trivial))
                      obtain ⟨g_v, o_v, rfl, _⟩ := hslv_.ex (by omega)
                      obtain ⟨v, hv⟩ : ∃ x, mm.items[j]? = some x := ⟨_, List.getElem?_eq_getElem (by have := hslv_.len; omega)⟩
                      refine wp_seq ?_
                      refine Wk.reg ?_
                      refine Wk.rPure 0 (some 112) (.bool true) rfl rfl (by kernel_rfl) (Wk.boolT (b := decide (((j : Nat) : Int) < ((nq1 : Nat) : Int))) (decide_eq_true (by omega)) (by kernel_rfl)) ?_
                      refine Wk.rEnd 1 rfl ?_
                      refine Wk.nxt ?_
                      refine wp_seq ?_
                      refine wp_cond_true (by kernel_rfl) ?_
                      refine wp_skip ?_
                      refine Wk.nxt ?_
                      refine wp_seq ?_
                      refine wp_block ?_
                      refine wp_seq ?_
                      refine Wk.reg ?_
                      refine Wk.rPure 0 (some 113) (.pointer (some ⟨g_v, o_v + j * 97, none⟩)) rfl rfl (by kernel_rfl) (Wk.index_sl 22 32 (.tmp 109) (.tmp 111) rfl Tryd.underlying22 97 (by kernel_rfl) g_v o_v nq1 cq1 j .i64 (by kernel_rfl) (by kernel_rfl) (by omega)) ?_
                      refine Wk.rPure 1 (some 114) (.agg ((Mur.attC v.k v.r v.n v.t).toArray)) rfl rfl (by kernel_rfl) (Wk.loadR 32 (.tmp 113) rfl _ Tryd.underlying32 rfl g_v (o_v + j * 97) (by kernel_rfl) (Mur.attC v.k v.r v.n v.t) (by rw [Mur.attC_length v.hk v.hr v.ht]; kernel_rfl) ((Mur.SlA.chgp (Mur.SlA.chgp (Mur.SlA.chgp (Mur.SlA.chgp (Mur.SlA.chgp hsl1 ch12 (fun g off e hn hl => trivial)) ch13 (fun g off e hn hl => ⟨by have := hlq1 g off e hn; omega, trivial⟩)) ch14 (fun g off e hn hl => trivial)) ch15 (fun g off e hn hl => trivial)) HBx (fun g off e hn hl => trivial)).elem hv)) ?_
                      refine Wk.rEx 2 (some 18) _ rfl rfl (by kernel_rfl) (Wk.new_ex (.pointer (some ⟨W20.heap.size, 0, none⟩)) #[.int .u8 0, .int .u8 0, .int .u8 0, .int .u8 0, .int .u8 0, .int .u8 0, .int .u8 0, .int .u8 0, .int .u8 0, .int .u8 0, .int .u8 0, .int .u8 0, .int .u8 0, .int .u8 0, .int .u8 0, .int .u8 0, .int .u8 0, .int .u8 0, .int .u8 0, .int .u8 0, .int .u8 0, .int .u8 0, .int .u8 0, .int .u8 0, .int .u8 0, .int .u8 0, .int .u8 0, .int .u8 0, .int .u8 0, .int .u8 0, .int .u8 0, .int .u8 0, .int .u8 0, .int .u8 0, .int .u8 0, .int .u8 0, .int .u8 0, .int .u8 0, .int .u8 0, .int .u8 0, .int .u8 0, .int .u8 0, .int .u8 0, .int .u8 0, .int .u8 0, .int .u8 0, .int .u8 0, .int .u8 0, .int .u8 0, .int .u8 0, .int .u8 0, .int .u8 0, .int .u8 0, .int .u8 0, .int .u8 0, .int .u8 0, .int .u8 0, .int .u8 0, .int .u8 0, .int .u8 0, .int .u8 0, .int .u8 0, .int .u8 0, .int .u8 0, .int .i64 0, .int .u8 0, .int .u8 0, .int .u8 0, .int .u8 0, .int .u8 0, .int .u8 0, .int .u8 0, .int .u8 0, .int .u8 0, .int .u8 0, .int .u8 0, .int .u8 0, .int .u8 0, .int .u8 0, .int .u8 0, .int .u8 0, .int .u8 0, .int .u8 0, .int .u8 0, .int .u8 0, .int .u8 0, .int .u8 0, .int .u8 0, .int .u8 0, .int .u8 0, .int .u8 0, .int .u8 0, .int .u8 0, .int .u8 0, .int .u8 0, .int .u8 0, .int .u8 0] 32 (by kernel_rfl)) ?_
                      rintro _ W21 ⟨rfl, hb8, ch16, sz6⟩
                      have zz17 := ch16.size
                      rw [← Mur.attC_zero] at hb8
                      refine Wk.rExS 3 none _ rfl rfl (by kernel_rfl) (Mur.storeArr 32 (.tmp 18) (.tmp 114) rfl W20.heap.size (by kernel_rfl) (Mur.attC v.k v.r v.n v.t).toArray 97 (Mur.attC_size v.hk v.hr v.ht) Mur.attC_all (by kernel_rfl) (by kernel_rfl) 32 ((Mur.attC Mur.z32 Mur.z32 0 Mur.z32).toArray) hb8 (Mur.attC_size rfl rfl rfl)) ?_
                      rintro W22 ⟨hb9, ch17⟩
                      have zz18 := ch17.size
                      refine Wk.rEnd 4 rfl ?_
                      refine Wk.nxt ?_
                      refine wp_seq ?_
                      refine Wk.reg ?_
                      refine Wk.rPure 0 (some 115) (.pointer (some ⟨gs1, 0, none⟩)) rfl rfl (by kernel_rfl) (by kernel_rfl) ?_
                      refine Wk.rPure 1 (some 116) (.agg ((Mur.attC v.k v.r v.n v.t).toArray)) rfl rfl (by kernel_rfl) (Mur.loadArr 32 (.tmp 18) rfl _ Tryd.underlying32 rfl W20.heap.size (by kernel_rfl) (Mur.attC v.k v.r v.n v.t).toArray 97 (Mur.attC_size v.hk v.hr v.ht) (by kernel_rfl) 32 (0, 0) hb9) ?_
                      refine Wk.rCall 2 (some 117) 24 [.tmp 115, .tmp 116] #[24, 32] [.pointer (some ⟨gs1, 0, none⟩), .agg ((Mur.attC v.k v.r v.n v.t).toArray)] rfl rfl (by kernel_rfl) rfl (by kernel_rfl) (by kernel_rfl) ?_
                      have hD13 := Mur.SetF.chg hD12 ch16 (fun s hs => trivial)
                      have hD14 := Mur.SetF.chg hD13 ch17 (fun s hs => ⟨by have := hM1 s hs; omega, trivial⟩)
                      refine (Has_any W1.heap.size Z1 gs1 FF1 v W22 hD14).mono ?_
                      rw [decide_eq_true (hx3_ v (List.mem_of_getElem? hv))]
                      rintro _ W23 ⟨rfl, ch18⟩
                      have zz19 := ch18.size
                      refine ⟨_, rfl, ?_⟩
                      refine Wk.rPure 3 (some 118) (.bool false) rfl rfl (by kernel_rfl) (by kernel_rfl) ?_
                      refine Wk.rEnd 4 rfl ?_
                      refine Wk.nxt ?_
                      refine wp_cond_false (by kernel_rfl) ?_
                      refine wp_skip ?_
                      refine Wk.inN ?_
                      refine Wk.nxt ?_
                      refine Wk.reg ?_
                      refine Wk.rPure 0 (some 119) (.int .i64 ((j + 1 : Nat) : Int)) rfl rfl (by kernel_rfl) (Wk.int64 (n := ((j : Nat) : Int) + 1) (z := ((j + 1 : Nat) : Int)) (by omega) (by omega) (by omega) (by kernel_rfl)) ?_
                      refine Wk.rPure 1 (some 111) (.int .i64 ((j + 1 : Nat) : Int)) rfl rfl (by kernel_rfl) (by kernel_rfl) ?_
                      refine Wk.rEnd 2 rfl ?_
                      refine Wk.nxt ?_
                      have kk31 := Wk.Chg.step HBx ch16 trivial
                      have kk32 := Wk.Chg.step kk31 ch17 ⟨.inr (by omega), trivial⟩
                      have kk33 := Wk.Chg.step kk32 ch18 trivial
                      refine ⟨_, ?_, j + 1, rfl, by kernel_rfl, (by omega), kk33⟩
                      · omega
                    · refine wp_seq ?_
                      refine Wk.reg ?_
                      refine Wk.rPure 0 (some 112) (.bool false) rfl rfl (by kernel_rfl) (Wk.boolF (b := decide (((j : Nat) : Int) < ((nq1 : Nat) : Int))) (decide_eq_false (by omega)) (by kernel_rfl)) ?_
                      refine Wk.rEnd 1 rfl ?_
                      refine Wk.nxt ?_
                      refine wp_seq ?_
                      refine wp_cond_false (by kernel_rfl) ?_
                      refine wp_exit ?_
                      refine Wk.thX ?_
                      refine Wk.thX ?_
                      refine Wk.inX ?_
                      refine Wk.inN ?_
                      refine Wk.nxt ?_
                      refine Wk.reg ?_
                      refine Wk.rPure 0 (some 120) (.int .i64 ((i + 1 : Nat) : Int)) rfl rfl (by kernel_rfl) (Wk.int64 (n := ((i : Nat) : Int) + 1) (z := ((i + 1 : Nat) : Int)) (by omega) (by omega) (by omega) (by kernel_rfl)) ?_
                      refine Wk.rPure 1 (some 79) (.int .i64 ((i + 1 : Nat) : Int)) rfl rfl (by kernel_rfl) (by kernel_rfl) ?_
                      refine Wk.rEnd 2 rfl ?_
                      refine Wk.nxt ?_
                      refine ⟨_, ?_, i + 1, rfl, by kernel_rfl, (by omega), hB6⟩
                      · omega
              · refine wp_seq ?_
                refine Wk.reg ?_
                refine Wk.rPure 0 (some 80) (.bool false) rfl rfl (by kernel_rfl) (Wk.boolF (b := decide (((i : Nat) : Int) < ((nn1 : Nat) : Int))) (decide_eq_false (by omega)) (by kernel_rfl)) ?_
                refine Wk.rEnd 1 rfl ?_
                refine Wk.nxt ?_
                refine wp_seq ?_
                refine wp_cond_false (by kernel_rfl) ?_
                refine wp_exit ?_
                refine Wk.thX ?_
                refine Wk.thX ?_
                refine Wk.inX ?_
                refine Wk.nxt ?_
                refine wp_seq ?_
                refine Wk.reg ?_
                refine Wk.rCall 0 (some 121) 32 [] #[] [] rfl rfl (by kernel_rfl) rfl (by kernel_rfl) (by kernel_rfl) ?_
                refine (known21_any W15 (HV.out.below (Wk.Chg.below0 hB5))).mono ?_
                rintro _ W24 ⟨rfl, ch19⟩
                have zz20 := ch19.size
                refine ⟨_, rfl, ?_⟩
                refine Wk.rPure 1 (some 4) (.bool true) rfl rfl (by kernel_rfl) (by kernel_rfl) ?_
                refine Wk.rEnd 2 rfl ?_
                refine Wk.nxt ?_
                refine wp_ret ?_
                have kk34 := Wk.Chg.step hB5 ch19 trivial
                refine Wk.ret (.bool true) rfl (by kernel_rfl) ?_
                exact ⟨rfl, Wk.Chg.below0 kk34⟩
end Go.Proofs.YtfhneademopciaaDoor
