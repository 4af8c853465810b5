/- What the row rests on, part 14. -/
import Derived.Test.YtfhneademopciaaDoorPT6
import Derived.Test.YtfhneademopciaaDoorPT12
import Derived.Test.YtfhneademopciaaDoorPT13
import Derived.Test.YtfhneademopciaaDoorPT10
namespace Go.Proofs.YtfhneademopciaaDoor
open Go.RowKit Wk
open Mur (b8s Byt Own8 Seg Segs flat cutA attC Att SlA OwnA rowA msgC)
set_option maxRecDepth 100000
set_option maxHeartbeats 4000000
def Three_F2 (b : Array Value) (u7 : Value) (u8 : Value) (u12 : Value) (u43 : Value) (u44 : Value) (u60 : Value) (u61 : Value) : Act := ⟨#[gd b 0, gd b 1, gd b 2, gd b 3, gd b 4, gd b 5, gd b 6, u7, u8, gd b 9, gd b 10, gd b 11, u12, gd b 13, gd b 14, gd b 15, gd b 16, gd b 17, gd b 18, gd b 19, gd b 20, gd b 21, gd b 22, gd b 23, gd b 24, gd b 25, gd b 26, gd b 27, gd b 28, gd b 29, gd b 30, gd b 31, gd b 32, gd b 33, gd b 34, gd b 35, gd b 36, gd b 37, gd b 38, gd b 39, gd b 40, gd b 41, gd b 42, u43, u44, gd b 45, gd b 46, gd b 47, gd b 48, gd b 49, gd b 50, gd b 51, gd b 52, gd b 53, gd b 54, gd b 55, gd b 56, gd b 57, gd b 58, gd b 59, u60, u61, gd b 62, gd b 63, gd b 64, gd b 65, gd b 66, gd b 67, gd b 68, gd b 69, gd b 70, gd b 71, gd b 72, gd b 73, gd b 74, gd b 75, gd b 76, gd b 77, gd b 78, gd b 79, gd b 80, gd b 81, gd b 82, gd b 83, gd b 84, gd b 85, gd b 86, gd b 87, gd b 88, gd b 89, gd b 90, gd b 91, gd b 92, gd b 93, gd b 94, gd b 95, gd b 96, gd b 97, gd b 98, gd b 99, gd b 100, gd b 101, gd b 102, gd b 103, gd b 104, gd b 105, gd b 106, gd b 107, gd b 108, gd b 109, gd b 110, gd b 111, gd b 112, gd b 113, gd b 114, gd b 115, gd b 116, gd b 117, gd b 118, gd b 119, gd b 120, gd b 121, gd b 122, gd b 123, gd b 124, gd b 125, gd b 126, gd b 127, gd b 128, gd b 129, gd b 130, gd b 131, gd b 132, gd b 133, gd b 134, gd b 135, gd b 136, gd b 137, gd b 138, gd b 139, gd b 140, gd b 141, gd b 142, gd b 143, gd b 144, gd b 145, gd b 146, gd b 147, gd b 148, gd b 149], []⟩
def Three_F3 (b : Array Value) (u7 : Value) (u8 : Value) (u12 : Value) (u43 : Value) (u44 : Value) (u60 : Value) (u61 : Value) : Act := ⟨#[gd b 0, gd b 1, gd b 2, gd b 3, gd b 4, gd b 5, gd b 6, u7, u8, gd b 9, gd b 10, gd b 11, u12, gd b 13, gd b 14, gd b 15, gd b 16, gd b 17, gd b 18, gd b 19, gd b 20, gd b 21, gd b 22, gd b 23, gd b 24, gd b 25, gd b 26, gd b 27, gd b 28, gd b 29, gd b 30, gd b 31, gd b 32, gd b 33, gd b 34, gd b 35, gd b 36, gd b 37, gd b 38, gd b 39, gd b 40, gd b 41, gd b 42, u43, u44, gd b 45, gd b 46, gd b 47, gd b 48, gd b 49, gd b 50, gd b 51, gd b 52, gd b 53, gd b 54, gd b 55, gd b 56, gd b 57, gd b 58, gd b 59, u60, u61, gd b 62, gd b 63, gd b 64, gd b 65, gd b 66, gd b 67, gd b 68, gd b 69, gd b 70, gd b 71, gd b 72, gd b 73, gd b 74, gd b 75, gd b 76, gd b 77, gd b 78, gd b 79, gd b 80, gd b 81, gd b 82, gd b 83, gd b 84, gd b 85, gd b 86, gd b 87, gd b 88, gd b 89, gd b 90, gd b 91, gd b 92, gd b 93, gd b 94, gd b 95, gd b 96, gd b 97, gd b 98, gd b 99, gd b 100, gd b 101, gd b 102, gd b 103, gd b 104, gd b 105, gd b 106, gd b 107, gd b 108, gd b 109, gd b 110, gd b 111, gd b 112, gd b 113, gd b 114, gd b 115, gd b 116, gd b 117, gd b 118, gd b 119, gd b 120, gd b 121, gd b 122, gd b 123, gd b 124, gd b 125, gd b 126, gd b 127, gd b 128, gd b 129, gd b 130, gd b 131, gd b 132, gd b 133, gd b 134, gd b 135, gd b 136, gd b 137, gd b 138, gd b 139, gd b 140, gd b 141, gd b 142, gd b 143, gd b 144, gd b 145, gd b 146, gd b 147, gd b 148, gd b 149], []⟩
def Three_F4 (b : Array Value) (u7 : Value) (u8 : Value) (u12 : Value) (u43 : Value) (u44 : Value) (u60 : Value) (u61 : Value) : Act := ⟨#[gd b 0, gd b 1, gd b 2, gd b 3, gd b 4, gd b 5, gd b 6, u7, u8, gd b 9, gd b 10, gd b 11, u12, gd b 13, gd b 14, gd b 15, gd b 16, gd b 17, gd b 18, gd b 19, gd b 20, gd b 21, gd b 22, gd b 23, gd b 24, gd b 25, gd b 26, gd b 27, gd b 28, gd b 29, gd b 30, gd b 31, gd b 32, gd b 33, gd b 34, gd b 35, gd b 36, gd b 37, gd b 38, gd b 39, gd b 40, gd b 41, gd b 42, u43, u44, gd b 45, gd b 46, gd b 47, gd b 48, gd b 49, gd b 50, gd b 51, gd b 52, gd b 53, gd b 54, gd b 55, gd b 56, gd b 57, gd b 58, gd b 59, u60, u61, gd b 62, gd b 63, gd b 64, gd b 65, gd b 66, gd b 67, gd b 68, gd b 69, gd b 70, gd b 71, gd b 72, gd b 73, gd b 74, gd b 75, gd b 76, gd b 77, gd b 78, gd b 79, gd b 80, gd b 81, gd b 82, gd b 83, gd b 84, gd b 85, gd b 86, gd b 87, gd b 88, gd b 89, gd b 90, gd b 91, gd b 92, gd b 93, gd b 94, gd b 95, gd b 96, gd b 97, gd b 98, gd b 99, gd b 100, gd b 101, gd b 102, gd b 103, gd b 104, gd b 105, gd b 106, gd b 107, gd b 108, gd b 109, gd b 110, gd b 111, gd b 112, gd b 113, gd b 114, gd b 115, gd b 116, gd b 117, gd b 118, gd b 119, gd b 120, gd b 121, gd b 122, gd b 123, gd b 124, gd b 125, gd b 126, gd b 127, gd b 128, gd b 129, gd b 130, gd b 131, gd b 132, gd b 133, gd b 134, gd b 135, gd b 136, gd b 137, gd b 138, gd b 139, gd b 140, gd b 141, gd b 142, gd b 143, gd b 144, gd b 145, gd b 146, gd b 147, gd b 148, gd b 149], []⟩
def Three_F6 (b : Array Value) (u7 : Value) (u8 : Value) (u15 : Value) (u18 : Value) (u19 : Value) (u20 : Value) (u21 : Value) (u22 : Value) (u79 : Value) (u80 : Value) (u104 : Value) (u105 : Value) : Act := ⟨#[gd b 0, gd b 1, gd b 2, gd b 3, gd b 4, gd b 5, gd b 6, u7, u8, gd b 9, gd b 10, gd b 11, gd b 12, gd b 13, gd b 14, u15, gd b 16, gd b 17, u18, u19, u20, u21, u22, gd b 23, gd b 24, gd b 25, gd b 26, gd b 27, gd b 28, gd b 29, gd b 30, gd b 31, gd b 32, gd b 33, gd b 34, gd b 35, gd b 36, gd b 37, gd b 38, gd b 39, gd b 40, gd b 41, gd b 42, gd b 43, gd b 44, gd b 45, gd b 46, gd b 47, gd b 48, gd b 49, gd b 50, gd b 51, gd b 52, gd b 53, gd b 54, gd b 55, gd b 56, gd b 57, gd b 58, gd b 59, gd b 60, gd b 61, gd b 62, gd b 63, gd b 64, gd b 65, gd b 66, gd b 67, gd b 68, gd b 69, gd b 70, gd b 71, gd b 72, gd b 73, gd b 74, gd b 75, gd b 76, gd b 77, gd b 78, u79, u80, gd b 81, gd b 82, gd b 83, gd b 84, gd b 85, gd b 86, gd b 87, gd b 88, gd b 89, gd b 90, gd b 91, gd b 92, gd b 93, gd b 94, gd b 95, gd b 96, gd b 97, gd b 98, gd b 99, gd b 100, gd b 101, gd b 102, gd b 103, u104, u105, gd b 106, gd b 107, gd b 108, gd b 109, gd b 110, gd b 111, gd b 112, gd b 113, gd b 114, gd b 115, gd b 116, gd b 117, gd b 118, gd b 119, gd b 120, gd b 121, gd b 122, gd b 123, gd b 124, gd b 125, gd b 126, gd b 127, gd b 128, gd b 129, gd b 130, gd b 131, gd b 132, gd b 133, gd b 134, gd b 135, gd b 136, gd b 137, gd b 138, gd b 139, gd b 140, gd b 141, gd b 142, gd b 143, gd b 144, gd b 145, gd b 146, gd b 147, gd b 148, gd b 149], []⟩
def Three_F7 (b : Array Value) (u7 : Value) (u8 : Value) (u15 : Value) (u18 : Value) (u19 : Value) (u20 : Value) (u21 : Value) (u22 : Value) (u79 : Value) (u80 : Value) (u104 : Value) (u105 : Value) : Act := ⟨#[gd b 0, gd b 1, gd b 2, gd b 3, gd b 4, gd b 5, gd b 6, u7, u8, gd b 9, gd b 10, gd b 11, gd b 12, gd b 13, gd b 14, u15, gd b 16, gd b 17, u18, u19, u20, u21, u22, gd b 23, gd b 24, gd b 25, gd b 26, gd b 27, gd b 28, gd b 29, gd b 30, gd b 31, gd b 32, gd b 33, gd b 34, gd b 35, gd b 36, gd b 37, gd b 38, gd b 39, gd b 40, gd b 41, gd b 42, gd b 43, gd b 44, gd b 45, gd b 46, gd b 47, gd b 48, gd b 49, gd b 50, gd b 51, gd b 52, gd b 53, gd b 54, gd b 55, gd b 56, gd b 57, gd b 58, gd b 59, gd b 60, gd b 61, gd b 62, gd b 63, gd b 64, gd b 65, gd b 66, gd b 67, gd b 68, gd b 69, gd b 70, gd b 71, gd b 72, gd b 73, gd b 74, gd b 75, gd b 76, gd b 77, gd b 78, u79, u80, gd b 81, gd b 82, gd b 83, gd b 84, gd b 85, gd b 86, gd b 87, gd b 88, gd b 89, gd b 90, gd b 91, gd b 92, gd b 93, gd b 94, gd b 95, gd b 96, gd b 97, gd b 98, gd b 99, gd b 100, gd b 101, gd b 102, gd b 103, u104, u105, gd b 106, gd b 107, gd b 108, gd b 109, gd b 110, gd b 111, gd b 112, gd b 113, gd b 114, gd b 115, gd b 116, gd b 117, gd b 118, gd b 119, gd b 120, gd b 121, gd b 122, gd b 123, gd b 124, gd b 125, gd b 126, gd b 127, gd b 128, gd b 129, gd b 130, gd b 131, gd b 132, gd b 133, gd b 134, gd b 135, gd b 136, gd b 137, gd b 138, gd b 139, gd b 140, gd b 141, gd b 142, gd b 143, gd b 144, gd b 145, gd b 146, gd b 147, gd b 148, gd b 149], []⟩
def Three_F8 (b : Array Value) (u7 : Value) (u8 : Value) (u15 : Value) (u18 : Value) (u19 : Value) (u20 : Value) (u21 : Value) (u22 : Value) (u79 : Value) (u80 : Value) (u104 : Value) (u105 : Value) : Act := ⟨#[gd b 0, gd b 1, gd b 2, gd b 3, gd b 4, gd b 5, gd b 6, u7, u8, gd b 9, gd b 10, gd b 11, gd b 12, gd b 13, gd b 14, u15, gd b 16, gd b 17, u18, u19, u20, u21, u22, gd b 23, gd b 24, gd b 25, gd b 26, gd b 27, gd b 28, gd b 29, gd b 30, gd b 31, gd b 32, gd b 33, gd b 34, gd b 35, gd b 36, gd b 37, gd b 38, gd b 39, gd b 40, gd b 41, gd b 42, gd b 43, gd b 44, gd b 45, gd b 46, gd b 47, gd b 48, gd b 49, gd b 50, gd b 51, gd b 52, gd b 53, gd b 54, gd b 55, gd b 56, gd b 57, gd b 58, gd b 59, gd b 60, gd b 61, gd b 62, gd b 63, gd b 64, gd b 65, gd b 66, gd b 67, gd b 68, gd b 69, gd b 70, gd b 71, gd b 72, gd b 73, gd b 74, gd b 75, gd b 76, gd b 77, gd b 78, u79, u80, gd b 81, gd b 82, gd b 83, gd b 84, gd b 85, gd b 86, gd b 87, gd b 88, gd b 89, gd b 90, gd b 91, gd b 92, gd b 93, gd b 94, gd b 95, gd b 96, gd b 97, gd b 98, gd b 99, gd b 100, gd b 101, gd b 102, gd b 103, u104, u105, gd b 106, gd b 107, gd b 108, gd b 109, gd b 110, gd b 111, gd b 112, gd b 113, gd b 114, gd b 115, gd b 116, gd b 117, gd b 118, gd b 119, gd b 120, gd b 121, gd b 122, gd b 123, gd b 124, gd b 125, gd b 126, gd b 127, gd b 128, gd b 129, gd b 130, gd b 131, gd b 132, gd b 133, gd b 134, gd b 135, gd b 136, gd b 137, gd b 138, gd b 139, gd b 140, gd b 141, gd b 142, gd b 143, gd b 144, gd b 145, gd b 146, gd b 147, gd b 148, gd b 149], []⟩
theorem three_any (A : Option Addr) (n c : Nat) (L : List Att) (B : Option Addr) (m d : Nat) (M : List Att) (C : Option Addr) (o f : Nat) (Q : List Att) (w : World) (hv : ShaVars w) (hl : SlA w A n L) (_hnc : n ≤ c ∧ c ≤ 9223372036854775807) (hm : SlA w B m M) (hmc : m ≤ d ∧ d ≤ 9223372036854775807) (hq : SlA w C o Q) (hqc : o ≤ f ∧ f ≤ 9223372036854775807) : Calls Tryd.prog 12 #[.slice A n c, .slice B m d, .slice C o f] w fun e w' => e = .returned (.bool true) ∧ Below w.heap.size w w' := by
 have HV := Go.Lib.hid hv
 clear hv
 have hAlt : ∀ g_ off_, A = some ⟨g_, off_, none⟩ → 0 < n → g_ < w.heap.size := fun g_ off_ e_ hn_ => by have h_ := hl; rw [e_] at h_; exact h_.lt hn_
 have hBlt : ∀ g_ off_, B = some ⟨g_, off_, none⟩ → 0 < m → g_ < w.heap.size := fun g_ off_ e_ hn_ => by have h_ := hm; rw [e_] at h_; exact h_.lt hn_
 have hClt : ∀ g_ off_, C = some ⟨g_, off_, none⟩ → 0 < o → g_ < w.heap.size := fun g_ off_ e_ hn_ => by have h_ := hq; rw [e_] at h_; exact h_.lt hn_
 have hLl_ := hl.len
 have hMl_ := hm.len
 have hQl_ := hq.len
 refine calls_of_wp Tryd.func12 rfl ?_
 refine wp_seq (reg ?_)
 refine rP 0 6 (.bool false) rfl rfl ?_
 refine rEnd 1 rfl (nxt (wp_seq (wp_seq (reg ?_))))
 refine rP 0 25 (.slice A n c) rfl rfl ?_
 refine rP 1 26 (.int .i64 ((n : Nat) : Int)) rfl rfl ?_
 by_cases hx1 : ((n : Nat) : Int) > (60 : Int)
 ·refine rQ 2 27 _ rfl rfl (qboolT (b := decide (((n : Nat) : Int) > (60 : Int))) (decide_eq_true (by first | exact hx1 | omega))) ?_
  refine rP 3 28 (.bool true) rfl rfl ?_
  refine rPass 4 (some 29) rfl rfl (by kernel_rfl) ?_
  refine rPass 5 (some 30) rfl rfl (by kernel_rfl) ?_
  refine rPass 6 (some 31) rfl rfl (by kernel_rfl) ?_
  refine rP 7 32 (.bool true) rfl rfl ?_
  refine rP 8 33 (.bool true) rfl rfl ?_
  refine rPass 9 (some 34) rfl rfl (by kernel_rfl) ?_
  refine rPass 10 (some 35) rfl rfl (by kernel_rfl) ?_
  refine rPass 11 (some 36) rfl rfl (by kernel_rfl) ?_
  refine rP 12 37 (.bool true) rfl rfl ?_
  refine rEnd 13 rfl (nxt (wp_cond_true (by kernel_rfl) (wp_seq (reg ?_))))
  refine rC 0 38 32 [] #[] [] rfl rfl rfl ?_
  refine (known21_any w HV.out).mono ?_
  rintro _ W1 ⟨rfl, ch1⟩
  have zz1 := ch1.size
  refine ⟨_, rfl, ?_⟩
  refine rP 1 6 (.bool true) rfl rfl ?_
  refine rEnd 2 rfl (nxt (wp_ret (thR ?_)))
  have kk1 : Chg [] w W1 := Chg.step ((Chg.refl _).more (by simp)) ch1 trivial
  refine Wk.ret (.bool true) rfl (by kernel_rfl) ?_
  exact ⟨rfl, Chg.below0 kk1⟩
 refine rQ 2 27 _ rfl rfl (qboolF (b := decide (((n : Nat) : Int) > (60 : Int))) (decide_eq_false (by first | exact hx1 | omega))) ?_
 refine rP 3 28 (.bool false) rfl rfl ?_
 refine rP 4 29 (.slice B m d) rfl rfl ?_
 refine rP 5 30 (.int .i64 ((m : Nat) : Int)) rfl rfl ?_
 by_cases hx2 : ((m : Nat) : Int) > (60 : Int)
 ·refine rQ 6 31 _ rfl rfl (qboolT (b := decide (((m : Nat) : Int) > (60 : Int))) (decide_eq_true (by first | exact hx2 | omega))) ?_
  refine rP 7 32 (.bool true) rfl rfl ?_
  refine rP 8 33 (.bool true) rfl rfl ?_
  refine rPass 9 (some 34) rfl rfl (by kernel_rfl) ?_
  refine rPass 10 (some 35) rfl rfl (by kernel_rfl) ?_
  refine rPass 11 (some 36) rfl rfl (by kernel_rfl) ?_
  refine rP 12 37 (.bool true) rfl rfl ?_
  refine rEnd 13 rfl (nxt (wp_cond_true (by kernel_rfl) (wp_seq (reg ?_))))
  refine rC 0 38 32 [] #[] [] rfl rfl rfl ?_
  refine (known21_any w HV.out).mono ?_
  rintro _ W2 ⟨rfl, ch2⟩
  have zz2 := ch2.size
  refine ⟨_, rfl, ?_⟩
  refine rP 1 6 (.bool true) rfl rfl ?_
  refine rEnd 2 rfl (nxt (wp_ret (thR ?_)))
  have kk2 : Chg [] w W2 := Chg.step ((Chg.refl _).more (by simp)) ch2 trivial
  refine Wk.ret (.bool true) rfl (by kernel_rfl) ?_
  exact ⟨rfl, Chg.below0 kk2⟩
 refine rQ 6 31 _ rfl rfl (qboolF (b := decide (((m : Nat) : Int) > (60 : Int))) (decide_eq_false (by first | exact hx2 | omega))) ?_
 refine rP 7 32 (.bool false) rfl rfl ?_
 refine rP 8 33 (.bool false) rfl rfl ?_
 refine rP 9 34 (.slice C o f) rfl rfl ?_
 refine rP 10 35 (.int .i64 ((o : Nat) : Int)) rfl rfl ?_
 by_cases hx3 : ((o : Nat) : Int) > (60 : Int)
 ·refine rQ 11 36 _ rfl rfl (qboolT (b := decide (((o : Nat) : Int) > (60 : Int))) (decide_eq_true (by first | exact hx3 | omega))) ?_
  refine rP 12 37 (.bool true) rfl rfl ?_
  refine rEnd 13 rfl (nxt (wp_cond_true (by kernel_rfl) (wp_seq (reg ?_))))
  refine rC 0 38 32 [] #[] [] rfl rfl rfl ?_
  refine (known21_any w HV.out).mono ?_
  rintro _ W3 ⟨rfl, ch3⟩
  have zz3 := ch3.size
  refine ⟨_, rfl, ?_⟩
  refine rP 1 6 (.bool true) rfl rfl ?_
  refine rEnd 2 rfl (nxt (wp_ret (thR ?_)))
  have kk3 : Chg [] w W3 := Chg.step ((Chg.refl _).more (by simp)) ch3 trivial
  refine Wk.ret (.bool true) rfl (by kernel_rfl) ?_
  exact ⟨rfl, Chg.below0 kk3⟩
 refine rQ 11 36 _ rfl rfl (qboolF (b := decide (((o : Nat) : Int) > (60 : Int))) (decide_eq_false (by first | exact hx3 | omega))) ?_
 refine rP 12 37 (.bool false) rfl rfl ?_
 refine rEnd 13 rfl (nxt (wp_cond_false (by kernel_rfl) (wp_skip (nxt (wp_seq (reg ?_))))))
 refine rX 0 7 rfl rfl (new_ex (.pointer (some ⟨w.heap.size, 0, none⟩)) #[.pointer none, .pointer none, .pointer none] 72 (by kernel_rfl)) ?_
 rintro _ W4 ⟨rfl, hb1, ch4, sz1⟩
 have zz4 := ch4.size
 refine rEnd 1 rfl (nxt (wp_seq (reg ?_)))
 refine rX 0 39 rfl rfl (new_ex (.slice (some ⟨W4.heap.size, 0, none⟩) 0 0) #[] 32 (by kernel_rfl)) ?_
 rintro _ W5 ⟨rfl, hb2, ch5, sz2⟩
 have zz5 := ch5.size
 refine rP 1 8 (.slice (some ⟨W4.heap.size, 0, none⟩) 0 0) rfl rfl ?_
 refine rEnd 2 rfl (nxt (wp_seq (wp_seq (reg ?_))))
 refine rP 0 40 (.slice A n c) rfl rfl ?_
 refine rP 1 41 (.slice B m d) rfl rfl ?_
 refine rP 2 42 (.slice C o f) rfl rfl ?_
 refine rQ 3 43 (.agg #[.slice A n c, .slice B m d, .slice C o f]) rfl rfl (Mur.run_built 73 _ rfl [(0, .slice A n c), (1, .slice B m d), (2, .slice C o f)] (by kernel_rfl) _ (by kernel_rfl)) ?_
 refine rP 4 44 (.int .i64 0) rfl rfl ?_
 refine rEnd 5 rfl (nxt (wp_block ?_))
 refine Wk.loopN 4 ?_
 refine Wk.rdS (wp_seq (reg ?_))
 refine rQ 0 45 _ rfl rfl (qboolT (b := decide ((0 : Int) < (3 : Int))) (decide_eq_true (by decide))) ?_
 refine rEnd 1 rfl (nxt (wp_seq (wp_cond_true (by kernel_rfl) (wp_skip (nxt (wp_seq (wp_block (wp_seq (reg ?_)))))))))
 refine rP 0 46 (.int .i64 0) rfl rfl ?_
 refine rP 1 47 (.slice A n c) rfl rfl ?_
 refine rP 2 9 (.int .i64 0) rfl rfl ?_
 refine rP 3 10 (.slice A n c) rfl rfl ?_
 refine rEnd 4 rfl (nxt (wp_seq (reg ?_)))
 refine rP 0 49 (.slice A n c) rfl rfl ?_
 refine rC 1 50 33 [.tmp 49] #[22] [.slice A n c] rfl rfl rfl ?_
 have kk4 : Chg [] w W4 := Chg.step ((Chg.refl _).more (by simp)) ch4 trivial
 have kk5 := Chg.step kk4 ch5 trivial
 refine (set_any A n c L W5 (Mur.SlA.chgp hl kk5 (fun g off e hn hl => trivial)) _hnc).mono ?_
 rintro _ W6 ⟨gs1, FF1, DA1, dn1, dc1, Z1, rfl, hD1, hdo1, hdc1, hnm1, hcn1, ch6⟩
 have zz6 := ch6.size
 have hM1 := Mur.SetF.mem hD1
 have zz7 := (hM1 _ (Mur.SetF.self hD1))
 have hzl1 := Mur.SetF.len hD1
 have hdl1 := hdo1.len
 have hlt1 : ∀ g_ off_, DA1 = some ⟨g_, off_, none⟩ → g_ ∉ FF1 ∧ W5.heap.size ≤ g_ ∧ g_ < W6.heap.size := hnm1
 have hok1 := Mur.SetF.ok hD1
 have hzs1 := Mur.Canon.le hcn1 (fun _ h_ => h_)
 refine ⟨_, rfl, ?_⟩
 refine rP 2 48 (.tuple #[.pointer (some ⟨gs1, 0, none⟩), .slice DA1 dn1 dc1, .bool true]) rfl rfl ?_
 refine rP 3 51 (.pointer (some ⟨gs1, 0, none⟩)) rfl rfl ?_
 refine rP 4 52 (.slice DA1 dn1 dc1) rfl rfl ?_
 refine rP 5 53 (.bool true) rfl rfl ?_
 refine rP 6 11 (.pointer (some ⟨gs1, 0, none⟩)) rfl rfl ?_
 refine rP 7 12 (.slice DA1 dn1 dc1) rfl rfl ?_
 refine rP 8 13 (.bool true) rfl rfl ?_
 refine rEnd 9 rfl (nxt (wp_seq (wp_seq (reg ?_))))
 refine rP 0 54 (.bool true) rfl rfl ?_
 refine rP 1 55 (.bool false) rfl rfl ?_
 refine rEnd 2 rfl (nxt (wp_cond_false (by kernel_rfl) (wp_skip (nxt (wp_seq (reg ?_))))))
 refine rP 0 56 (.int .i64 0) rfl rfl ?_
 refine rP 1 57 (.pointer (some ⟨gs1, 0, none⟩)) rfl rfl ?_
 refine rQ 2 58 (.pointer (some ⟨w.heap.size, 0, none⟩)) rfl rfl (Wk.index_arr 72 24 (.tmp 7) (.tmp 56) rfl 3 Tryd.underlying72 1 (by kernel_rfl) w.heap.size 0 0 .i64 (by kernel_rfl) (by kernel_rfl) (by decide)) ?_
 refine rY 3 rfl rfl (store1 24 (.tmp 58) (.tmp 57) rfl (by kernel_rfl) w.heap.size 0 (by kernel_rfl) (.pointer (some ⟨gs1, 0, none⟩)) (by kernel_rfl) rfl 72 #[.pointer none, .pointer none, .pointer none] (Chg.hp ch6 (Chg.hp ch5 hb1 trivial) trivial) (by simp)) ?_
 rintro W7 ⟨hb3, ch7⟩
 replace hb3 : W7.heap[w.heap.size]? = some (.cells #[.pointer (some ⟨gs1, 0, none⟩), .pointer none, .pointer none] 72 (0, 0)) := hb3
 have zz8 := ch7.size
 refine rEnd 4 rfl (nxt (wp_seq (reg ?_)))
 refine rP 0 59 (.slice DA1 dn1 dc1) rfl rfl ?_
 refine rP 1 60 (.int .i64 ((dn1 : Nat) : Int)) rfl rfl ?_
 refine rP 2 61 (.int .i64 0) rfl rfl ?_
 refine rEnd 3 rfl (nxt (wp_block ?_))
 have kk6 := Chg.step kk5 ch6 trivial
 have kk7 := Chg.step kk6 ch7 ⟨.inr (by omega), trivial⟩
 have hD2 := Mur.SetF.chg hD1 ch7 (fun s hs => ⟨by have := hM1 s hs; omega, trivial⟩)
 refine Wk.loop (fun m_ a wr => ∃ (ia0 : Nat) (Aa0 : Option Addr) (na0 : Nat) (ca0 : Nat) (Ua0 : List Att), m_ = dn1 - ia0 ∧ a = Three_F2 a.tmps (.pointer (some ⟨w.heap.size, 0, none⟩)) (.slice Aa0 na0 ca0) (.slice DA1 dn1 dc1) (.agg #[.slice A n c, .slice B m d, .slice C o f]) (.int .i64 0) (.int .i64 ((dn1 : Nat) : Int)) (.int .i64 ((ia0 : Nat) : Int)) ∧ ia0 ≤ dn1 ∧ Mur.Canon (fun y_ => y_ ∈ [] ++ Z1.take ia0) Ua0 ∧ SlA wr Aa0 na0 Ua0 ∧ (na0 ≤ ca0 ∧ ca0 ≤ 9223372036854775807) ∧ (∀ g_ off_, Aa0 = some ⟨g_, off_, none⟩ → (g_ ∉ FF1) ∧ (w.heap.size < g_ ∧ g_ < wr.heap.size)) ∧ Chg [] W7 wr) (dn1 - 0) ?_ ?_
 ·refine ⟨0, some ⟨W4.heap.size, 0, none⟩, 0, 0, [], rfl, by kernel_rfl, (by omega), (Mur.Canon.nil.iff fun y_ => by simp), (Mur.SlA.nil _ _), (by omega), (fun g_ off_ e_ => by cases e_; exact ⟨fun h_ => by have := hM1 _ h_; omega, by omega, by omega⟩), (Chg.refl _)⟩
 rintro mm1 aa1 W8 ⟨ia0, Aa0, na0, ca0, Ua0, hmm1, hF1, hia0, hca0, hsa0, hna0, hoa0, HBa0⟩
 generalize aa1.tmps = bb1 at hF1
 subst hF1
 have hz1 := HBa0.size
 have hB1 := Chg.step kk7 HBa0 trivial
 have hD3 := Mur.SetF.chg hD2 HBa0 (fun _ _ => trivial)
 have hla0 := hsa0.len
 have hka0 := hca0.len
 by_cases hlta0 : ia0 < dn1
 ·have hsla0 := (Mur.SlA.chg (Mur.SlA.chg hdo1 ch7 (fun g off e hl => ⟨by have := hlt1 g off e; omega, trivial⟩)) HBa0 (fun g off e hl => trivial))
  obtain ⟨g_x, o_x, rfl, _⟩ := hsla0.ex (by omega)
  obtain ⟨x, hx⟩ : ∃ x, Z1[ia0]? = some x := ⟨_, List.getElem?_eq_getElem (by have := hsla0.len; omega)⟩
  refine wp_seq (reg ?_)
  refine rQ 0 62 _ rfl rfl (qboolT (b := decide (((ia0 : Nat) : Int) < ((dn1 : Nat) : Int))) (decide_eq_true (by omega))) ?_
  refine rEnd 1 rfl (nxt (wp_seq (wp_cond_true (by kernel_rfl) (wp_skip (nxt (wp_seq (wp_block (wp_seq (reg ?_)))))))))
  refine rP 0 63 (.int .i64 ((ia0 : Nat) : Int)) rfl rfl ?_
  refine rP 1 14 (.int .i64 ((ia0 : Nat) : Int)) rfl rfl ?_
  refine rEnd 2 rfl (nxt (reg ?_))
  refine rP 0 65 (.slice Aa0 na0 ca0) rfl rfl ?_
  refine rP 1 66 (.slice (some ⟨g_x, o_x, none⟩) dn1 dc1) rfl rfl ?_
  refine rP 2 67 (.int .i64 ((ia0 : Nat) : Int)) rfl rfl ?_
  refine rQ 3 68 (.pointer (some ⟨g_x, o_x + ia0 * 97, none⟩)) rfl rfl (index_sl 50 32 (.tmp 66) (.tmp 67) rfl Tryd.underlying50 97 (by kernel_rfl) g_x o_x dn1 dc1 ia0 .i64 (by kernel_rfl) (by kernel_rfl) (by omega)) ?_
  refine rQ 4 69 (.agg ((Mur.attC x.k x.r x.n x.t).toArray)) rfl rfl (loadR 32 (.tmp 68) rfl _ Tryd.underlying32 rfl g_x (o_x + ia0 * 97) (by kernel_rfl) (Mur.attC x.k x.r x.n x.t) (by rw [Mur.attC_length x.hk x.hr x.ht]; kernel_rfl) ((Mur.SlA.chg (Mur.SlA.chg hdo1 ch7 (fun g off e hl => ⟨by have := hlt1 g off e; omega, trivial⟩)) HBa0 (fun g off e hl => trivial)).elem hx)) ?_
  refine rC 5 70 26 [.tmp 65, .tmp 69] #[50, 32] [.slice Aa0 na0 ca0, .agg ((Mur.attC x.k x.r x.n x.t).toArray)] rfl rfl rfl ?_
  refine (Radd_any Aa0 na0 ca0 Ua0 x W8 hsa0 hca0.srt hca0.len (by omega)).mono ?_
  rintro _ W10 ⟨DA2, dn2, dc2, rfl, hd_1, hpl1, hnc1, ch8⟩
  have zz9 := ch8.size
  refine ⟨_, rfl, ?_⟩
  refine rP 6 64 (.tuple #[.slice DA2 dn2 dc2, .int .i64 ((Mur.addS x Ua0).2)]) rfl rfl ?_
  refine rP 7 71 (.slice DA2 dn2 dc2) rfl rfl ?_
  refine rP 8 72 (.int .i64 ((Mur.addS x Ua0).2)) rfl rfl ?_
  refine rP 9 8 (.slice DA2 dn2 dc2) rfl rfl ?_
  refine rEnd 10 rfl (inN (nxt (reg ?_)))
  refine rQ 0 73 _ rfl rfl (qint64 (n := ((ia0 : Nat) : Int) + 1) (z := ((ia0 + 1 : Nat) : Int)) (by omega) (by omega) (by omega)) ?_
  refine rP 1 61 (.int .i64 ((ia0 + 1 : Nat) : Int)) rfl rfl ?_
  refine rEnd 2 rfl (nxt ?_)
  have kk8 := Chg.step HBa0 ch8 trivial
  have hUo1 : ∀ g_ off_, DA2 = some ⟨g_, off_, none⟩ → (g_ ∉ FF1) ∧ (w.heap.size < g_ ∧ g_ < W10.heap.size) := fun g_ off_ e_ => hpl1.elim (fun h1_ => by
   rw [h1_] at e_
   have h2_ := hoa0 g_ off_ e_
   exact ⟨h2_.1, by omega⟩) (fun h1_ => ⟨fun ht_ => by have h2_ := h1_ g_ off_ e_; have := hM1 g_ ht_; omega, by have h2_ := h1_ g_ off_ e_; omega⟩)
  refine ⟨_, ?_, ia0 + 1, DA2, dn2, dc2, (Mur.addS x Ua0).1, rfl, by kernel_rfl, (by omega), ((hca0.add x).iff fun y_ => Mur.mem_app_succ hx), hd_1, (by omega), hUo1, kk8⟩
  omega
 have hlla0 := ((Mur.SlA.chg (Mur.SlA.chg hdo1 ch7 (fun g off e hl => ⟨by have := hlt1 g off e; omega, trivial⟩)) HBa0 (fun g off e hl => trivial))).len
 rw [List.take_of_length_le (show (Z1).length ≤ ia0 by omega)] at hca0
 have hnp1 : ∀ g_ off_, Aa0 = some ⟨g_, off_, none⟩ → g_ ∉ FF1 := fun g_ off_ e_ => (hoa0 g_ off_ e_).1
 have hrb1 := (Chg.hp HBa0 hb3 trivial)
 have hrb3 := (Mur.SlA.chgp (Mur.SlA.chgp hm kk7 (fun g off e hn hl => trivial)) HBa0 (fun g off e hn hl => trivial))
 have hrb4 := (Mur.SlA.chgp (Mur.SlA.chgp hq kk7 (fun g off e hn hl => trivial)) HBa0 (fun g off e hn hl => trivial))
 have hrb5 := hsa0
 have hty1 : w.heap.size + 1 ≤ W8.heap.size := by omega
 have hM2 := Mur.SetF.mem hD3
 have hty4 := hM2 _ (Mur.SetF.self hD3)
 have hty5 : w.heap.size + 1 ≤ W5.heap.size := by omega
 have hoy1 : ∀ g_ off_, Aa0 = some ⟨g_, off_, none⟩ → True ∧ (w.heap.size < g_ ∧ g_ < W8.heap.size) := fun g_ off_ e_ => ⟨trivial, by have := (hoa0 g_ off_ e_).2; omega⟩
 clear hmm1 hz1 sz1 sz2 zz4 zz5 zz6 zz7 zz8
 refine wp_seq (reg ?_)
 refine rQ 0 62 _ rfl rfl (qboolF (b := decide (((ia0 : Nat) : Int) < ((dn1 : Nat) : Int))) (decide_eq_false (by omega))) ?_
 refine rEnd 1 rfl (nxt (wp_seq (wp_cond_false (by kernel_rfl) (wp_exit (thX (thX (inX (inN (nxt (reg ?_))))))))))
 refine rQ 0 74 _ rfl rfl (qint64 (n := 0 + 1) (z := 1) (by omega) (by omega) (by omega)) ?_
 refine rP 1 44 (.int .i64 1) rfl rfl ?_
 refine rEnd 2 rfl (nxt (Wk.rdS (wp_seq (reg ?_))))
 refine rQ 0 45 _ rfl rfl (qboolT (b := decide ((1 : Int) < (3 : Int))) (decide_eq_true (by decide))) ?_
 refine rEnd 1 rfl (nxt (wp_seq (wp_cond_true (by kernel_rfl) (wp_skip (nxt (wp_seq (wp_block (wp_seq (reg ?_)))))))))
 refine rP 0 46 (.int .i64 1) rfl rfl ?_
 refine rP 1 47 (.slice B m d) rfl rfl ?_
 refine rP 2 9 (.int .i64 1) rfl rfl ?_
 refine rP 3 10 (.slice B m d) rfl rfl ?_
 refine rEnd 4 rfl (nxt (wp_seq (reg ?_)))
 refine rP 0 49 (.slice B m d) rfl rfl ?_
 refine rC 1 50 33 [.tmp 49] #[22] [.slice B m d] rfl rfl rfl ?_
 refine (set_any B m d M W8 hrb3 hmc).mono ?_
 rintro _ W11 ⟨gs2, FF2, DA3, dn3, dc3, Z2, rfl, hD4, hdo2, hdc2, hnm2, hcn2, ch9⟩
 have zz10 := ch9.size
 have hM3 := Mur.SetF.mem hD4
 have zz11 := (hM3 _ (Mur.SetF.self hD4))
 have hzl2 := Mur.SetF.len hD4
 have hdl2 := hdo2.len
 have hlt2 : ∀ g_ off_, DA3 = some ⟨g_, off_, none⟩ → g_ ∉ FF2 ∧ W8.heap.size ≤ g_ ∧ g_ < W11.heap.size := hnm2
 have jj1 : Mur.Dj FF2 FF1 := fun s h1 h2 => by have := hM3 s h1; have := hM2 s h2; omega
 have jj2 : Mur.Dj FF1 FF2 := fun s h1 h2 => jj1 s h2 h1
 have hok2 := Mur.SetF.ok hD4
 have hzs2 := Mur.Canon.le hcn2 (fun _ h_ => h_)
 refine ⟨_, rfl, ?_⟩
 refine rP 2 48 (.tuple #[.pointer (some ⟨gs2, 0, none⟩), .slice DA3 dn3 dc3, .bool true]) rfl rfl ?_
 refine rP 3 51 (.pointer (some ⟨gs2, 0, none⟩)) rfl rfl ?_
 refine rP 4 52 (.slice DA3 dn3 dc3) rfl rfl ?_
 refine rP 5 53 (.bool true) rfl rfl ?_
 refine rP 6 11 (.pointer (some ⟨gs2, 0, none⟩)) rfl rfl ?_
 refine rP 7 12 (.slice DA3 dn3 dc3) rfl rfl ?_
 refine rP 8 13 (.bool true) rfl rfl ?_
 refine rEnd 9 rfl (nxt (wp_seq (wp_seq (reg ?_))))
 refine rP 0 54 (.bool true) rfl rfl ?_
 refine rP 1 55 (.bool false) rfl rfl ?_
 refine rEnd 2 rfl (nxt (wp_cond_false (by kernel_rfl) (wp_skip (nxt (wp_seq (reg ?_))))))
 refine rP 0 56 (.int .i64 1) rfl rfl ?_
 refine rP 1 57 (.pointer (some ⟨gs2, 0, none⟩)) rfl rfl ?_
 refine rQ 2 58 (.pointer (some ⟨w.heap.size, 1, none⟩)) rfl rfl (Wk.index_arr 72 24 (.tmp 7) (.tmp 56) rfl 3 Tryd.underlying72 1 (by kernel_rfl) w.heap.size 0 1 .i64 (by kernel_rfl) (by kernel_rfl) (by decide)) ?_
 refine rY 3 rfl rfl (store1 24 (.tmp 58) (.tmp 57) rfl (by kernel_rfl) w.heap.size 1 (by kernel_rfl) (.pointer (some ⟨gs2, 0, none⟩)) (by kernel_rfl) rfl 72 #[.pointer (some ⟨gs1, 0, none⟩), .pointer none, .pointer none] (Chg.hp ch9 hrb1 trivial) (by simp)) ?_
 rintro W12 ⟨hb4, ch10⟩
 replace hb4 : W12.heap[w.heap.size]? = some (.cells #[.pointer (some ⟨gs1, 0, none⟩), .pointer (some ⟨gs2, 0, none⟩), .pointer none] 72 (0, 0)) := hb4
 have zz12 := ch10.size
 refine rEnd 4 rfl (nxt (wp_seq (reg ?_)))
 refine rP 0 59 (.slice DA3 dn3 dc3) rfl rfl ?_
 refine rP 1 60 (.int .i64 ((dn3 : Nat) : Int)) rfl rfl ?_
 refine rP 2 61 (.int .i64 0) rfl rfl ?_
 refine rEnd 3 rfl (nxt (wp_block ?_))
 have kk9 := Chg.step hB1 ch9 trivial
 have kk10 := Chg.step kk9 ch10 ⟨.inr (by omega), trivial⟩
 have hD5 := Mur.SetF.chg hD3 ch9 (fun s hs => trivial)
 have hD6 := Mur.SetF.chg hD5 ch10 (fun s hs => ⟨by have := hM2 s hs; omega, trivial⟩)
 have hD7 := Mur.SetF.chg hD4 ch10 (fun s hs => ⟨by have := hM3 s hs; omega, trivial⟩)
 refine Wk.loop (fun m_ a wr => ∃ (ia1 : Nat) (Aa1 : Option Addr) (na1 : Nat) (ca1 : Nat) (Ua1 : List Att), m_ = dn3 - ia1 ∧ a = Three_F3 a.tmps (.pointer (some ⟨w.heap.size, 0, none⟩)) (.slice Aa1 na1 ca1) (.slice DA3 dn3 dc3) (.agg #[.slice A n c, .slice B m d, .slice C o f]) (.int .i64 1) (.int .i64 ((dn3 : Nat) : Int)) (.int .i64 ((ia1 : Nat) : Int)) ∧ ia1 ≤ dn3 ∧ Mur.Canon (fun y_ => y_ ∈ ([] ++ Z1) ++ Z2.take ia1) Ua1 ∧ SlA wr Aa1 na1 Ua1 ∧ (na1 ≤ ca1 ∧ ca1 ≤ 9223372036854775807) ∧ (∀ g_ off_, Aa1 = some ⟨g_, off_, none⟩ → (g_ ∉ FF1 ∧ g_ ∉ FF2) ∧ (w.heap.size < g_ ∧ g_ < wr.heap.size)) ∧ Chg [] W12 wr) (dn3 - 0) ?_ ?_
 ·refine ⟨0, Aa0, na0, ca0, Ua0, rfl, by kernel_rfl, (by omega), (hca0.iff fun y_ => by simp), (Mur.SlA.chg (Mur.SlA.chg hrb5 ch9 (fun g off e hl => trivial)) ch10 (fun g off e hl => ⟨by have := hoy1 g off e; omega, trivial⟩)), (by omega), (fun g_ off_ e_ => ⟨⟨hnp1 g_ off_ e_, fun h_ => by have := (hoy1 g_ off_ e_).2; have := hM3 g_ h_; omega⟩, by have := (hoy1 g_ off_ e_).2; omega⟩), (Chg.refl _)⟩
 rintro mm2 aa2 W13 ⟨ia1, Aa1, na1, ca1, Ua1, hmm2, hF2, hia1, hca1, hsa1, hna1, hoa1, HBa1⟩
 generalize aa2.tmps = bb2 at hF2
 subst hF2
 have hz2 := HBa1.size
 have hB2 := Chg.step kk10 HBa1 trivial
 have hD8 := Mur.SetF.chg hD6 HBa1 (fun _ _ => trivial)
 have hD9 := Mur.SetF.chg hD7 HBa1 (fun _ _ => trivial)
 have hla1 := hsa1.len
 have hka1 := hca1.len
 by_cases hlta1 : ia1 < dn3
 ·have hsla1 := (Mur.SlA.chg (Mur.SlA.chg hdo2 ch10 (fun g off e hl => ⟨by have := hlt2 g off e; omega, trivial⟩)) HBa1 (fun g off e hl => trivial))
  obtain ⟨g_x, o_x, rfl, _⟩ := hsla1.ex (by omega)
  obtain ⟨x, hx⟩ : ∃ x, Z2[ia1]? = some x := ⟨_, List.getElem?_eq_getElem (by have := hsla1.len; omega)⟩
  refine wp_seq (reg ?_)
  refine rQ 0 62 _ rfl rfl (qboolT (b := decide (((ia1 : Nat) : Int) < ((dn3 : Nat) : Int))) (decide_eq_true (by omega))) ?_
  refine rEnd 1 rfl (nxt (wp_seq (wp_cond_true (by kernel_rfl) (wp_skip (nxt (wp_seq (wp_block (wp_seq (reg ?_)))))))))
  refine rP 0 63 (.int .i64 ((ia1 : Nat) : Int)) rfl rfl ?_
  refine rP 1 14 (.int .i64 ((ia1 : Nat) : Int)) rfl rfl ?_
  refine rEnd 2 rfl (nxt (reg ?_))
  refine rP 0 65 (.slice Aa1 na1 ca1) rfl rfl ?_
  refine rP 1 66 (.slice (some ⟨g_x, o_x, none⟩) dn3 dc3) rfl rfl ?_
  refine rP 2 67 (.int .i64 ((ia1 : Nat) : Int)) rfl rfl ?_
  refine rQ 3 68 (.pointer (some ⟨g_x, o_x + ia1 * 97, none⟩)) rfl rfl (index_sl 50 32 (.tmp 66) (.tmp 67) rfl Tryd.underlying50 97 (by kernel_rfl) g_x o_x dn3 dc3 ia1 .i64 (by kernel_rfl) (by kernel_rfl) (by omega)) ?_
  refine rQ 4 69 (.agg ((Mur.attC x.k x.r x.n x.t).toArray)) rfl rfl (loadR 32 (.tmp 68) rfl _ Tryd.underlying32 rfl g_x (o_x + ia1 * 97) (by kernel_rfl) (Mur.attC x.k x.r x.n x.t) (by rw [Mur.attC_length x.hk x.hr x.ht]; kernel_rfl) ((Mur.SlA.chg (Mur.SlA.chg hdo2 ch10 (fun g off e hl => ⟨by have := hlt2 g off e; omega, trivial⟩)) HBa1 (fun g off e hl => trivial)).elem hx)) ?_
  refine rC 5 70 26 [.tmp 65, .tmp 69] #[50, 32] [.slice Aa1 na1 ca1, .agg ((Mur.attC x.k x.r x.n x.t).toArray)] rfl rfl rfl ?_
  refine (Radd_any Aa1 na1 ca1 Ua1 x W13 hsa1 hca1.srt hca1.len (by omega)).mono ?_
  rintro _ W14 ⟨DA4, dn4, dc4, rfl, hd_2, hpl2, hnc2, ch11⟩
  have zz13 := ch11.size
  refine ⟨_, rfl, ?_⟩
  refine rP 6 64 (.tuple #[.slice DA4 dn4 dc4, .int .i64 ((Mur.addS x Ua1).2)]) rfl rfl ?_
  refine rP 7 71 (.slice DA4 dn4 dc4) rfl rfl ?_
  refine rP 8 72 (.int .i64 ((Mur.addS x Ua1).2)) rfl rfl ?_
  refine rP 9 8 (.slice DA4 dn4 dc4) rfl rfl ?_
  refine rEnd 10 rfl (inN (nxt (reg ?_)))
  refine rQ 0 73 _ rfl rfl (qint64 (n := ((ia1 : Nat) : Int) + 1) (z := ((ia1 + 1 : Nat) : Int)) (by omega) (by omega) (by omega)) ?_
  refine rP 1 61 (.int .i64 ((ia1 + 1 : Nat) : Int)) rfl rfl ?_
  refine rEnd 2 rfl (nxt ?_)
  have kk11 := Chg.step HBa1 ch11 trivial
  have hUo2 : ∀ g_ off_, DA4 = some ⟨g_, off_, none⟩ → (g_ ∉ FF1 ∧ g_ ∉ FF2) ∧ (w.heap.size < g_ ∧ g_ < W14.heap.size) := fun g_ off_ e_ => hpl2.elim (fun h1_ => by
   rw [h1_] at e_
   have h2_ := hoa1 g_ off_ e_
   exact ⟨h2_.1, by omega⟩) (fun h1_ => ⟨⟨fun ht_ => by have h2_ := h1_ g_ off_ e_; have := hM2 g_ ht_; omega, fun ht_ => by have h2_ := h1_ g_ off_ e_; have := hM3 g_ ht_; omega⟩, by have h2_ := h1_ g_ off_ e_; omega⟩)
  refine ⟨_, ?_, ia1 + 1, DA4, dn4, dc4, (Mur.addS x Ua1).1, rfl, by kernel_rfl, (by omega), ((hca1.add x).iff fun y_ => Mur.mem_app_succ hx), hd_2, (by omega), hUo2, kk11⟩
  omega
 have hlla1 := ((Mur.SlA.chg (Mur.SlA.chg hdo2 ch10 (fun g off e hl => ⟨by have := hlt2 g off e; omega, trivial⟩)) HBa1 (fun g off e hl => trivial))).len
 rw [List.take_of_length_le (show (Z2).length ≤ ia1 by omega)] at hca1
 have hnp2 : ∀ g_ off_, Aa1 = some ⟨g_, off_, none⟩ → g_ ∉ FF1 := fun g_ off_ e_ => (hoa1 g_ off_ e_).1.1
 have hnp3 : ∀ g_ off_, Aa1 = some ⟨g_, off_, none⟩ → g_ ∉ FF2 := fun g_ off_ e_ => (hoa1 g_ off_ e_).1.2
 have hrb6 := (Chg.hp HBa1 hb4 trivial)
 have hrb9 := (Mur.SlA.chgp (Mur.SlA.chgp (Mur.SlA.chgp hrb4 ch9 (fun g off e hn hl => trivial)) ch10 (fun g off e hn hl => ⟨by have := hClt g off e hn; omega, trivial⟩)) HBa1 (fun g off e hn hl => trivial))
 have hrb10 := hsa1
 have hty6 : w.heap.size + 1 ≤ W13.heap.size := by omega
 have hM4 := Mur.SetF.mem hD8
 have hty9 := hM4 _ (Mur.SetF.self hD8)
 have hty10 : w.heap.size + 1 ≤ W5.heap.size := by omega
 have hM5 := Mur.SetF.mem hD9
 have hty11 := hM5 _ (Mur.SetF.self hD9)
 have hty12 : w.heap.size + 1 ≤ W8.heap.size := by omega
 have hoy2 : ∀ g_ off_, Aa1 = some ⟨g_, off_, none⟩ → True ∧ (w.heap.size < g_ ∧ g_ < W13.heap.size) := fun g_ off_ e_ => ⟨trivial, by have := (hoa1 g_ off_ e_).2; omega⟩
 clear hmm2 hz2 zz10 zz11 zz12
 refine wp_seq (reg ?_)
 refine rQ 0 62 _ rfl rfl (qboolF (b := decide (((ia1 : Nat) : Int) < ((dn3 : Nat) : Int))) (decide_eq_false (by omega))) ?_
 refine rEnd 1 rfl (nxt (wp_seq (wp_cond_false (by kernel_rfl) (wp_exit (thX (thX (inX (inN (nxt (reg ?_))))))))))
 refine rQ 0 74 _ rfl rfl (qint64 (n := 1 + 1) (z := 2) (by omega) (by omega) (by omega)) ?_
 refine rP 1 44 (.int .i64 2) rfl rfl ?_
 refine rEnd 2 rfl (nxt (Wk.rdS (wp_seq (reg ?_))))
 refine rQ 0 45 _ rfl rfl (qboolT (b := decide ((2 : Int) < (3 : Int))) (decide_eq_true (by decide))) ?_
 refine rEnd 1 rfl (nxt (wp_seq (wp_cond_true (by kernel_rfl) (wp_skip (nxt (wp_seq (wp_block (wp_seq (reg ?_)))))))))
 refine rP 0 46 (.int .i64 2) rfl rfl ?_
 refine rP 1 47 (.slice C o f) rfl rfl ?_
 refine rP 2 9 (.int .i64 2) rfl rfl ?_
 refine rP 3 10 (.slice C o f) rfl rfl ?_
 refine rEnd 4 rfl (nxt (wp_seq (reg ?_)))
 refine rP 0 49 (.slice C o f) rfl rfl ?_
 refine rC 1 50 33 [.tmp 49] #[22] [.slice C o f] rfl rfl rfl ?_
 refine (set_any C o f Q W13 hrb9 hqc).mono ?_
 rintro _ W15 ⟨gs3, FF3, DA5, dn5, dc5, Z3, rfl, hD10, hdo3, hdc3, hnm3, hcn3, ch12⟩
 have zz14 := ch12.size
 have hM6 := Mur.SetF.mem hD10
 have zz15 := (hM6 _ (Mur.SetF.self hD10))
 have hzl3 := Mur.SetF.len hD10
 have hdl3 := hdo3.len
 have hlt3 : ∀ g_ off_, DA5 = some ⟨g_, off_, none⟩ → g_ ∉ FF3 ∧ W13.heap.size ≤ g_ ∧ g_ < W15.heap.size := hnm3
 have jj3 : Mur.Dj FF3 FF1 := fun s h1 h2 => by have := hM6 s h1; have := hM4 s h2; omega
 have jj4 : Mur.Dj FF1 FF3 := fun s h1 h2 => jj3 s h2 h1
 have jj5 : Mur.Dj FF3 FF2 := fun s h1 h2 => by have := hM6 s h1; have := hM5 s h2; omega
 have jj6 : Mur.Dj FF2 FF3 := fun s h1 h2 => jj5 s h2 h1
 have hok3 := Mur.SetF.ok hD10
 have hzs3 := Mur.Canon.le hcn3 (fun _ h_ => h_)
 refine ⟨_, rfl, ?_⟩
 refine rP 2 48 (.tuple #[.pointer (some ⟨gs3, 0, none⟩), .slice DA5 dn5 dc5, .bool true]) rfl rfl ?_
 refine rP 3 51 (.pointer (some ⟨gs3, 0, none⟩)) rfl rfl ?_
 refine rP 4 52 (.slice DA5 dn5 dc5) rfl rfl ?_
 refine rP 5 53 (.bool true) rfl rfl ?_
 refine rP 6 11 (.pointer (some ⟨gs3, 0, none⟩)) rfl rfl ?_
 refine rP 7 12 (.slice DA5 dn5 dc5) rfl rfl ?_
 refine rP 8 13 (.bool true) rfl rfl ?_
 refine rEnd 9 rfl (nxt (wp_seq (wp_seq (reg ?_))))
 refine rP 0 54 (.bool true) rfl rfl ?_
 refine rP 1 55 (.bool false) rfl rfl ?_
 refine rEnd 2 rfl (nxt (wp_cond_false (by kernel_rfl) (wp_skip (nxt (wp_seq (reg ?_))))))
 refine rP 0 56 (.int .i64 2) rfl rfl ?_
 refine rP 1 57 (.pointer (some ⟨gs3, 0, none⟩)) rfl rfl ?_
 refine rQ 2 58 (.pointer (some ⟨w.heap.size, 2, none⟩)) rfl rfl (Wk.index_arr 72 24 (.tmp 7) (.tmp 56) rfl 3 Tryd.underlying72 1 (by kernel_rfl) w.heap.size 0 2 .i64 (by kernel_rfl) (by kernel_rfl) (by decide)) ?_
 refine rY 3 rfl rfl (store1 24 (.tmp 58) (.tmp 57) rfl (by kernel_rfl) w.heap.size 2 (by kernel_rfl) (.pointer (some ⟨gs3, 0, none⟩)) (by kernel_rfl) rfl 72 #[.pointer (some ⟨gs1, 0, none⟩), .pointer (some ⟨gs2, 0, none⟩), .pointer none] (Chg.hp ch12 hrb6 trivial) (by simp)) ?_
 rintro W16 ⟨hb5, ch13⟩
 replace hb5 : W16.heap[w.heap.size]? = some (.cells #[.pointer (some ⟨gs1, 0, none⟩), .pointer (some ⟨gs2, 0, none⟩), .pointer (some ⟨gs3, 0, none⟩)] 72 (0, 0)) := hb5
 have zz16 := ch13.size
 refine rEnd 4 rfl (nxt (wp_seq (reg ?_)))
 refine rP 0 59 (.slice DA5 dn5 dc5) rfl rfl ?_
 refine rP 1 60 (.int .i64 ((dn5 : Nat) : Int)) rfl rfl ?_
 refine rP 2 61 (.int .i64 0) rfl rfl ?_
 refine rEnd 3 rfl (nxt (wp_block ?_))
 have kk12 := Chg.step hB2 ch12 trivial
 have kk13 := Chg.step kk12 ch13 ⟨.inr (by omega), trivial⟩
 have hD11 := Mur.SetF.chg hD8 ch12 (fun s hs => trivial)
 have hD12 := Mur.SetF.chg hD11 ch13 (fun s hs => ⟨by have := hM4 s hs; omega, trivial⟩)
 have hD13 := Mur.SetF.chg hD9 ch12 (fun s hs => trivial)
 have hD14 := Mur.SetF.chg hD13 ch13 (fun s hs => ⟨by have := hM5 s hs; omega, trivial⟩)
 have hD15 := Mur.SetF.chg hD10 ch13 (fun s hs => ⟨by have := hM6 s hs; omega, trivial⟩)
 refine Wk.loop (fun m_ a wr => ∃ (ia2 : Nat) (Aa2 : Option Addr) (na2 : Nat) (ca2 : Nat) (Ua2 : List Att), m_ = dn5 - ia2 ∧ a = Three_F4 a.tmps (.pointer (some ⟨w.heap.size, 0, none⟩)) (.slice Aa2 na2 ca2) (.slice DA5 dn5 dc5) (.agg #[.slice A n c, .slice B m d, .slice C o f]) (.int .i64 2) (.int .i64 ((dn5 : Nat) : Int)) (.int .i64 ((ia2 : Nat) : Int)) ∧ ia2 ≤ dn5 ∧ Mur.Canon (fun y_ => y_ ∈ (([] ++ Z1) ++ Z2) ++ Z3.take ia2) Ua2 ∧ SlA wr Aa2 na2 Ua2 ∧ (na2 ≤ ca2 ∧ ca2 ≤ 9223372036854775807) ∧ (∀ g_ off_, Aa2 = some ⟨g_, off_, none⟩ → (g_ ∉ FF1 ∧ g_ ∉ FF2 ∧ g_ ∉ FF3) ∧ (w.heap.size < g_ ∧ g_ < wr.heap.size)) ∧ Chg [] W16 wr) (dn5 - 0) ?_ ?_
 ·refine ⟨0, Aa1, na1, ca1, Ua1, rfl, by kernel_rfl, (by omega), (hca1.iff fun y_ => by simp), (Mur.SlA.chg (Mur.SlA.chg hrb10 ch12 (fun g off e hl => trivial)) ch13 (fun g off e hl => ⟨by have := hoy2 g off e; omega, trivial⟩)), (by omega), (fun g_ off_ e_ => ⟨⟨hnp2 g_ off_ e_, hnp3 g_ off_ e_, fun h_ => by have := (hoy2 g_ off_ e_).2; have := hM6 g_ h_; omega⟩, by have := (hoy2 g_ off_ e_).2; omega⟩), (Chg.refl _)⟩
 rintro mm3 aa3 W17 ⟨ia2, Aa2, na2, ca2, Ua2, hmm3, hF3, hia2, hca2, hsa2, hna2, hoa2, HBa2⟩
 generalize aa3.tmps = bb3 at hF3
 subst hF3
 have hz3 := HBa2.size
 have hB3 := Chg.step kk13 HBa2 trivial
 have hD16 := Mur.SetF.chg hD12 HBa2 (fun _ _ => trivial)
 have hD17 := Mur.SetF.chg hD14 HBa2 (fun _ _ => trivial)
 have hD18 := Mur.SetF.chg hD15 HBa2 (fun _ _ => trivial)
 have hla2 := hsa2.len
 have hka2 := hca2.len
 by_cases hlta2 : ia2 < dn5
 ·have hsla2 := (Mur.SlA.chg (Mur.SlA.chg hdo3 ch13 (fun g off e hl => ⟨by have := hlt3 g off e; omega, trivial⟩)) HBa2 (fun g off e hl => trivial))
  obtain ⟨g_x, o_x, rfl, _⟩ := hsla2.ex (by omega)
  obtain ⟨x, hx⟩ : ∃ x, Z3[ia2]? = some x := ⟨_, List.getElem?_eq_getElem (by have := hsla2.len; omega)⟩
  refine wp_seq (reg ?_)
  refine rQ 0 62 _ rfl rfl (qboolT (b := decide (((ia2 : Nat) : Int) < ((dn5 : Nat) : Int))) (decide_eq_true (by omega))) ?_
  refine rEnd 1 rfl (nxt (wp_seq (wp_cond_true (by kernel_rfl) (wp_skip (nxt (wp_seq (wp_block (wp_seq (reg ?_)))))))))
  refine rP 0 63 (.int .i64 ((ia2 : Nat) : Int)) rfl rfl ?_
  refine rP 1 14 (.int .i64 ((ia2 : Nat) : Int)) rfl rfl ?_
  refine rEnd 2 rfl (nxt (reg ?_))
  refine rP 0 65 (.slice Aa2 na2 ca2) rfl rfl ?_
  refine rP 1 66 (.slice (some ⟨g_x, o_x, none⟩) dn5 dc5) rfl rfl ?_
  refine rP 2 67 (.int .i64 ((ia2 : Nat) : Int)) rfl rfl ?_
  refine rQ 3 68 (.pointer (some ⟨g_x, o_x + ia2 * 97, none⟩)) rfl rfl (index_sl 50 32 (.tmp 66) (.tmp 67) rfl Tryd.underlying50 97 (by kernel_rfl) g_x o_x dn5 dc5 ia2 .i64 (by kernel_rfl) (by kernel_rfl) (by omega)) ?_
  refine rQ 4 69 (.agg ((Mur.attC x.k x.r x.n x.t).toArray)) rfl rfl (loadR 32 (.tmp 68) rfl _ Tryd.underlying32 rfl g_x (o_x + ia2 * 97) (by kernel_rfl) (Mur.attC x.k x.r x.n x.t) (by rw [Mur.attC_length x.hk x.hr x.ht]; kernel_rfl) ((Mur.SlA.chg (Mur.SlA.chg hdo3 ch13 (fun g off e hl => ⟨by have := hlt3 g off e; omega, trivial⟩)) HBa2 (fun g off e hl => trivial)).elem hx)) ?_
  refine rC 5 70 26 [.tmp 65, .tmp 69] #[50, 32] [.slice Aa2 na2 ca2, .agg ((Mur.attC x.k x.r x.n x.t).toArray)] rfl rfl rfl ?_
  refine (Radd_any Aa2 na2 ca2 Ua2 x W17 hsa2 hca2.srt hca2.len (by omega)).mono ?_
  rintro _ W18 ⟨DA6, dn6, dc6, rfl, hd_3, hpl3, hnc3, ch14⟩
  have zz17 := ch14.size
  refine ⟨_, rfl, ?_⟩
  refine rP 6 64 (.tuple #[.slice DA6 dn6 dc6, .int .i64 ((Mur.addS x Ua2).2)]) rfl rfl ?_
  refine rP 7 71 (.slice DA6 dn6 dc6) rfl rfl ?_
  refine rP 8 72 (.int .i64 ((Mur.addS x Ua2).2)) rfl rfl ?_
  refine rP 9 8 (.slice DA6 dn6 dc6) rfl rfl ?_
  refine rEnd 10 rfl (inN (nxt (reg ?_)))
  refine rQ 0 73 _ rfl rfl (qint64 (n := ((ia2 : Nat) : Int) + 1) (z := ((ia2 + 1 : Nat) : Int)) (by omega) (by omega) (by omega)) ?_
  refine rP 1 61 (.int .i64 ((ia2 + 1 : Nat) : Int)) rfl rfl ?_
  refine rEnd 2 rfl (nxt ?_)
  have kk14 := Chg.step HBa2 ch14 trivial
  have hUo3 : ∀ g_ off_, DA6 = some ⟨g_, off_, none⟩ → (g_ ∉ FF1 ∧ g_ ∉ FF2 ∧ g_ ∉ FF3) ∧ (w.heap.size < g_ ∧ g_ < W18.heap.size) := fun g_ off_ e_ => hpl3.elim (fun h1_ => by
   rw [h1_] at e_
   have h2_ := hoa2 g_ off_ e_
   exact ⟨h2_.1, by omega⟩) (fun h1_ => ⟨⟨fun ht_ => by have h2_ := h1_ g_ off_ e_; have := hM4 g_ ht_; omega, fun ht_ => by have h2_ := h1_ g_ off_ e_; have := hM5 g_ ht_; omega, fun ht_ => by have h2_ := h1_ g_ off_ e_; have := hM6 g_ ht_; omega⟩, by have h2_ := h1_ g_ off_ e_; omega⟩)
  refine ⟨_, ?_, ia2 + 1, DA6, dn6, dc6, (Mur.addS x Ua2).1, rfl, by kernel_rfl, (by omega), ((hca2.add x).iff fun y_ => Mur.mem_app_succ hx), hd_3, (by omega), hUo3, kk14⟩
  omega
 have hlla2 := ((Mur.SlA.chg (Mur.SlA.chg hdo3 ch13 (fun g off e hl => ⟨by have := hlt3 g off e; omega, trivial⟩)) HBa2 (fun g off e hl => trivial))).len
 rw [List.take_of_length_le (show (Z3).length ≤ ia2 by omega)] at hca2
 have hnp4 : ∀ g_ off_, Aa2 = some ⟨g_, off_, none⟩ → g_ ∉ FF1 := fun g_ off_ e_ => (hoa2 g_ off_ e_).1.1
 have hnp5 : ∀ g_ off_, Aa2 = some ⟨g_, off_, none⟩ → g_ ∉ FF2 := fun g_ off_ e_ => (hoa2 g_ off_ e_).1.2.1
 have hnp6 : ∀ g_ off_, Aa2 = some ⟨g_, off_, none⟩ → g_ ∉ FF3 := fun g_ off_ e_ => (hoa2 g_ off_ e_).1.2.2
 have hrb11 := (Chg.hp HBa2 hb5 trivial)
 have hrb15 := hsa2
 have hty13 : w.heap.size + 1 ≤ W17.heap.size := by omega
 have hM7 := Mur.SetF.mem hD16
 have hty16 := hM7 _ (Mur.SetF.self hD16)
 have hty17 : w.heap.size + 1 ≤ W5.heap.size := by omega
 have hM8 := Mur.SetF.mem hD17
 have hty18 := hM8 _ (Mur.SetF.self hD17)
 have hty19 : w.heap.size + 1 ≤ W8.heap.size := by omega
 have hM9 := Mur.SetF.mem hD18
 have hty20 := hM9 _ (Mur.SetF.self hD18)
 have hty21 : w.heap.size + 1 ≤ W13.heap.size := by omega
 have hoy3 : ∀ g_ off_, Aa2 = some ⟨g_, off_, none⟩ → True ∧ (w.heap.size < g_ ∧ g_ < W17.heap.size) := fun g_ off_ e_ => ⟨trivial, by have := (hoa2 g_ off_ e_).2; omega⟩
 clear hmm3 hz3 zz14 zz15 zz16
 refine wp_seq (reg ?_)
 refine rQ 0 62 _ rfl rfl (qboolF (b := decide (((ia2 : Nat) : Int) < ((dn5 : Nat) : Int))) (decide_eq_false (by omega))) ?_
 refine rEnd 1 rfl (nxt (wp_seq (wp_cond_false (by kernel_rfl) (wp_exit (thX (thX (inX (inN (nxt (reg ?_))))))))))
 refine rQ 0 74 _ rfl rfl (qint64 (n := 2 + 1) (z := 3) (by omega) (by omega) (by omega)) ?_
 refine rP 1 44 (.int .i64 3) rfl rfl ?_
 refine rEnd 2 rfl (nxt (Wk.rdS (wp_seq (reg ?_))))
 refine rQ 0 45 _ rfl rfl (qboolF (b := decide ((3 : Int) < (3 : Int))) (decide_eq_false (by decide))) ?_
 refine rEnd 1 rfl (nxt (wp_seq (wp_cond_false (by kernel_rfl) (wp_exit (thX (thX (inX (nxt (wp_seq (reg ?_))))))))))
 refine rC 0 75 20 [] #[] [] rfl rfl rfl ?_
 refine (Hnew_any W17).mono ?_
 rintro _ W19 ⟨qh1, hc, kc, Hh, Hk, rfl, hqh1, hqz1, ch15⟩
 have zz18 := ch15.size
 have hcs := hc_size Hh.out
 have kcs := kc_size Hk.out
 refine ⟨_, rfl, ?_⟩
 refine rP 1 15 (.pointer (some ⟨qh1, 0, none⟩)) rfl rfl ?_
 refine rEnd 2 rfl (nxt (wp_seq (wp_seq (reg ?_))))
 refine rP 0 76 (.agg #[.int .i64 0, .int .i64 1]) rfl rfl ?_
 refine rP 1 77 (.agg #[.int .i64 1, .int .i64 2]) rfl rfl ?_
 refine rP 2 78 (.agg #[.int .i64 0, .int .i64 2]) rfl rfl ?_
 refine rQ 3 79 (.agg #[.int .i64 0, .int .i64 1, .int .i64 1, .int .i64 2, .int .i64 0, .int .i64 2]) rfl rfl (Mur.run_built 75 _ rfl [(0, .agg #[.int .i64 0, .int .i64 1]), (1, .agg #[.int .i64 1, .int .i64 2]), (2, .agg #[.int .i64 0, .int .i64 2])] (by kernel_rfl) _ (by kernel_rfl)) ?_
 refine rP 4 80 (.int .i64 0) rfl rfl ?_
 refine rEnd 5 rfl (nxt (wp_block ?_))
 refine Wk.loopN 4 ?_
 refine Wk.rdS (wp_seq (reg ?_))
 refine rQ 0 81 _ rfl rfl (qboolT (b := decide ((0 : Int) < (3 : Int))) (decide_eq_true (by decide))) ?_
 refine rEnd 1 rfl (nxt (wp_seq (wp_cond_true (by kernel_rfl) (wp_skip (nxt (wp_seq (wp_block (wp_seq (reg ?_)))))))))
 refine rP 0 82 (.agg #[.int .i64 0, .int .i64 1]) rfl rfl ?_
 refine rX 1 17 rfl rfl (new_ex (.pointer (some ⟨W19.heap.size, 0, none⟩)) #[.int .i64 0, .int .i64 0] 74 (by kernel_rfl)) ?_
 rintro _ W20 ⟨rfl, hb6, ch16, sz3⟩
 have zz19 := ch16.size
 refine rY 2 rfl rfl (Wk.storeR 74 (.tmp 17) (.tmp 82) rfl W19.heap.size 0 (by kernel_rfl) ([.int .i64 0, .int .i64 1]) (by kernel_rfl) (by kernel_rfl) (by intro v hv; simp at hv; rcases hv with h | h <;> (subst h; rfl)) 74 ([.int .i64 0, .int .i64 0]) hb6 (by simp)) ?_
 rintro W21 ⟨hb7, ch17⟩
 replace hb7 : W21.heap[W19.heap.size]? = some (.cells #[.int .i64 0, .int .i64 1] 74 (0, 0)) := hb7
 have zz20 := ch17.size
 refine rEnd 3 rfl (nxt (wp_seq ?_))
 refine dReg ([]) (by kernel_rfl) ?_
 intro W22 ch18 sz4
 have zz21 := ch18.size
 have sS1 : Chg ([]) W22 W22 := (Chg.refl _).more (by simp)
 refine dV 0 83 (.pointer (some ⟨W19.heap.size, 0, none⟩)) rfl rfl (fun w' hw' => (Wk.index_arr 74 3 (.tmp 17) (.const (.int .i64 0)) rfl 2 Tryd.underlying74 1 (by kernel_rfl) W19.heap.size 0 0 .i64 (by kernel_rfl) (by kernel_rfl) (by decide))) sS1 ?_
 refine dV 1 84 (.int .i64 0) rfl rfl (fun w' hw' => (load1 3 (.tmp 83) rfl (by kernel_rfl) ⟨W19.heap.size, 0, none⟩ (by kernel_rfl) (.int .i64 0) ((cell_of_row _ _ 0 _ _ _ (Chg.hp hw' (Chg.hp ch18 hb7 trivial) trivial)).trans rfl))) sS1 ?_
 refine dV 2 85 (.pointer (some ⟨w.heap.size, 0, none⟩)) rfl rfl (fun w' hw' => (Wk.index_arr 72 24 (.tmp 7) (.tmp 84) rfl 3 Tryd.underlying72 1 (by kernel_rfl) w.heap.size 0 0 .i64 (by kernel_rfl) (by kernel_rfl) (by decide))) sS1 ?_
 refine dV 3 86 (.pointer (some ⟨gs1, 0, none⟩)) rfl rfl (fun w' hw' => (load1 24 (.tmp 85) rfl (by kernel_rfl) ⟨w.heap.size, 0, none⟩ (by kernel_rfl) (.pointer (some ⟨gs1, 0, none⟩)) ((cell_of_row _ _ 0 _ _ _ (Chg.hp hw' (Chg.hp ch18 (Chg.hp ch17 (Chg.hp ch16 (Chg.hp ch15 hrb11 trivial) trivial) ⟨by omega, trivial⟩) trivial) trivial)).trans rfl))) sS1 ?_
 refine dV 4 87 (.pointer (some ⟨W19.heap.size, 1, none⟩)) rfl rfl (fun w' hw' => (Wk.index_arr 74 3 (.tmp 17) (.const (.int .i64 1)) rfl 2 Tryd.underlying74 1 (by kernel_rfl) W19.heap.size 0 1 .i64 (by kernel_rfl) (by kernel_rfl) (by decide))) sS1 ?_
 refine dV 5 88 (.int .i64 1) rfl rfl (fun w' hw' => (load1 3 (.tmp 87) rfl (by kernel_rfl) ⟨W19.heap.size, 1, none⟩ (by kernel_rfl) (.int .i64 1) ((cell_of_row _ _ 1 _ _ _ (Chg.hp hw' (Chg.hp ch18 hb7 trivial) trivial)).trans rfl))) sS1 ?_
 refine dV 6 89 (.pointer (some ⟨w.heap.size, 1, none⟩)) rfl rfl (fun w' hw' => (Wk.index_arr 72 24 (.tmp 7) (.tmp 88) rfl 3 Tryd.underlying72 1 (by kernel_rfl) w.heap.size 0 1 .i64 (by kernel_rfl) (by kernel_rfl) (by decide))) sS1 ?_
 refine dV 7 90 (.pointer (some ⟨gs2, 0, none⟩)) rfl rfl (fun w' hw' => (load1 24 (.tmp 89) rfl (by kernel_rfl) ⟨w.heap.size, 1, none⟩ (by kernel_rfl) (.pointer (some ⟨gs2, 0, none⟩)) ((cell_of_row _ _ 1 _ _ _ (Chg.hp hw' (Chg.hp ch18 (Chg.hp ch17 (Chg.hp ch16 (Chg.hp ch15 hrb11 trivial) trivial) ⟨by omega, trivial⟩) trivial) trivial)).trans rfl))) sS1 ?_
 refine dV 8 18 (.pointer (some ⟨gs1, 0, none⟩)) rfl rfl (fun _ _ => by kernel_rfl) sS1 ?_
 refine dV 9 19 (.pointer (some ⟨gs2, 0, none⟩)) rfl rfl (fun _ _ => by kernel_rfl) sS1 ?_
 refine dEnd (by kernel_rfl) (nxt (wp_seq (reg ?_)))
 refine rP 0 91 (.pointer (some ⟨gs1, 0, none⟩)) rfl rfl ?_
 refine rC 1 92 18 [.tmp 91, .const (.slice none 0 0)] #[24, 38] [.pointer (some ⟨gs1, 0, none⟩), .slice none 0 0] rfl rfl rfl ?_
 have hD19 := Mur.SetF.chg hD16 ch15 (fun s hs => trivial)
 have hD20 := Mur.SetF.chg hD19 ch16 (fun s hs => trivial)
 have hD21 := Mur.SetF.chg hD20 ch17 (fun s hs => ⟨by have := hM7 s hs; omega, trivial⟩)
 have hD22 := Mur.SetF.chg hD21 ch18 (fun s hs => trivial)
 refine (Below_any W5.heap.size Z1 gs1 FF1 ([]) none 0 0 W22 hD22 (Byt.nil _ none) (by omega)).mono ?_
 rw [Mur.belowL_nil]
 rintro _ W23 ⟨AA1, nn1, nn2, rfl, ow1, ch19⟩
 have zz22 := ch19.size
 have hq1 := ow1.nc
 have hq2 := ow1.cm
 have hq3 := ow1.sl.len
 have hq4 : Z1.length ≤ 200 := Nat.le_trans (Nat.le_refl _) (Mur.SetF.len hD22)
 refine ⟨_, rfl, ?_⟩
 refine rP 2 93 (.pointer (some ⟨gs2, 0, none⟩)) rfl rfl ?_
 refine rC 3 94 18 [.tmp 93, .const (.slice none 0 0)] #[24, 38] [.pointer (some ⟨gs2, 0, none⟩), .slice none 0 0] rfl rfl rfl ?_
 have hD23 := Mur.SetF.chg hD17 ch15 (fun s hs => trivial)
 have hD24 := Mur.SetF.chg hD23 ch16 (fun s hs => trivial)
 have hD25 := Mur.SetF.chg hD24 ch17 (fun s hs => ⟨by have := hM8 s hs; omega, trivial⟩)
 have hD26 := Mur.SetF.chg hD25 ch18 (fun s hs => trivial)
 have hD27 := Mur.SetF.chg hD26 ch19 (fun s hs => trivial)
 refine (Below_any W8.heap.size Z2 gs2 FF2 ([]) none 0 0 W23 hD27 (Byt.nil _ none) (by omega)).mono ?_
 rw [Mur.belowL_nil]
 rintro _ W24 ⟨AA2, nn3, nn4, rfl, ow2, ch20⟩
 have zz23 := ch20.size
 have hq5 := ow2.nc
 have hq6 := ow2.cm
 have hq7 := ow2.sl.len
 have hq8 : Z2.length ≤ 200 := Nat.le_trans (Nat.le_refl _) (Mur.SetF.len hD27)
 refine ⟨_, rfl, ?_⟩
 refine rP 4 20 (.slice AA1 nn1 nn2) rfl rfl ?_
 refine rP 5 21 (.slice AA2 nn3 nn4) rfl rfl ?_
 refine rEnd 6 rfl (nxt (wp_seq (wp_seq (reg ?_))))
 refine rP 0 95 (.pointer (some ⟨gs1, 0, none⟩)) rfl rfl ?_
 refine rP 1 96 (.pointer (some ⟨gs2, 0, none⟩)) rfl rfl ?_
 refine rQ 2 97 (.agg #[.pointer (some ⟨gs1, 0, none⟩), .pointer (some ⟨gs2, 0, none⟩)]) rfl rfl (Mur.run_built 62 _ rfl [(0, .pointer (some ⟨gs1, 0, none⟩)), (1, .pointer (some ⟨gs2, 0, none⟩))] (by kernel_rfl) _ (by kernel_rfl)) ?_
 refine rC 3 98 34 [.tmp 97, .const (.bool false)] #[62, 4] [.agg #[.pointer (some ⟨gs1, 0, none⟩), .pointer (some ⟨gs2, 0, none⟩)], .bool false] rfl rfl rfl ?_
 have hD28 := Mur.SetF.chg hD22 ch19 (fun s hs => trivial)
 have hD29 := Mur.SetF.chg hD28 ch20 (fun s hs => trivial)
 have hD30 := Mur.SetF.chg hD27 ch20 (fun s hs => trivial)
 have hsb1 : ∀ y_, y_ ∈ Z1 → y_ ∈ ((Z1 ++ Z2) ++ Z3) := fun y_ h_ => List.mem_append_left _ (List.mem_append_left _ h_)
 have hsb2 : ∀ y_, y_ ∈ Z2 → y_ ∈ ((Z1 ++ Z2) ++ Z3) := fun y_ h_ => List.mem_append_left _ (List.mem_append_right _ h_)
 have hsb3 : ∀ y_, y_ ∈ Z3 → y_ ∈ ((Z1 ++ Z2) ++ Z3) := fun y_ h_ => List.mem_append_right _ h_
 have hzz1 : ((Z1 ++ Z2) ++ Z3).length ≤ 200 := by simp only [List.length_append]; omega
 have htw1 := Mur.two_gen (Mur.SetF.srt hD29) (Mur.SetF.len hD29) (Mur.SetF.ok hD29) (Mur.SetF.srt hD30) (Mur.SetF.ok hD30) hsb1 hsb2 hzz1
 have kk15 := Chg.step hB3 ch15 trivial
 have kk16 := Chg.step kk15 ch16 trivial
 have kk17 := Chg.step kk16 ch17 ⟨.inr (by omega), trivial⟩
 have kk18 := Chg.step kk17 ch18 trivial
 have kk19 := Chg.step kk18 ch19 trivial
 have kk20 := Chg.step kk19 ch20 trivial
 refine (exchange_any w Z1 Z2 (Mur.addsL Z2 Z1) htw1.1 W5.heap.size W8.heap.size gs1 gs2 FF1 FF2 false W24 HV.out (Chg.below0 kk20) (by omega) hD29 hD30 jj2).mono ?_
 rintro _ W25 ⟨rx1, S1, S2, E1, E2, rfl, hone1, hall1, hD31, hD32, jj7, hN1, hN2, ch21⟩
 have jj8 : Mur.Dj E2 E1 := fun s_ h_ k_ => jj7 s_ k_ h_
 have hmF1 : ∀ t_, t_ ∈ (FF1 ++ FF2) → w.heap.size ≤ t_ ∧ t_ < W24.heap.size := fun t_ ht_ => by rcases List.mem_append.1 ht_ with h_ | h_ <;> first | (have := hM7 t_ h_; omega) | (have := hM8 t_ h_; omega)
 have hof1 : ∀ g_ off_, Aa2 = some ⟨g_, off_, none⟩ → g_ ∉ FF1 ∧ g_ ∉ FF2 := fun g_ off_ e_ => ⟨hnp4 g_ off_ e_, hnp5 g_ off_ e_⟩
 have ow3 := Mur.OwnA.chg ow1 ch20 (fun q e _ _ => trivial)
 have hni1 := ow3.nil
 have hof2 : ∀ g_ off_, AA1 = some ⟨g_, off_, none⟩ → g_ ∉ FF1 ∧ g_ ∉ FF2 := fun g_ off_ e_ => ⟨fun h_ => by have := (ow3.at_ g_ off_ e_).2.1; have := hM7 g_ h_; omega, fun h_ => by have := (ow3.at_ g_ off_ e_).2.1; have := hM8 g_ h_; omega⟩
 have hlo1 : ∀ g_ off_, AA1 = some ⟨g_, off_, none⟩ → w.heap.size < g_ ∧ g_ < W24.heap.size := fun g_ off_ e_ => by have := ow3.at_ g_ off_ e_; omega
 have hof3 : ∀ g_ off_, AA2 = some ⟨g_, off_, none⟩ → g_ ∉ FF1 ∧ g_ ∉ FF2 := fun g_ off_ e_ => ⟨fun h_ => by have := (ow2.at_ g_ off_ e_).2.1; have := hM7 g_ h_; omega, fun h_ => by have := (ow2.at_ g_ off_ e_).2.1; have := hM8 g_ h_; omega⟩
 have hlo2 : ∀ g_ off_, AA2 = some ⟨g_, off_, none⟩ → w.heap.size < g_ ∧ g_ < W24.heap.size := fun g_ off_ e_ => by have := ow2.at_ g_ off_ e_; omega
 have hnp7 : w.heap.size ∉ FF1 := fun h_ => by have := hM7 _ h_; omega
 have hnp8 : w.heap.size ∉ FF2 := fun h_ => by have := hM8 _ h_; omega
 have hnp9 : w.heap.size ∉ FF3 := fun h_ => by have := hM9 _ h_; omega
 have hnp10 : qh1 ∉ FF1 := fun h_ => by have := hM7 _ h_; omega
 have hnp11 : qh1 ∉ FF2 := fun h_ => by have := hM8 _ h_; omega
 have hnp12 : qh1 ∉ FF3 := fun h_ => by have := hM9 _ h_; omega
 have hD33 := Mur.SetF.chg hD18 ch15 (fun s hs => trivial)
 have hD34 := Mur.SetF.chg hD33 ch16 (fun s hs => trivial)
 have hD35 := Mur.SetF.chg hD34 ch17 (fun s hs => ⟨by have := hM9 s hs; omega, trivial⟩)
 have hD36 := Mur.SetF.chg hD35 ch18 (fun s hs => trivial)
 have hD37 := Mur.SetF.chg hD36 ch19 (fun s hs => trivial)
 have hD38 := Mur.SetF.chg hD37 ch20 (fun s hs => trivial)
 have zz24 := ch21.size
 have hM10 := Mur.SetF.mem hD31
 have hM11 := Mur.SetF.mem hD32
 have zz25 := hM10 _ (Mur.SetF.self hD31)
 have zz26 := hM11 _ (Mur.SetF.self hD32)
 have hD39 := Mur.SetF.chg hD38 ch21 (fun s_ hs_ => Mur.off_iff.2 fun t_ ht_ e_ => by rcases List.mem_append.1 ht_ with h_ | h_ <;> first | exact jj3 s_ hs_ (e_ ▸ h_) | exact jj5 s_ hs_ (e_ ▸ h_))
 have jj9 : Mur.Dj E1 FF3 := fun s_ h_ k_ => by rcases hN1 s_ h_ with q_ | q_ <;> first | exact jj4 s_ q_ k_ | (have := hM9 s_ k_; omega)
 have jj10 : Mur.Dj FF3 E1 := fun s_ h_ k_ => jj9 s_ k_ h_
 have jj11 : Mur.Dj E2 FF3 := fun s_ h_ k_ => by rcases hN2 s_ h_ with q_ | q_ <;> first | exact jj6 s_ q_ k_ | (have := hM9 s_ k_; omega)
 have jj12 : Mur.Dj FF3 E2 := fun s_ h_ k_ => jj11 s_ k_ h_
 have hdo4 : SlA W25 Aa2 _ Ua2 := Mur.SlA.chg (Mur.SlA.chg (Mur.SlA.chg (Mur.SlA.chg (Mur.SlA.chg (Mur.SlA.chg (Mur.SlA.chg hrb15 ch15 (fun g off e hl => trivial)) ch16 (fun g off e hl => trivial)) ch17 (fun g off e hl => ⟨by have := hoy3 g off e; omega, trivial⟩)) ch18 (fun g off e hl => trivial)) ch19 (fun g off e hl => trivial)) ch20 (fun g off e hl => trivial)) ch21 (fun g_ off_ e_ _ => Mur.off_iff.2 fun t_ ht_ e2_ => by subst e2_; rcases List.mem_append.1 ht_ with h_ | h_ <;> first | exact (hof1 g_ off_ e_).1 h_ | exact (hof1 g_ off_ e_).2 h_)
 have hdo5 : SlA W25 AA1 _ Z1 := Mur.SlA.chg ow3.sl ch21 (fun g_ off_ e_ _ => Mur.off_iff.2 fun t_ ht_ e2_ => by subst e2_; rcases List.mem_append.1 ht_ with h_ | h_ <;> first | exact (hof2 g_ off_ e_).1 h_ | exact (hof2 g_ off_ e_).2 h_)
 have hdo6 : SlA W25 AA2 _ Z2 := Mur.SlA.chg ow2.sl ch21 (fun g_ off_ e_ _ => Mur.off_iff.2 fun t_ ht_ e2_ => by subst e2_; rcases List.mem_append.1 ht_ with h_ | h_ <;> first | exact (hof3 g_ off_ e_).1 h_ | exact (hof3 g_ off_ e_).2 h_)
 have hbx1 : W25.heap[w.heap.size]? = some (.cells #[.pointer (some ⟨gs1, 0, none⟩), .pointer (some ⟨gs2, 0, none⟩), .pointer (some ⟨gs3, 0, none⟩)] 72 (0, 0)) := Chg.hp ch21 (Chg.hp ch20 (Chg.hp ch19 (Chg.hp ch18 (Chg.hp ch17 (Chg.hp ch16 (Chg.hp ch15 hrb11 trivial) trivial) ⟨by omega, trivial⟩) trivial) trivial) trivial) (Mur.off_iff.2 fun t_ ht_ e2_ => by subst e2_; rcases List.mem_append.1 ht_ with h_ | h_ <;> first | exact hnp7 h_ | exact hnp8 h_)
 have hnp13 : w.heap.size ∉ E1 := fun h_ => (hN1 _ h_).elim hnp7 (fun k_ => by omega)
 have hnp14 : w.heap.size ∉ E2 := fun h_ => (hN2 _ h_).elim hnp8 (fun k_ => by omega)
 have hbx2 : W25.heap[qh1]? = some (.cells (hc ++ kc) 97 (0, 0)) := Chg.hp ch21 (Chg.hp ch20 (Chg.hp ch19 (Chg.hp ch18 (Chg.hp ch17 (Chg.hp ch16 hqh1 trivial) ⟨by omega, trivial⟩) trivial) trivial) trivial) (Mur.off_iff.2 fun t_ ht_ e2_ => by subst e2_; rcases List.mem_append.1 ht_ with h_ | h_ <;> first | exact hnp10 h_ | exact hnp11 h_)
 have hnp15 : qh1 ∉ E1 := fun h_ => (hN1 _ h_).elim hnp10 (fun k_ => by omega)
 have hnp16 : qh1 ∉ E2 := fun h_ => (hN2 _ h_).elim hnp11 (fun k_ => by omega)
 have hnp17 : ∀ g_ off_, Aa2 = some ⟨g_, off_, none⟩ → g_ ∉ E1 := fun g_ off_ e_ h_ => (hN1 _ h_).elim (hnp4 g_ off_ e_) (fun k_ => by have := (hoy3 g_ off_ e_).2; omega)
 have hnp18 : ∀ g_ off_, Aa2 = some ⟨g_, off_, none⟩ → g_ ∉ E2 := fun g_ off_ e_ h_ => (hN2 _ h_).elim (hnp5 g_ off_ e_) (fun k_ => by have := (hoy3 g_ off_ e_).2; omega)
 refine ⟨_, rfl, ?_⟩
 refine rQ 4 99 _ rfl rfl (qboolF (b := decide (((rx1 : Nat) : Int) < (0 : Int))) (decide_eq_false (by omega))) ?_
 refine rEnd 5 rfl (nxt (wp_cond_false (by kernel_rfl) (wp_skip (nxt (wp_seq (reg ?_))))))
 refine rX 0 100 rfl rfl (new_ex (.slice (some ⟨W25.heap.size, 0, none⟩) 0 0) #[] 32 (by kernel_rfl)) ?_
 rintro _ W26 ⟨rfl, hb8, ch22, sz5⟩
 have zz27 := ch22.size
 refine rP 1 101 (.slice AA1 nn1 nn2) rfl rfl ?_
 have ow4 := Mur.ownA_empty hb8 (Nat.le_refl _)
 refine rX 2 102 rfl rfl (Mur.appendA (.tmp 100) (.tmp 101) 50 32 rfl Tryd.underlying50 attI W25.heap.size (some ⟨W25.heap.size, 0, none⟩) 0 0 ([]) AA1 nn1 nn2 Z1 (by kernel_rfl) (by kernel_rfl) ow4 (Mur.SlA.chg hdo5 ch22 (fun g off e hl => trivial)) (fun h_ => hni1 h_) (by omega) (by omega) nn1 (by omega) Z1 rfl) ?_
 rintro _ W27 ⟨AA3, nn5, rfl, ow5, ch23, ha1⟩
 have zz28 := ch23.size
 have hq9 := ow5.nc
 have hq10 := ow5.cm
 refine rP 3 22 (.slice AA3 nn1 nn5) rfl rfl ?_
 refine rEnd 4 rfl (nxt (wp_seq (wp_seq (reg ?_))))
 refine rP 0 103 (.slice AA2 nn3 nn4) rfl rfl ?_
 refine rP 1 104 (.int .i64 ((nn3 : Nat) : Int)) rfl rfl ?_
 refine rP 2 105 (.int .i64 0) rfl rfl ?_
 refine rEnd 3 rfl (nxt (wp_block ?_))
 have kk21 := Chg.step kk20 ch21 (Mur.newOr_iff.2 (fun t ht => .inr (by have := hmF1 t ht; omega)))
 have kk22 := Chg.step kk21 ch22 trivial
 have kk23 := Chg.step kk22 ch23 (newOr_blk (fun g hg => by have := ow4.lt g hg; omega))
 have hD40 := Mur.SetF.chg hD31 ch22 (fun s hs => trivial)
 have hD41 := Mur.SetF.chg hD40 ch23 (fun s hs => (off_blk (fun gz hgz => by have := ow4.lt gz hgz; have := hM10 s hs; omega)))
 have hD42 := Mur.SetF.chg hD32 ch22 (fun s hs => trivial)
 have hD43 := Mur.SetF.chg hD42 ch23 (fun s hs => (off_blk (fun gz hgz => by have := ow4.lt gz hgz; have := hM11 s hs; omega)))
 have hD44 := Mur.SetF.chg hD39 ch22 (fun s hs => trivial)
 have hD45 := Mur.SetF.chg hD44 ch23 (fun s hs => (off_blk (fun gz hgz => by have := ow4.lt gz hgz; have := hM9 s hs; omega)))
 refine Wk.loop (fun m_ a wr => ∃ (ib0 : Nat) (Ab0 : Option Addr) (nb0 : Nat) (cb0 : Nat) (Ub0 : List Att), m_ = nn3 - ib0 ∧ a = Three_F6 a.tmps (.pointer (some ⟨w.heap.size, 0, none⟩)) (.slice Aa2 na2 ca2) (.pointer (some ⟨qh1, 0, none⟩)) (.pointer (some ⟨gs1, 0, none⟩)) (.pointer (some ⟨gs2, 0, none⟩)) (.slice AA1 nn1 nn2) (.slice AA2 nn3 nn4) (.slice Ab0 nb0 cb0) (.agg #[.int .i64 0, .int .i64 1, .int .i64 1, .int .i64 2, .int .i64 0, .int .i64 2]) (.int .i64 0) (.int .i64 ((nn3 : Nat) : Int)) (.int .i64 ((ib0 : Nat) : Int)) ∧ ib0 ≤ nn3 ∧ Mur.Canon (fun y_ => y_ ∈ Z1 ++ Z2.take ib0) Ub0 ∧ SlA wr Ab0 nb0 Ub0 ∧ (nb0 ≤ cb0 ∧ cb0 ≤ 9223372036854775807) ∧ Chg [] W27 wr) (nn3 - 0) ?_ ?_
 ·refine ⟨0, AA3, nn1, nn5, Z1, rfl, by kernel_rfl, (by omega), ((Mur.canon_self (Mur.SetF.srt hD29) (Mur.SetF.len hD29) (Mur.SetF.ok hD29)).iff fun y_ => by simp), ow5.sl, (by have := ow5.nc; have := Nat.le_trans ow5.cm (show Go.maxLen ≤ 9223372036854775807 by unfold Go.maxLen; omega); omega), (Chg.refl _)⟩
 rintro mm4 aa4 W28 ⟨ib0, Ab0, nb0, cb0, Ub0, hmm4, hF4, hib0, hcb0, hsb0, hnb0, HBb0⟩
 generalize aa4.tmps = bb4 at hF4
 subst hF4
 have hz4 := HBb0.size
 have hB4 := Chg.step kk23 HBb0 trivial
 have hD46 := Mur.SetF.chg hD41 HBb0 (fun _ _ => trivial)
 have hD47 := Mur.SetF.chg hD43 HBb0 (fun _ _ => trivial)
 have hD48 := Mur.SetF.chg hD45 HBb0 (fun _ _ => trivial)
 have hlb0 := hsb0.len
 have hkb0 := hcb0.len
 by_cases hltb0 : ib0 < nn3
 ·have hslb0 := (Mur.SlA.chg (Mur.SlA.chg (Mur.SlA.chg hdo6 ch22 (fun g off e hl => trivial)) ch23 (fun g off e hl => (off_blk (fun gz hgz => by have := ow4.lt gz hgz; have := hlo2 g off e; omega)))) HBb0 (fun g off e hl => trivial))
  obtain ⟨g_x, o_x, rfl, _⟩ := hslb0.ex (by omega)
  obtain ⟨x, hx⟩ : ∃ x, Z2[ib0]? = some x := ⟨_, List.getElem?_eq_getElem (by have := hslb0.len; omega)⟩
  refine wp_seq (reg ?_)
  refine rQ 0 106 _ rfl rfl (qboolT (b := decide (((ib0 : Nat) : Int) < ((nn3 : Nat) : Int))) (decide_eq_true (by omega))) ?_
  refine rEnd 1 rfl (nxt (wp_seq (wp_cond_true (by kernel_rfl) (wp_skip (nxt (wp_seq (wp_block (wp_seq (reg ?_)))))))))
  refine rP 0 107 (.int .i64 ((ib0 : Nat) : Int)) rfl rfl ?_
  refine rP 1 23 (.int .i64 ((ib0 : Nat) : Int)) rfl rfl ?_
  refine rEnd 2 rfl (nxt (reg ?_))
  refine rP 0 109 (.slice Ab0 nb0 cb0) rfl rfl ?_
  refine rP 1 110 (.slice (some ⟨g_x, o_x, none⟩) nn3 nn4) rfl rfl ?_
  refine rP 2 111 (.int .i64 ((ib0 : Nat) : Int)) rfl rfl ?_
  refine rQ 3 112 (.pointer (some ⟨g_x, o_x + ib0 * 97, none⟩)) rfl rfl (index_sl 50 32 (.tmp 110) (.tmp 111) rfl Tryd.underlying50 97 (by kernel_rfl) g_x o_x nn3 nn4 ib0 .i64 (by kernel_rfl) (by kernel_rfl) (by omega)) ?_
  refine rQ 4 113 (.agg ((Mur.attC x.k x.r x.n x.t).toArray)) rfl rfl (loadR 32 (.tmp 112) rfl _ Tryd.underlying32 rfl g_x (o_x + ib0 * 97) (by kernel_rfl) (Mur.attC x.k x.r x.n x.t) (by rw [Mur.attC_length x.hk x.hr x.ht]; kernel_rfl) ((Mur.SlA.chg (Mur.SlA.chg (Mur.SlA.chg hdo6 ch22 (fun g off e hl => trivial)) ch23 (fun g off e hl => (off_blk (fun gz hgz => by have := ow4.lt gz hgz; have := hlo2 g off e; omega)))) HBb0 (fun g off e hl => trivial)).elem hx)) ?_
  refine rC 5 114 26 [.tmp 109, .tmp 113] #[50, 32] [.slice Ab0 nb0 cb0, .agg ((Mur.attC x.k x.r x.n x.t).toArray)] rfl rfl rfl ?_
  refine (Radd_any Ab0 nb0 cb0 Ub0 x W28 hsb0 hcb0.srt hcb0.len (by omega)).mono ?_
  rintro _ W29 ⟨DA7, dn7, dc7, rfl, hd_4, hpl4, hnc4, ch24⟩
  have zz29 := ch24.size
  refine ⟨_, rfl, ?_⟩
  refine rP 6 108 (.tuple #[.slice DA7 dn7 dc7, .int .i64 ((Mur.addS x Ub0).2)]) rfl rfl ?_
  refine rP 7 115 (.slice DA7 dn7 dc7) rfl rfl ?_
  refine rP 8 116 (.int .i64 ((Mur.addS x Ub0).2)) rfl rfl ?_
  refine rP 9 22 (.slice DA7 dn7 dc7) rfl rfl ?_
  refine rEnd 10 rfl (inN (nxt (reg ?_)))
  refine rQ 0 117 _ rfl rfl (qint64 (n := ((ib0 : Nat) : Int) + 1) (z := ((ib0 + 1 : Nat) : Int)) (by omega) (by omega) (by omega)) ?_
  refine rP 1 105 (.int .i64 ((ib0 + 1 : Nat) : Int)) rfl rfl ?_
  refine rEnd 2 rfl (nxt ?_)
  have kk24 := Chg.step HBb0 ch24 trivial
  refine ⟨_, ?_, ib0 + 1, DA7, dn7, dc7, (Mur.addS x Ub0).1, rfl, by kernel_rfl, (by omega), ((hcb0.add x).iff fun y_ => Mur.mem_app_succ hx), hd_4, (by omega), kk24⟩
  omega
 have hllb0 := ((Mur.SlA.chg (Mur.SlA.chg (Mur.SlA.chg hdo6 ch22 (fun g off e hl => trivial)) ch23 (fun g off e hl => (off_blk (fun gz hgz => by have := ow4.lt gz hgz; have := hlo2 g off e; omega)))) HBb0 (fun g off e hl => trivial))).len
 rw [List.take_of_length_le (show (Z2).length ≤ ib0 by omega)] at hcb0
 have hty22 : nn1 ≤ 200 := by omega
 have hty23 : nn3 ≤ 200 := by omega
 have hrb16 := (Chg.hp HBb0 (Chg.hp ch23 (Chg.hp ch22 hbx1 trivial) (off_blk (fun gz hgz => by have := ow4.lt gz hgz; omega))) trivial)
 have hrb17 := (Chg.hp HBb0 (Chg.hp ch23 (Chg.hp ch22 hbx2 trivial) (off_blk (fun gz hgz => by have := ow4.lt gz hgz; omega))) trivial)
 have hrb18 := (Mur.SlA.chg (Mur.SlA.chg (Mur.SlA.chg hdo4 ch22 (fun g off e hl => trivial)) ch23 (fun g off e hl => (off_blk (fun gz hgz => by have := ow4.lt gz hgz; have := hoy3 g off e; omega)))) HBb0 (fun g off e hl => trivial))
 have hrb19 := (Mur.SlA.chg (Mur.SlA.chg (Mur.SlA.chg hdo5 ch22 (fun g off e hl => trivial)) ch23 (fun g off e hl => (off_blk (fun gz hgz => by have := ow4.lt gz hgz; have := hlo1 g off e; omega)))) HBb0 (fun g off e hl => trivial))
 have hrb20 := (Mur.SlA.chg (Mur.SlA.chg (Mur.SlA.chg hdo6 ch22 (fun g off e hl => trivial)) ch23 (fun g off e hl => (off_blk (fun gz hgz => by have := ow4.lt gz hgz; have := hlo2 g off e; omega)))) HBb0 (fun g off e hl => trivial))
 have hrb21 := hsb0
 have hty24 : w.heap.size + 1 ≤ W28.heap.size := by omega
 have hM12 := Mur.SetF.mem hD46
 have hty27 := hM12 _ (Mur.SetF.self hD46)
 have hty28 : w.heap.size + 1 ≤ W5.heap.size := by omega
 have hM13 := Mur.SetF.mem hD47
 have hty29 := hM13 _ (Mur.SetF.self hD47)
 have hty30 : w.heap.size + 1 ≤ W8.heap.size := by omega
 have hM14 := Mur.SetF.mem hD48
 have hty31 := hM14 _ (Mur.SetF.self hD48)
 have hty32 : w.heap.size + 1 ≤ W13.heap.size := by omega
 have hty33 : w.heap.size < qh1 ∧ qh1 < W28.heap.size := by omega
 have hoy4 : ∀ g_ off_, Aa2 = some ⟨g_, off_, none⟩ → True ∧ (w.heap.size < g_ ∧ g_ < W28.heap.size) := fun g_ off_ e_ => ⟨trivial, by have := (hoy3 g_ off_ e_).2; omega⟩
 clear hmm4 hq1 hq10 hq2 hq3 hq4 hq5 hq6 hq7 hq8 hq9 hz4 sz3 sz4 sz5 zz18 zz19 zz20 zz21 zz22 zz23 zz24 zz25 zz26 zz27 zz28
 refine wp_seq (reg ?_)
 refine rQ 0 106 _ rfl rfl (qboolF (b := decide (((ib0 : Nat) : Int) < ((nn3 : Nat) : Int))) (decide_eq_false (by omega))) ?_
 refine rEnd 1 rfl (nxt (wp_seq (wp_cond_false (by kernel_rfl) (wp_exit (thX (thX (inX (nxt (wp_seq (reg ?_))))))))))
 refine rP 0 118 (.pointer (some ⟨gs1, 0, none⟩)) rfl rfl ?_
 refine rC 1 119 18 [.tmp 118, .const (.slice none 0 0)] #[24, 38] [.pointer (some ⟨gs1, 0, none⟩), .slice none 0 0] rfl rfl rfl ?_
 refine (Below_any W5.heap.size S1 gs1 E1 ([]) none 0 0 W28 hD46 (Byt.nil _ none) (by omega)).mono ?_
 rw [Mur.belowL_nil]
 rintro _ W30 ⟨AA4, nn6, nn7, rfl, ow6, ch25⟩
 have zz30 := ch25.size
 have hq11 := ow6.nc
 have hq12 := ow6.cm
 have hq13 := ow6.sl.len
 have hq14 : S1.length ≤ 200 := Nat.le_trans (Nat.le_refl _) (Mur.SetF.len hD46)
 refine ⟨_, rfl, ?_⟩
 refine rP 2 120 (.slice Ab0 nb0 cb0) rfl rfl ?_
 refine rC 3 121 17 [.tmp 119, .tmp 120] #[22, 22] [.slice AA4 nn6 nn7, .slice Ab0 nb0 cb0] rfl rfl rfl ?_
 by_cases hsa1 : S1 = Ub0
 ·refine (Mur.calls_yes (Same20_any AA4 nn6 nn7 S1 Ab0 nb0 cb0 Ub0 W30 ow6.sl (Mur.SlA.chg hrb21 ch25 (fun g off e hl => trivial)) (by omega)) hsa1).mono ?_
  rintro _ W31 ⟨rfl, ch26⟩
  have zz31 := ch26.size
  refine ⟨_, rfl, ?_⟩
  refine rP 4 122 (.bool false) rfl rfl ?_
  refine rP 5 123 (.bool false) rfl rfl ?_
  refine rP 6 124 (.pointer (some ⟨gs2, 0, none⟩)) rfl rfl ?_
  refine rC 7 125 18 [.tmp 124, .const (.slice none 0 0)] #[24, 38] [.pointer (some ⟨gs2, 0, none⟩), .slice none 0 0] rfl rfl rfl ?_
  have hD49 := Mur.SetF.chg hD47 ch25 (fun s hs => trivial)
  have hD50 := Mur.SetF.chg hD49 ch26 (fun s hs => trivial)
  refine (Below_any W8.heap.size S2 gs2 E2 ([]) none 0 0 W31 hD50 (Byt.nil _ none) (by omega)).mono ?_
  rw [Mur.belowL_nil]
  rintro _ W32 ⟨AA5, nn8, nn9, rfl, ow7, ch27⟩
  have zz32 := ch27.size
  have hq15 := ow7.nc
  have hq16 := ow7.cm
  have hq17 := ow7.sl.len
  have hq18 : S2.length ≤ 200 := Nat.le_trans (Nat.le_refl _) (Mur.SetF.len hD50)
  refine ⟨_, rfl, ?_⟩
  refine rP 8 126 (.slice Ab0 nb0 cb0) rfl rfl ?_
  refine rC 9 127 17 [.tmp 125, .tmp 126] #[22, 22] [.slice AA5 nn8 nn9, .slice Ab0 nb0 cb0] rfl rfl rfl ?_
  by_cases hsa2 : S2 = Ub0
  ·refine (Mur.calls_yes (Same20_any AA5 nn8 nn9 S2 Ab0 nb0 cb0 Ub0 W32 ow7.sl (Mur.SlA.chg (Mur.SlA.chg (Mur.SlA.chg hrb21 ch25 (fun g off e hl => trivial)) ch26 (fun g off e hl => trivial)) ch27 (fun g off e hl => trivial)) (by omega)) hsa2).mono ?_
   rintro _ W33 ⟨rfl, ch28⟩
   have zz33 := ch28.size
   refine ⟨_, rfl, ?_⟩
   refine rP 10 128 (.bool false) rfl rfl ?_
   refine rP 11 129 (.bool false) rfl rfl ?_
   refine rEnd 12 rfl (nxt (wp_cond_false (by kernel_rfl) (wp_skip (inN (nxt (reg ?_))))))
   have hsb4 := Mur.sub_of hcb0 hsb1 hsb2
   have hsb5 : ∀ y_, y_ ∈ S1 → y_ ∈ ((Z1 ++ Z2) ++ Z3) := by rw [hsa1]; exact hsb4
   have hsb6 : ∀ y_, y_ ∈ S2 → y_ ∈ ((Z1 ++ Z2) ++ Z3) := by rw [hsa2]; exact hsb4
   have hD51 := Mur.SetF.chg hD46 ch25 (fun s hs => trivial)
   have hD52 := Mur.SetF.chg hD51 ch26 (fun s hs => trivial)
   have hD53 := Mur.SetF.chg hD52 ch27 (fun s hs => trivial)
   have hD54 := Mur.SetF.chg hD53 ch28 (fun s hs => trivial)
   have hD55 := Mur.SetF.chg hD50 ch27 (fun s hs => trivial)
   have hD56 := Mur.SetF.chg hD55 ch28 (fun s hs => trivial)
   have hD57 := Mur.SetF.chg hD48 ch25 (fun s hs => trivial)
   have hD58 := Mur.SetF.chg hD57 ch26 (fun s hs => trivial)
   have hD59 := Mur.SetF.chg hD58 ch27 (fun s hs => trivial)
   have hD60 := Mur.SetF.chg hD59 ch28 (fun s hs => trivial)
   have hrb22 := (Chg.hp ch28 (Chg.hp ch27 (Chg.hp ch26 (Chg.hp ch25 hrb16 trivial) trivial) trivial) trivial)
   have hrb23 := (Chg.hp ch28 (Chg.hp ch27 (Chg.hp ch26 (Chg.hp ch25 hrb17 trivial) trivial) trivial) trivial)
   have hrb24 := (Mur.SlA.chg (Mur.SlA.chg (Mur.SlA.chg (Mur.SlA.chg hrb18 ch25 (fun g off e hl => trivial)) ch26 (fun g off e hl => trivial)) ch27 (fun g off e hl => trivial)) ch28 (fun g off e hl => trivial))
   have kk25 := Chg.step hB4 ch25 trivial
   have kk26 := Chg.step kk25 ch26 trivial
   have kk27 := Chg.step kk26 ch27 trivial
   have kk28 := Chg.step kk27 ch28 trivial
   have hty34 : w.heap.size + 1 ≤ W33.heap.size := by omega
   have hM15 := Mur.SetF.mem hD54
   have hty37 := hM15 _ (Mur.SetF.self hD54)
   have hty38 : w.heap.size + 1 ≤ W5.heap.size := by omega
   have hM16 := Mur.SetF.mem hD56
   have hty39 := hM16 _ (Mur.SetF.self hD56)
   have hty40 : w.heap.size + 1 ≤ W8.heap.size := by omega
   have hM17 := Mur.SetF.mem hD60
   have hty41 := hM17 _ (Mur.SetF.self hD60)
   have hty42 : w.heap.size + 1 ≤ W13.heap.size := by omega
   have hty43 : w.heap.size < qh1 ∧ qh1 < W33.heap.size := by omega
   have hoy5 : ∀ g_ off_, Aa2 = some ⟨g_, off_, none⟩ → True ∧ (w.heap.size < g_ ∧ g_ < W33.heap.size) := fun g_ off_ e_ => ⟨trivial, by have := (hoy4 g_ off_ e_).2; omega⟩
   clear hq11 hq12 hq13 hq14 hq15 hq16 hq17 hq18 zz30 zz31 zz32 zz33
   refine rQ 0 137 _ rfl rfl (qint64 (n := 0 + 1) (z := 1) (by omega) (by omega) (by omega)) ?_
   refine rP 1 80 (.int .i64 1) rfl rfl ?_
   refine rEnd 2 rfl (nxt (Wk.rdS (wp_seq (reg ?_))))
   refine rQ 0 81 _ rfl rfl (qboolT (b := decide ((1 : Int) < (3 : Int))) (decide_eq_true (by decide))) ?_
   refine rEnd 1 rfl (nxt (wp_seq (wp_cond_true (by kernel_rfl) (wp_skip (nxt (wp_seq (wp_block (wp_seq (reg ?_)))))))))
   refine rP 0 82 (.agg #[.int .i64 1, .int .i64 2]) rfl rfl ?_
   refine rX 1 17 rfl rfl (new_ex (.pointer (some ⟨W33.heap.size, 0, none⟩)) #[.int .i64 0, .int .i64 0] 74 (by kernel_rfl)) ?_
   rintro _ W34 ⟨rfl, hb9, ch29, sz6⟩
   have zz34 := ch29.size
   refine rY 2 rfl rfl (Wk.storeR 74 (.tmp 17) (.tmp 82) rfl W33.heap.size 0 (by kernel_rfl) ([.int .i64 1, .int .i64 2]) (by kernel_rfl) (by kernel_rfl) (by intro v hv; simp at hv; rcases hv with h | h <;> (subst h; rfl)) 74 ([.int .i64 0, .int .i64 0]) hb9 (by simp)) ?_
   rintro W35 ⟨hb10, ch30⟩
   replace hb10 : W35.heap[W33.heap.size]? = some (.cells #[.int .i64 1, .int .i64 2] 74 (0, 0)) := hb10
   have zz35 := ch30.size
   refine rEnd 3 rfl (nxt (wp_seq ?_))
   refine dReg ([]) (by kernel_rfl) ?_
   intro W36 ch31 sz7
   have zz36 := ch31.size
   have sS2 : Chg ([]) W36 W36 := (Chg.refl _).more (by simp)
   refine dV 0 83 (.pointer (some ⟨W33.heap.size, 0, none⟩)) rfl rfl (fun w' hw' => (Wk.index_arr 74 3 (.tmp 17) (.const (.int .i64 0)) rfl 2 Tryd.underlying74 1 (by kernel_rfl) W33.heap.size 0 0 .i64 (by kernel_rfl) (by kernel_rfl) (by decide))) sS2 ?_
   refine dV 1 84 (.int .i64 1) rfl rfl (fun w' hw' => (load1 3 (.tmp 83) rfl (by kernel_rfl) ⟨W33.heap.size, 0, none⟩ (by kernel_rfl) (.int .i64 1) ((cell_of_row _ _ 0 _ _ _ (Chg.hp hw' (Chg.hp ch31 hb10 trivial) trivial)).trans rfl))) sS2 ?_
   refine dV 2 85 (.pointer (some ⟨w.heap.size, 1, none⟩)) rfl rfl (fun w' hw' => (Wk.index_arr 72 24 (.tmp 7) (.tmp 84) rfl 3 Tryd.underlying72 1 (by kernel_rfl) w.heap.size 0 1 .i64 (by kernel_rfl) (by kernel_rfl) (by decide))) sS2 ?_
   refine dV 3 86 (.pointer (some ⟨gs2, 0, none⟩)) rfl rfl (fun w' hw' => (load1 24 (.tmp 85) rfl (by kernel_rfl) ⟨w.heap.size, 1, none⟩ (by kernel_rfl) (.pointer (some ⟨gs2, 0, none⟩)) ((cell_of_row _ _ 1 _ _ _ (Chg.hp hw' (Chg.hp ch31 (Chg.hp ch30 (Chg.hp ch29 hrb22 trivial) ⟨by omega, trivial⟩) trivial) trivial)).trans rfl))) sS2 ?_
   refine dV 4 87 (.pointer (some ⟨W33.heap.size, 1, none⟩)) rfl rfl (fun w' hw' => (Wk.index_arr 74 3 (.tmp 17) (.const (.int .i64 1)) rfl 2 Tryd.underlying74 1 (by kernel_rfl) W33.heap.size 0 1 .i64 (by kernel_rfl) (by kernel_rfl) (by decide))) sS2 ?_
   refine dV 5 88 (.int .i64 2) rfl rfl (fun w' hw' => (load1 3 (.tmp 87) rfl (by kernel_rfl) ⟨W33.heap.size, 1, none⟩ (by kernel_rfl) (.int .i64 2) ((cell_of_row _ _ 1 _ _ _ (Chg.hp hw' (Chg.hp ch31 hb10 trivial) trivial)).trans rfl))) sS2 ?_
   refine dV 6 89 (.pointer (some ⟨w.heap.size, 2, none⟩)) rfl rfl (fun w' hw' => (Wk.index_arr 72 24 (.tmp 7) (.tmp 88) rfl 3 Tryd.underlying72 1 (by kernel_rfl) w.heap.size 0 2 .i64 (by kernel_rfl) (by kernel_rfl) (by decide))) sS2 ?_
   refine dV 7 90 (.pointer (some ⟨gs3, 0, none⟩)) rfl rfl (fun w' hw' => (load1 24 (.tmp 89) rfl (by kernel_rfl) ⟨w.heap.size, 2, none⟩ (by kernel_rfl) (.pointer (some ⟨gs3, 0, none⟩)) ((cell_of_row _ _ 2 _ _ _ (Chg.hp hw' (Chg.hp ch31 (Chg.hp ch30 (Chg.hp ch29 hrb22 trivial) ⟨by omega, trivial⟩) trivial) trivial)).trans rfl))) sS2 ?_
   refine dV 8 18 (.pointer (some ⟨gs2, 0, none⟩)) rfl rfl (fun _ _ => by kernel_rfl) sS2 ?_
   refine dV 9 19 (.pointer (some ⟨gs3, 0, none⟩)) rfl rfl (fun _ _ => by kernel_rfl) sS2 ?_
   refine dEnd (by kernel_rfl) (nxt (wp_seq (reg ?_)))
   refine rP 0 91 (.pointer (some ⟨gs2, 0, none⟩)) rfl rfl ?_
   refine rC 1 92 18 [.tmp 91, .const (.slice none 0 0)] #[24, 38] [.pointer (some ⟨gs2, 0, none⟩), .slice none 0 0] rfl rfl rfl ?_
   have hD61 := Mur.SetF.chg hD56 ch29 (fun s hs => trivial)
   have hD62 := Mur.SetF.chg hD61 ch30 (fun s hs => ⟨by have := hM16 s hs; omega, trivial⟩)
   have hD63 := Mur.SetF.chg hD62 ch31 (fun s hs => trivial)
   refine (Below_any W8.heap.size S2 gs2 E2 ([]) none 0 0 W36 hD63 (Byt.nil _ none) (by omega)).mono ?_
   rw [Mur.belowL_nil]
   rintro _ W37 ⟨AA6, nn10, nn11, rfl, ow8, ch32⟩
   have zz37 := ch32.size
   have hq19 := ow8.nc
   have hq20 := ow8.cm
   have hq21 := ow8.sl.len
   have hq22 : S2.length ≤ 200 := Nat.le_trans (Nat.le_refl _) (Mur.SetF.len hD63)
   refine ⟨_, rfl, ?_⟩
   refine rP 2 93 (.pointer (some ⟨gs3, 0, none⟩)) rfl rfl ?_
   refine rC 3 94 18 [.tmp 93, .const (.slice none 0 0)] #[24, 38] [.pointer (some ⟨gs3, 0, none⟩), .slice none 0 0] rfl rfl rfl ?_
   have hD64 := Mur.SetF.chg hD60 ch29 (fun s hs => trivial)
   have hD65 := Mur.SetF.chg hD64 ch30 (fun s hs => ⟨by have := hM17 s hs; omega, trivial⟩)
   have hD66 := Mur.SetF.chg hD65 ch31 (fun s hs => trivial)
   have hD67 := Mur.SetF.chg hD66 ch32 (fun s hs => trivial)
   refine (Below_any W13.heap.size Z3 gs3 FF3 ([]) none 0 0 W37 hD67 (Byt.nil _ none) (by omega)).mono ?_
   rw [Mur.belowL_nil]
   rintro _ W38 ⟨AA7, nn12, nn13, rfl, ow9, ch33⟩
   have zz38 := ch33.size
   have hq23 := ow9.nc
   have hq24 := ow9.cm
   have hq25 := ow9.sl.len
   have hq26 : Z3.length ≤ 200 := Nat.le_trans (Nat.le_refl _) (Mur.SetF.len hD67)
   refine ⟨_, rfl, ?_⟩
   refine rP 4 20 (.slice AA6 nn10 nn11) rfl rfl ?_
   refine rP 5 21 (.slice AA7 nn12 nn13) rfl rfl ?_
   refine rEnd 6 rfl (nxt (wp_seq (wp_seq (reg ?_))))
   refine rP 0 95 (.pointer (some ⟨gs2, 0, none⟩)) rfl rfl ?_
   refine rP 1 96 (.pointer (some ⟨gs3, 0, none⟩)) rfl rfl ?_
   refine rQ 2 97 (.agg #[.pointer (some ⟨gs2, 0, none⟩), .pointer (some ⟨gs3, 0, none⟩)]) rfl rfl (Mur.run_built 62 _ rfl [(0, .pointer (some ⟨gs2, 0, none⟩)), (1, .pointer (some ⟨gs3, 0, none⟩))] (by kernel_rfl) _ (by kernel_rfl)) ?_
   refine rC 3 98 34 [.tmp 97, .const (.bool false)] #[62, 4] [.agg #[.pointer (some ⟨gs2, 0, none⟩), .pointer (some ⟨gs3, 0, none⟩)], .bool false] rfl rfl rfl ?_
   have hD68 := Mur.SetF.chg hD63 ch32 (fun s hs => trivial)
   have hD69 := Mur.SetF.chg hD68 ch33 (fun s hs => trivial)
   have hD70 := Mur.SetF.chg hD67 ch33 (fun s hs => trivial)
   have htw2 := Mur.two_gen (Mur.SetF.srt hD69) (Mur.SetF.len hD69) (Mur.SetF.ok hD69) (Mur.SetF.srt hD70) (Mur.SetF.ok hD70) hsb6 hsb3 hzz1
   have kk29 := Chg.step kk28 ch29 trivial
   have kk30 := Chg.step kk29 ch30 ⟨.inr (by omega), trivial⟩
   have kk31 := Chg.step kk30 ch31 trivial
   have kk32 := Chg.step kk31 ch32 trivial
   have kk33 := Chg.step kk32 ch33 trivial
   refine (exchange_any w S2 Z3 (Mur.addsL Z3 S2) htw2.1 W8.heap.size W13.heap.size gs2 gs3 E2 FF3 false W38 HV.out (Chg.below0 kk33) (by omega) hD69 hD70 jj11).mono ?_
   rintro _ W39 ⟨rx2, S3, S4, E3, E4, rfl, hone2, hall2, hD71, hD72, jj13, hN3, hN4, ch34⟩
   have jj14 : Mur.Dj E4 E3 := fun s_ h_ k_ => jj13 s_ k_ h_
   have hmF2 : ∀ t_, t_ ∈ (E2 ++ FF3) → w.heap.size ≤ t_ ∧ t_ < W38.heap.size := fun t_ ht_ => by rcases List.mem_append.1 ht_ with h_ | h_ <;> first | (have := hM16 t_ h_; omega) | (have := hM17 t_ h_; omega)
   have hof4 : ∀ g_ off_, Aa2 = some ⟨g_, off_, none⟩ → g_ ∉ E2 ∧ g_ ∉ FF3 := fun g_ off_ e_ => ⟨hnp18 g_ off_ e_, hnp6 g_ off_ e_⟩
   have ow10 := Mur.OwnA.chg ow8 ch33 (fun q e _ _ => trivial)
   have hni3 := ow10.nil
   have hof5 : ∀ g_ off_, AA6 = some ⟨g_, off_, none⟩ → g_ ∉ E2 ∧ g_ ∉ FF3 := fun g_ off_ e_ => ⟨fun h_ => by have := (ow10.at_ g_ off_ e_).2.1; have := hM16 g_ h_; omega, fun h_ => by have := (ow10.at_ g_ off_ e_).2.1; have := hM17 g_ h_; omega⟩
   have hlo3 : ∀ g_ off_, AA6 = some ⟨g_, off_, none⟩ → w.heap.size < g_ ∧ g_ < W38.heap.size := fun g_ off_ e_ => by have := ow10.at_ g_ off_ e_; omega
   have hof6 : ∀ g_ off_, AA7 = some ⟨g_, off_, none⟩ → g_ ∉ E2 ∧ g_ ∉ FF3 := fun g_ off_ e_ => ⟨fun h_ => by have := (ow9.at_ g_ off_ e_).2.1; have := hM16 g_ h_; omega, fun h_ => by have := (ow9.at_ g_ off_ e_).2.1; have := hM17 g_ h_; omega⟩
   have hlo4 : ∀ g_ off_, AA7 = some ⟨g_, off_, none⟩ → w.heap.size < g_ ∧ g_ < W38.heap.size := fun g_ off_ e_ => by have := ow9.at_ g_ off_ e_; omega
   have hD73 := Mur.SetF.chg hD54 ch29 (fun s hs => trivial)
   have hD74 := Mur.SetF.chg hD73 ch30 (fun s hs => ⟨by have := hM15 s hs; omega, trivial⟩)
   have hD75 := Mur.SetF.chg hD74 ch31 (fun s hs => trivial)
   have hD76 := Mur.SetF.chg hD75 ch32 (fun s hs => trivial)
   have hD77 := Mur.SetF.chg hD76 ch33 (fun s hs => trivial)
   have zz39 := ch34.size
   have hM18 := Mur.SetF.mem hD71
   have hM19 := Mur.SetF.mem hD72
   have zz40 := hM18 _ (Mur.SetF.self hD71)
   have zz41 := hM19 _ (Mur.SetF.self hD72)
   have hD78 := Mur.SetF.chg hD77 ch34 (fun s_ hs_ => Mur.off_iff.2 fun t_ ht_ e_ => by rcases List.mem_append.1 ht_ with h_ | h_ <;> first | exact jj7 s_ hs_ (e_ ▸ h_) | exact jj9 s_ hs_ (e_ ▸ h_))
   have jj15 : Mur.Dj E3 E1 := fun s_ h_ k_ => by rcases hN3 s_ h_ with q_ | q_ <;> first | exact jj8 s_ q_ k_ | (have := hM15 s_ k_; omega)
   have jj16 : Mur.Dj E1 E3 := fun s_ h_ k_ => jj15 s_ k_ h_
   have jj17 : Mur.Dj E4 E1 := fun s_ h_ k_ => by rcases hN4 s_ h_ with q_ | q_ <;> first | exact jj10 s_ q_ k_ | (have := hM15 s_ k_; omega)
   have jj18 : Mur.Dj E1 E4 := fun s_ h_ k_ => jj17 s_ k_ h_
   have hdo7 : SlA W39 Aa2 _ Ua2 := Mur.SlA.chg (Mur.SlA.chg (Mur.SlA.chg (Mur.SlA.chg (Mur.SlA.chg (Mur.SlA.chg hrb24 ch29 (fun g off e hl => trivial)) ch30 (fun g off e hl => ⟨by have := hoy5 g off e; omega, trivial⟩)) ch31 (fun g off e hl => trivial)) ch32 (fun g off e hl => trivial)) ch33 (fun g off e hl => trivial)) ch34 (fun g_ off_ e_ _ => Mur.off_iff.2 fun t_ ht_ e2_ => by subst e2_; rcases List.mem_append.1 ht_ with h_ | h_ <;> first | exact (hof4 g_ off_ e_).1 h_ | exact (hof4 g_ off_ e_).2 h_)
   have hdo8 : SlA W39 AA6 _ S2 := Mur.SlA.chg ow10.sl ch34 (fun g_ off_ e_ _ => Mur.off_iff.2 fun t_ ht_ e2_ => by subst e2_; rcases List.mem_append.1 ht_ with h_ | h_ <;> first | exact (hof5 g_ off_ e_).1 h_ | exact (hof5 g_ off_ e_).2 h_)
   have hdo9 : SlA W39 AA7 _ Z3 := Mur.SlA.chg ow9.sl ch34 (fun g_ off_ e_ _ => Mur.off_iff.2 fun t_ ht_ e2_ => by subst e2_; rcases List.mem_append.1 ht_ with h_ | h_ <;> first | exact (hof6 g_ off_ e_).1 h_ | exact (hof6 g_ off_ e_).2 h_)
   have hbx3 : W39.heap[w.heap.size]? = some (.cells #[.pointer (some ⟨gs1, 0, none⟩), .pointer (some ⟨gs2, 0, none⟩), .pointer (some ⟨gs3, 0, none⟩)] 72 (0, 0)) := Chg.hp ch34 (Chg.hp ch33 (Chg.hp ch32 (Chg.hp ch31 (Chg.hp ch30 (Chg.hp ch29 hrb22 trivial) ⟨by omega, trivial⟩) trivial) trivial) trivial) (Mur.off_iff.2 fun t_ ht_ e2_ => by subst e2_; rcases List.mem_append.1 ht_ with h_ | h_ <;> first | exact hnp14 h_ | exact hnp9 h_)
   have hnp20 : w.heap.size ∉ E4 := fun h_ => (hN4 _ h_).elim hnp9 (fun k_ => by omega)
   have hbx4 : W39.heap[qh1]? = some (.cells (hc ++ kc) 97 (0, 0)) := Chg.hp ch34 (Chg.hp ch33 (Chg.hp ch32 (Chg.hp ch31 (Chg.hp ch30 (Chg.hp ch29 hrb23 trivial) ⟨by omega, trivial⟩) trivial) trivial) trivial) (Mur.off_iff.2 fun t_ ht_ e2_ => by subst e2_; rcases List.mem_append.1 ht_ with h_ | h_ <;> first | exact hnp16 h_ | exact hnp12 h_)
   have hnp22 : qh1 ∉ E4 := fun h_ => (hN4 _ h_).elim hnp12 (fun k_ => by omega)
   have hnp24 : ∀ g_ off_, Aa2 = some ⟨g_, off_, none⟩ → g_ ∉ E4 := fun g_ off_ e_ h_ => (hN4 _ h_).elim (hnp6 g_ off_ e_) (fun k_ => by have := (hoy5 g_ off_ e_).2; omega)
   refine ⟨_, rfl, ?_⟩
   refine rQ 4 99 _ rfl rfl (qboolF (b := decide (((rx2 : Nat) : Int) < (0 : Int))) (decide_eq_false (by omega))) ?_
   refine rEnd 5 rfl (nxt (wp_cond_false (by kernel_rfl) (wp_skip (nxt (wp_seq (reg ?_))))))
   refine rX 0 100 rfl rfl (new_ex (.slice (some ⟨W39.heap.size, 0, none⟩) 0 0) #[] 32 (by kernel_rfl)) ?_
   rintro _ W40 ⟨rfl, hb11, ch35, sz8⟩
   have zz42 := ch35.size
   refine rP 1 101 (.slice AA6 nn10 nn11) rfl rfl ?_
   have ow11 := Mur.ownA_empty hb11 (Nat.le_refl _)
   refine rX 2 102 rfl rfl (Mur.appendA (.tmp 100) (.tmp 101) 50 32 rfl Tryd.underlying50 attI W39.heap.size (some ⟨W39.heap.size, 0, none⟩) 0 0 ([]) AA6 nn10 nn11 S2 (by kernel_rfl) (by kernel_rfl) ow11 (Mur.SlA.chg hdo8 ch35 (fun g off e hl => trivial)) (fun h_ => hni3 h_) (by omega) (by omega) nn10 (by omega) S2 rfl) ?_
   rintro _ W41 ⟨AA8, nn14, rfl, ow12, ch36, ha2⟩
   have zz43 := ch36.size
   have hq27 := ow12.nc
   have hq28 := ow12.cm
   refine rP 3 22 (.slice AA8 nn10 nn14) rfl rfl ?_
   refine rEnd 4 rfl (nxt (wp_seq (wp_seq (reg ?_))))
   refine rP 0 103 (.slice AA7 nn12 nn13) rfl rfl ?_
   refine rP 1 104 (.int .i64 ((nn12 : Nat) : Int)) rfl rfl ?_
   refine rP 2 105 (.int .i64 0) rfl rfl ?_
   refine rEnd 3 rfl (nxt (wp_block ?_))
   have kk34 := Chg.step kk33 ch34 (Mur.newOr_iff.2 (fun t ht => .inr (by have := hmF2 t ht; omega)))
   have kk35 := Chg.step kk34 ch35 trivial
   have kk36 := Chg.step kk35 ch36 (newOr_blk (fun g hg => by have := ow11.lt g hg; omega))
   have hD79 := Mur.SetF.chg hD78 ch35 (fun s hs => trivial)
   have hD80 := Mur.SetF.chg hD79 ch36 (fun s hs => (off_blk (fun gz hgz => by have := ow11.lt gz hgz; have := hM15 s hs; omega)))
   have hD81 := Mur.SetF.chg hD71 ch35 (fun s hs => trivial)
   have hD82 := Mur.SetF.chg hD81 ch36 (fun s hs => (off_blk (fun gz hgz => by have := ow11.lt gz hgz; have := hM18 s hs; omega)))
   have hD83 := Mur.SetF.chg hD72 ch35 (fun s hs => trivial)
   have hD84 := Mur.SetF.chg hD83 ch36 (fun s hs => (off_blk (fun gz hgz => by have := ow11.lt gz hgz; have := hM19 s hs; omega)))
   refine Wk.loop (fun m_ a wr => ∃ (ib1 : Nat) (Ab1 : Option Addr) (nb1 : Nat) (cb1 : Nat) (Ub1 : List Att), m_ = nn12 - ib1 ∧ a = Three_F7 a.tmps (.pointer (some ⟨w.heap.size, 0, none⟩)) (.slice Aa2 na2 ca2) (.pointer (some ⟨qh1, 0, none⟩)) (.pointer (some ⟨gs2, 0, none⟩)) (.pointer (some ⟨gs3, 0, none⟩)) (.slice AA6 nn10 nn11) (.slice AA7 nn12 nn13) (.slice Ab1 nb1 cb1) (.agg #[.int .i64 0, .int .i64 1, .int .i64 1, .int .i64 2, .int .i64 0, .int .i64 2]) (.int .i64 1) (.int .i64 ((nn12 : Nat) : Int)) (.int .i64 ((ib1 : Nat) : Int)) ∧ ib1 ≤ nn12 ∧ Mur.Canon (fun y_ => y_ ∈ S2 ++ Z3.take ib1) Ub1 ∧ SlA wr Ab1 nb1 Ub1 ∧ (nb1 ≤ cb1 ∧ cb1 ≤ 9223372036854775807) ∧ Chg [] W41 wr) (nn12 - 0) ?_ ?_
   ·refine ⟨0, AA8, nn10, nn14, S2, rfl, by kernel_rfl, (by omega), ((Mur.canon_self (Mur.SetF.srt hD69) (Mur.SetF.len hD69) (Mur.SetF.ok hD69)).iff fun y_ => by simp), ow12.sl, (by have := ow12.nc; have := Nat.le_trans ow12.cm (show Go.maxLen ≤ 9223372036854775807 by unfold Go.maxLen; omega); omega), (Chg.refl _)⟩
   rintro mm5 aa5 W42 ⟨ib1, Ab1, nb1, cb1, Ub1, hmm5, hF5, hib1, hcb1, hsb1, hnb1, HBb1⟩
   generalize aa5.tmps = bb5 at hF5
   subst hF5
   have hz5 := HBb1.size
   have hB5 := Chg.step kk36 HBb1 trivial
   have hD85 := Mur.SetF.chg hD80 HBb1 (fun _ _ => trivial)
   have hD86 := Mur.SetF.chg hD82 HBb1 (fun _ _ => trivial)
   have hD87 := Mur.SetF.chg hD84 HBb1 (fun _ _ => trivial)
   have hlb1 := hsb1.len
   have hkb1 := hcb1.len
   by_cases hltb1 : ib1 < nn12
   ·have hslb1 := (Mur.SlA.chg (Mur.SlA.chg (Mur.SlA.chg hdo9 ch35 (fun g off e hl => trivial)) ch36 (fun g off e hl => (off_blk (fun gz hgz => by have := ow11.lt gz hgz; have := hlo4 g off e; omega)))) HBb1 (fun g off e hl => trivial))
    obtain ⟨g_x, o_x, rfl, _⟩ := hslb1.ex (by omega)
    obtain ⟨x, hx⟩ : ∃ x, Z3[ib1]? = some x := ⟨_, List.getElem?_eq_getElem (by have := hslb1.len; omega)⟩
    refine wp_seq (reg ?_)
    refine rQ 0 106 _ rfl rfl (qboolT (b := decide (((ib1 : Nat) : Int) < ((nn12 : Nat) : Int))) (decide_eq_true (by omega))) ?_
    refine rEnd 1 rfl (nxt (wp_seq (wp_cond_true (by kernel_rfl) (wp_skip (nxt (wp_seq (wp_block (wp_seq (reg ?_)))))))))
    refine rP 0 107 (.int .i64 ((ib1 : Nat) : Int)) rfl rfl ?_
    refine rP 1 23 (.int .i64 ((ib1 : Nat) : Int)) rfl rfl ?_
    refine rEnd 2 rfl (nxt (reg ?_))
    refine rP 0 109 (.slice Ab1 nb1 cb1) rfl rfl ?_
    refine rP 1 110 (.slice (some ⟨g_x, o_x, none⟩) nn12 nn13) rfl rfl ?_
    refine rP 2 111 (.int .i64 ((ib1 : Nat) : Int)) rfl rfl ?_
    refine rQ 3 112 (.pointer (some ⟨g_x, o_x + ib1 * 97, none⟩)) rfl rfl (index_sl 50 32 (.tmp 110) (.tmp 111) rfl Tryd.underlying50 97 (by kernel_rfl) g_x o_x nn12 nn13 ib1 .i64 (by kernel_rfl) (by kernel_rfl) (by omega)) ?_
    refine rQ 4 113 (.agg ((Mur.attC x.k x.r x.n x.t).toArray)) rfl rfl (loadR 32 (.tmp 112) rfl _ Tryd.underlying32 rfl g_x (o_x + ib1 * 97) (by kernel_rfl) (Mur.attC x.k x.r x.n x.t) (by rw [Mur.attC_length x.hk x.hr x.ht]; kernel_rfl) ((Mur.SlA.chg (Mur.SlA.chg (Mur.SlA.chg hdo9 ch35 (fun g off e hl => trivial)) ch36 (fun g off e hl => (off_blk (fun gz hgz => by have := ow11.lt gz hgz; have := hlo4 g off e; omega)))) HBb1 (fun g off e hl => trivial)).elem hx)) ?_
    refine rC 5 114 26 [.tmp 109, .tmp 113] #[50, 32] [.slice Ab1 nb1 cb1, .agg ((Mur.attC x.k x.r x.n x.t).toArray)] rfl rfl rfl ?_
    refine (Radd_any Ab1 nb1 cb1 Ub1 x W42 hsb1 hcb1.srt hcb1.len (by omega)).mono ?_
    rintro _ W43 ⟨DA8, dn8, dc8, rfl, hd_5, hpl5, hnc5, ch37⟩
    have zz44 := ch37.size
    refine ⟨_, rfl, ?_⟩
    refine rP 6 108 (.tuple #[.slice DA8 dn8 dc8, .int .i64 ((Mur.addS x Ub1).2)]) rfl rfl ?_
    refine rP 7 115 (.slice DA8 dn8 dc8) rfl rfl ?_
    refine rP 8 116 (.int .i64 ((Mur.addS x Ub1).2)) rfl rfl ?_
    refine rP 9 22 (.slice DA8 dn8 dc8) rfl rfl ?_
    refine rEnd 10 rfl (inN (nxt (reg ?_)))
    refine rQ 0 117 _ rfl rfl (qint64 (n := ((ib1 : Nat) : Int) + 1) (z := ((ib1 + 1 : Nat) : Int)) (by omega) (by omega) (by omega)) ?_
    refine rP 1 105 (.int .i64 ((ib1 + 1 : Nat) : Int)) rfl rfl ?_
    refine rEnd 2 rfl (nxt ?_)
    have kk37 := Chg.step HBb1 ch37 trivial
    refine ⟨_, ?_, ib1 + 1, DA8, dn8, dc8, (Mur.addS x Ub1).1, rfl, by kernel_rfl, (by omega), ((hcb1.add x).iff fun y_ => Mur.mem_app_succ hx), hd_5, (by omega), kk37⟩
    omega
   have hllb1 := ((Mur.SlA.chg (Mur.SlA.chg (Mur.SlA.chg hdo9 ch35 (fun g off e hl => trivial)) ch36 (fun g off e hl => (off_blk (fun gz hgz => by have := ow11.lt gz hgz; have := hlo4 g off e; omega)))) HBb1 (fun g off e hl => trivial))).len
   rw [List.take_of_length_le (show (Z3).length ≤ ib1 by omega)] at hcb1
   have hty44 : nn10 ≤ 200 := by omega
   have hty45 : nn12 ≤ 200 := by omega
   have hrb25 := (Chg.hp HBb1 (Chg.hp ch36 (Chg.hp ch35 hbx3 trivial) (off_blk (fun gz hgz => by have := ow11.lt gz hgz; omega))) trivial)
   have hrb26 := (Chg.hp HBb1 (Chg.hp ch36 (Chg.hp ch35 hbx4 trivial) (off_blk (fun gz hgz => by have := ow11.lt gz hgz; omega))) trivial)
   have hrb27 := (Mur.SlA.chg (Mur.SlA.chg (Mur.SlA.chg hdo7 ch35 (fun g off e hl => trivial)) ch36 (fun g off e hl => (off_blk (fun gz hgz => by have := ow11.lt gz hgz; have := hoy5 g off e; omega)))) HBb1 (fun g off e hl => trivial))
   have hrb28 := (Mur.SlA.chg (Mur.SlA.chg (Mur.SlA.chg hdo8 ch35 (fun g off e hl => trivial)) ch36 (fun g off e hl => (off_blk (fun gz hgz => by have := ow11.lt gz hgz; have := hlo3 g off e; omega)))) HBb1 (fun g off e hl => trivial))
   have hrb29 := (Mur.SlA.chg (Mur.SlA.chg (Mur.SlA.chg hdo9 ch35 (fun g off e hl => trivial)) ch36 (fun g off e hl => (off_blk (fun gz hgz => by have := ow11.lt gz hgz; have := hlo4 g off e; omega)))) HBb1 (fun g off e hl => trivial))
   have hrb30 := hsb1
   have hty46 : w.heap.size + 1 ≤ W42.heap.size := by omega
   have hM20 := Mur.SetF.mem hD85
   have hty49 := hM20 _ (Mur.SetF.self hD85)
   have hty50 : w.heap.size + 1 ≤ W5.heap.size := by omega
   have hM21 := Mur.SetF.mem hD86
   have hty51 := hM21 _ (Mur.SetF.self hD86)
   have hty52 : w.heap.size + 1 ≤ W8.heap.size := by omega
   have hM22 := Mur.SetF.mem hD87
   have hty53 := hM22 _ (Mur.SetF.self hD87)
   have hty54 : w.heap.size + 1 ≤ W13.heap.size := by omega
   have hty55 : w.heap.size < qh1 ∧ qh1 < W42.heap.size := by omega
   have hoy6 : ∀ g_ off_, Aa2 = some ⟨g_, off_, none⟩ → True ∧ (w.heap.size < g_ ∧ g_ < W42.heap.size) := fun g_ off_ e_ => ⟨trivial, by have := (hoy5 g_ off_ e_).2; omega⟩
   clear hmm5 hq19 hq20 hq21 hq22 hq23 hq24 hq25 hq26 hq27 hq28 hz5 sz6 sz7 sz8 zz34 zz35 zz36 zz37 zz38 zz39 zz40 zz41 zz42 zz43
   refine wp_seq (reg ?_)
   refine rQ 0 106 _ rfl rfl (qboolF (b := decide (((ib1 : Nat) : Int) < ((nn12 : Nat) : Int))) (decide_eq_false (by omega))) ?_
   refine rEnd 1 rfl (nxt (wp_seq (wp_cond_false (by kernel_rfl) (wp_exit (thX (thX (inX (nxt (wp_seq (reg ?_))))))))))
   refine rP 0 118 (.pointer (some ⟨gs2, 0, none⟩)) rfl rfl ?_
   refine rC 1 119 18 [.tmp 118, .const (.slice none 0 0)] #[24, 38] [.pointer (some ⟨gs2, 0, none⟩), .slice none 0 0] rfl rfl rfl ?_
   refine (Below_any W8.heap.size S3 gs2 E3 ([]) none 0 0 W42 hD86 (Byt.nil _ none) (by omega)).mono ?_
   rw [Mur.belowL_nil]
   rintro _ W44 ⟨AA9, nn15, nn16, rfl, ow13, ch38⟩
   have zz45 := ch38.size
   have hq29 := ow13.nc
   have hq30 := ow13.cm
   have hq31 := ow13.sl.len
   have hq32 : S3.length ≤ 200 := Nat.le_trans (Nat.le_refl _) (Mur.SetF.len hD86)
   refine ⟨_, rfl, ?_⟩
   refine rP 2 120 (.slice Ab1 nb1 cb1) rfl rfl ?_
   refine rC 3 121 17 [.tmp 119, .tmp 120] #[22, 22] [.slice AA9 nn15 nn16, .slice Ab1 nb1 cb1] rfl rfl rfl ?_
   by_cases hsa3 : S3 = Ub1
   ·refine (Mur.calls_yes (Same20_any AA9 nn15 nn16 S3 Ab1 nb1 cb1 Ub1 W44 ow13.sl (Mur.SlA.chg hrb30 ch38 (fun g off e hl => trivial)) (by omega)) hsa3).mono ?_
    rintro _ W45 ⟨rfl, ch39⟩
    have zz46 := ch39.size
    refine ⟨_, rfl, ?_⟩
    refine rP 4 122 (.bool false) rfl rfl ?_
    refine rP 5 123 (.bool false) rfl rfl ?_
    refine rP 6 124 (.pointer (some ⟨gs3, 0, none⟩)) rfl rfl ?_
    refine rC 7 125 18 [.tmp 124, .const (.slice none 0 0)] #[24, 38] [.pointer (some ⟨gs3, 0, none⟩), .slice none 0 0] rfl rfl rfl ?_
    have hD88 := Mur.SetF.chg hD87 ch38 (fun s hs => trivial)
    have hD89 := Mur.SetF.chg hD88 ch39 (fun s hs => trivial)
    refine (Below_any W13.heap.size S4 gs3 E4 ([]) none 0 0 W45 hD89 (Byt.nil _ none) (by omega)).mono ?_
    rw [Mur.belowL_nil]
    rintro _ W46 ⟨AA10, nn17, nn18, rfl, ow14, ch40⟩
    have zz47 := ch40.size
    have hq33 := ow14.nc
    have hq34 := ow14.cm
    have hq35 := ow14.sl.len
    have hq36 : S4.length ≤ 200 := Nat.le_trans (Nat.le_refl _) (Mur.SetF.len hD89)
    refine ⟨_, rfl, ?_⟩
    refine rP 8 126 (.slice Ab1 nb1 cb1) rfl rfl ?_
    refine rC 9 127 17 [.tmp 125, .tmp 126] #[22, 22] [.slice AA10 nn17 nn18, .slice Ab1 nb1 cb1] rfl rfl rfl ?_
    by_cases hsa4 : S4 = Ub1
    ·refine (Mur.calls_yes (Same20_any AA10 nn17 nn18 S4 Ab1 nb1 cb1 Ub1 W46 ow14.sl (Mur.SlA.chg (Mur.SlA.chg (Mur.SlA.chg hrb30 ch38 (fun g off e hl => trivial)) ch39 (fun g off e hl => trivial)) ch40 (fun g off e hl => trivial)) (by omega)) hsa4).mono ?_
     rintro _ W47 ⟨rfl, ch41⟩
     have zz48 := ch41.size
     refine ⟨_, rfl, ?_⟩
     refine rP 10 128 (.bool false) rfl rfl ?_
     refine rP 11 129 (.bool false) rfl rfl ?_
     refine rEnd 12 rfl (nxt (wp_cond_false (by kernel_rfl) (wp_skip (inN (nxt (reg ?_))))))
     have hsb7 := Mur.sub_of hcb1 hsb6 hsb3
     have hsb9 : ∀ y_, y_ ∈ S4 → y_ ∈ ((Z1 ++ Z2) ++ Z3) := by rw [hsa4]; exact hsb7
     have hD90 := Mur.SetF.chg hD85 ch38 (fun s hs => trivial)
     have hD91 := Mur.SetF.chg hD90 ch39 (fun s hs => trivial)
     have hD92 := Mur.SetF.chg hD91 ch40 (fun s hs => trivial)
     have hD93 := Mur.SetF.chg hD92 ch41 (fun s hs => trivial)
     have hD94 := Mur.SetF.chg hD86 ch38 (fun s hs => trivial)
     have hD95 := Mur.SetF.chg hD94 ch39 (fun s hs => trivial)
     have hD96 := Mur.SetF.chg hD95 ch40 (fun s hs => trivial)
     have hD97 := Mur.SetF.chg hD96 ch41 (fun s hs => trivial)
     have hD98 := Mur.SetF.chg hD89 ch40 (fun s hs => trivial)
     have hD99 := Mur.SetF.chg hD98 ch41 (fun s hs => trivial)
     have hrb31 := (Chg.hp ch41 (Chg.hp ch40 (Chg.hp ch39 (Chg.hp ch38 hrb25 trivial) trivial) trivial) trivial)
     have hrb32 := (Chg.hp ch41 (Chg.hp ch40 (Chg.hp ch39 (Chg.hp ch38 hrb26 trivial) trivial) trivial) trivial)
     have hrb33 := (Mur.SlA.chg (Mur.SlA.chg (Mur.SlA.chg (Mur.SlA.chg hrb27 ch38 (fun g off e hl => trivial)) ch39 (fun g off e hl => trivial)) ch40 (fun g off e hl => trivial)) ch41 (fun g off e hl => trivial))
     have kk38 := Chg.step hB5 ch38 trivial
     have kk39 := Chg.step kk38 ch39 trivial
     have kk40 := Chg.step kk39 ch40 trivial
     have kk41 := Chg.step kk40 ch41 trivial
     have hty56 : w.heap.size + 1 ≤ W47.heap.size := by omega
     have hM23 := Mur.SetF.mem hD93
     have hty59 := hM23 _ (Mur.SetF.self hD93)
     have hty60 : w.heap.size + 1 ≤ W5.heap.size := by omega
     have hM24 := Mur.SetF.mem hD97
     have hty61 := hM24 _ (Mur.SetF.self hD97)
     have hty62 : w.heap.size + 1 ≤ W8.heap.size := by omega
     have hM25 := Mur.SetF.mem hD99
     have hty63 := hM25 _ (Mur.SetF.self hD99)
     have hty64 : w.heap.size + 1 ≤ W13.heap.size := by omega
     have hty65 : w.heap.size < qh1 ∧ qh1 < W47.heap.size := by omega
     have hoy7 : ∀ g_ off_, Aa2 = some ⟨g_, off_, none⟩ → True ∧ (w.heap.size < g_ ∧ g_ < W47.heap.size) := fun g_ off_ e_ => ⟨trivial, by have := (hoy6 g_ off_ e_).2; omega⟩
     clear hq29 hq30 hq31 hq32 hq33 hq34 hq35 hq36 zz45 zz46 zz47 zz48
     refine rQ 0 137 _ rfl rfl (qint64 (n := 1 + 1) (z := 2) (by omega) (by omega) (by omega)) ?_
     refine rP 1 80 (.int .i64 2) rfl rfl ?_
     refine rEnd 2 rfl (nxt (Wk.rdS (wp_seq (reg ?_))))
     refine rQ 0 81 _ rfl rfl (qboolT (b := decide ((2 : Int) < (3 : Int))) (decide_eq_true (by decide))) ?_
     refine rEnd 1 rfl (nxt (wp_seq (wp_cond_true (by kernel_rfl) (wp_skip (nxt (wp_seq (wp_block (wp_seq (reg ?_)))))))))
     refine rP 0 82 (.agg #[.int .i64 0, .int .i64 2]) rfl rfl ?_
     refine rX 1 17 rfl rfl (new_ex (.pointer (some ⟨W47.heap.size, 0, none⟩)) #[.int .i64 0, .int .i64 0] 74 (by kernel_rfl)) ?_
     rintro _ W48 ⟨rfl, hb12, ch42, sz9⟩
     have zz49 := ch42.size
     refine rY 2 rfl rfl (Wk.storeR 74 (.tmp 17) (.tmp 82) rfl W47.heap.size 0 (by kernel_rfl) ([.int .i64 0, .int .i64 2]) (by kernel_rfl) (by kernel_rfl) (by intro v hv; simp at hv; rcases hv with h | h <;> (subst h; rfl)) 74 ([.int .i64 0, .int .i64 0]) hb12 (by simp)) ?_
     rintro W49 ⟨hb13, ch43⟩
     replace hb13 : W49.heap[W47.heap.size]? = some (.cells #[.int .i64 0, .int .i64 2] 74 (0, 0)) := hb13
     have zz50 := ch43.size
     refine rEnd 3 rfl (nxt (wp_seq ?_))
     refine dReg ([]) (by kernel_rfl) ?_
     intro W50 ch44 sz10
     have zz51 := ch44.size
     have sS3 : Chg ([]) W50 W50 := (Chg.refl _).more (by simp)
     refine dV 0 83 (.pointer (some ⟨W47.heap.size, 0, none⟩)) rfl rfl (fun w' hw' => (Wk.index_arr 74 3 (.tmp 17) (.const (.int .i64 0)) rfl 2 Tryd.underlying74 1 (by kernel_rfl) W47.heap.size 0 0 .i64 (by kernel_rfl) (by kernel_rfl) (by decide))) sS3 ?_
     refine dV 1 84 (.int .i64 0) rfl rfl (fun w' hw' => (load1 3 (.tmp 83) rfl (by kernel_rfl) ⟨W47.heap.size, 0, none⟩ (by kernel_rfl) (.int .i64 0) ((cell_of_row _ _ 0 _ _ _ (Chg.hp hw' (Chg.hp ch44 hb13 trivial) trivial)).trans rfl))) sS3 ?_
     refine dV 2 85 (.pointer (some ⟨w.heap.size, 0, none⟩)) rfl rfl (fun w' hw' => (Wk.index_arr 72 24 (.tmp 7) (.tmp 84) rfl 3 Tryd.underlying72 1 (by kernel_rfl) w.heap.size 0 0 .i64 (by kernel_rfl) (by kernel_rfl) (by decide))) sS3 ?_
     refine dV 3 86 (.pointer (some ⟨gs1, 0, none⟩)) rfl rfl (fun w' hw' => (load1 24 (.tmp 85) rfl (by kernel_rfl) ⟨w.heap.size, 0, none⟩ (by kernel_rfl) (.pointer (some ⟨gs1, 0, none⟩)) ((cell_of_row _ _ 0 _ _ _ (Chg.hp hw' (Chg.hp ch44 (Chg.hp ch43 (Chg.hp ch42 hrb31 trivial) ⟨by omega, trivial⟩) trivial) trivial)).trans rfl))) sS3 ?_
     refine dV 4 87 (.pointer (some ⟨W47.heap.size, 1, none⟩)) rfl rfl (fun w' hw' => (Wk.index_arr 74 3 (.tmp 17) (.const (.int .i64 1)) rfl 2 Tryd.underlying74 1 (by kernel_rfl) W47.heap.size 0 1 .i64 (by kernel_rfl) (by kernel_rfl) (by decide))) sS3 ?_
     refine dV 5 88 (.int .i64 2) rfl rfl (fun w' hw' => (load1 3 (.tmp 87) rfl (by kernel_rfl) ⟨W47.heap.size, 1, none⟩ (by kernel_rfl) (.int .i64 2) ((cell_of_row _ _ 1 _ _ _ (Chg.hp hw' (Chg.hp ch44 hb13 trivial) trivial)).trans rfl))) sS3 ?_
     refine dV 6 89 (.pointer (some ⟨w.heap.size, 2, none⟩)) rfl rfl (fun w' hw' => (Wk.index_arr 72 24 (.tmp 7) (.tmp 88) rfl 3 Tryd.underlying72 1 (by kernel_rfl) w.heap.size 0 2 .i64 (by kernel_rfl) (by kernel_rfl) (by decide))) sS3 ?_
     refine dV 7 90 (.pointer (some ⟨gs3, 0, none⟩)) rfl rfl (fun w' hw' => (load1 24 (.tmp 89) rfl (by kernel_rfl) ⟨w.heap.size, 2, none⟩ (by kernel_rfl) (.pointer (some ⟨gs3, 0, none⟩)) ((cell_of_row _ _ 2 _ _ _ (Chg.hp hw' (Chg.hp ch44 (Chg.hp ch43 (Chg.hp ch42 hrb31 trivial) ⟨by omega, trivial⟩) trivial) trivial)).trans rfl))) sS3 ?_
     refine dV 8 18 (.pointer (some ⟨gs1, 0, none⟩)) rfl rfl (fun _ _ => by kernel_rfl) sS3 ?_
     refine dV 9 19 (.pointer (some ⟨gs3, 0, none⟩)) rfl rfl (fun _ _ => by kernel_rfl) sS3 ?_
     refine dEnd (by kernel_rfl) (nxt (wp_seq (reg ?_)))
     refine rP 0 91 (.pointer (some ⟨gs1, 0, none⟩)) rfl rfl ?_
     refine rC 1 92 18 [.tmp 91, .const (.slice none 0 0)] #[24, 38] [.pointer (some ⟨gs1, 0, none⟩), .slice none 0 0] rfl rfl rfl ?_
     have hD100 := Mur.SetF.chg hD93 ch42 (fun s hs => trivial)
     have hD101 := Mur.SetF.chg hD100 ch43 (fun s hs => ⟨by have := hM23 s hs; omega, trivial⟩)
     have hD102 := Mur.SetF.chg hD101 ch44 (fun s hs => trivial)
     refine (Below_any W5.heap.size S1 gs1 E1 ([]) none 0 0 W50 hD102 (Byt.nil _ none) (by omega)).mono ?_
     rw [Mur.belowL_nil]
     rintro _ W51 ⟨AA11, nn19, nn20, rfl, ow15, ch45⟩
     have zz52 := ch45.size
     have hq37 := ow15.nc
     have hq38 := ow15.cm
     have hq39 := ow15.sl.len
     have hq40 : S1.length ≤ 200 := Nat.le_trans (Nat.le_refl _) (Mur.SetF.len hD102)
     refine ⟨_, rfl, ?_⟩
     refine rP 2 93 (.pointer (some ⟨gs3, 0, none⟩)) rfl rfl ?_
     refine rC 3 94 18 [.tmp 93, .const (.slice none 0 0)] #[24, 38] [.pointer (some ⟨gs3, 0, none⟩), .slice none 0 0] rfl rfl rfl ?_
     have hD103 := Mur.SetF.chg hD99 ch42 (fun s hs => trivial)
     have hD104 := Mur.SetF.chg hD103 ch43 (fun s hs => ⟨by have := hM25 s hs; omega, trivial⟩)
     have hD105 := Mur.SetF.chg hD104 ch44 (fun s hs => trivial)
     have hD106 := Mur.SetF.chg hD105 ch45 (fun s hs => trivial)
     refine (Below_any W13.heap.size S4 gs3 E4 ([]) none 0 0 W51 hD106 (Byt.nil _ none) (by omega)).mono ?_
     rw [Mur.belowL_nil]
     rintro _ W52 ⟨AA12, nn21, nn22, rfl, ow16, ch46⟩
     have zz53 := ch46.size
     have hq41 := ow16.nc
     have hq42 := ow16.cm
     have hq43 := ow16.sl.len
     have hq44 : S4.length ≤ 200 := Nat.le_trans (Nat.le_refl _) (Mur.SetF.len hD106)
     refine ⟨_, rfl, ?_⟩
     refine rP 4 20 (.slice AA11 nn19 nn20) rfl rfl ?_
     refine rP 5 21 (.slice AA12 nn21 nn22) rfl rfl ?_
     refine rEnd 6 rfl (nxt (wp_seq (wp_seq (reg ?_))))
     refine rP 0 95 (.pointer (some ⟨gs1, 0, none⟩)) rfl rfl ?_
     refine rP 1 96 (.pointer (some ⟨gs3, 0, none⟩)) rfl rfl ?_
     refine rQ 2 97 (.agg #[.pointer (some ⟨gs1, 0, none⟩), .pointer (some ⟨gs3, 0, none⟩)]) rfl rfl (Mur.run_built 62 _ rfl [(0, .pointer (some ⟨gs1, 0, none⟩)), (1, .pointer (some ⟨gs3, 0, none⟩))] (by kernel_rfl) _ (by kernel_rfl)) ?_
     refine rC 3 98 34 [.tmp 97, .const (.bool false)] #[62, 4] [.agg #[.pointer (some ⟨gs1, 0, none⟩), .pointer (some ⟨gs3, 0, none⟩)], .bool false] rfl rfl rfl ?_
     have hD107 := Mur.SetF.chg hD102 ch45 (fun s hs => trivial)
     have hD108 := Mur.SetF.chg hD107 ch46 (fun s hs => trivial)
     have hD109 := Mur.SetF.chg hD106 ch46 (fun s hs => trivial)
     have htw3 := Mur.two_gen (Mur.SetF.srt hD108) (Mur.SetF.len hD108) (Mur.SetF.ok hD108) (Mur.SetF.srt hD109) (Mur.SetF.ok hD109) hsb5 hsb9 hzz1
     have kk42 := Chg.step kk41 ch42 trivial
     have kk43 := Chg.step kk42 ch43 ⟨.inr (by omega), trivial⟩
     have kk44 := Chg.step kk43 ch44 trivial
     have kk45 := Chg.step kk44 ch45 trivial
     have kk46 := Chg.step kk45 ch46 trivial
     refine (exchange_any w S1 S4 (Mur.addsL S4 S1) htw3.1 W5.heap.size W13.heap.size gs1 gs3 E1 E4 false W52 HV.out (Chg.below0 kk46) (by omega) hD108 hD109 jj18).mono ?_
     rintro _ W53 ⟨rx3, S5, S6, E5, E6, rfl, hone3, hall3, hD110, hD111, jj19, hN5, hN6, ch47⟩
     have jj20 : Mur.Dj E6 E5 := fun s_ h_ k_ => jj19 s_ k_ h_
     have hmF3 : ∀ t_, t_ ∈ (E1 ++ E4) → w.heap.size ≤ t_ ∧ t_ < W52.heap.size := fun t_ ht_ => by rcases List.mem_append.1 ht_ with h_ | h_ <;> first | (have := hM23 t_ h_; omega) | (have := hM25 t_ h_; omega)
     have hof7 : ∀ g_ off_, Aa2 = some ⟨g_, off_, none⟩ → g_ ∉ E1 ∧ g_ ∉ E4 := fun g_ off_ e_ => ⟨hnp17 g_ off_ e_, hnp24 g_ off_ e_⟩
     have ow17 := Mur.OwnA.chg ow15 ch46 (fun q e _ _ => trivial)
     have hni5 := ow17.nil
     have hof8 : ∀ g_ off_, AA11 = some ⟨g_, off_, none⟩ → g_ ∉ E1 ∧ g_ ∉ E4 := fun g_ off_ e_ => ⟨fun h_ => by have := (ow17.at_ g_ off_ e_).2.1; have := hM23 g_ h_; omega, fun h_ => by have := (ow17.at_ g_ off_ e_).2.1; have := hM25 g_ h_; omega⟩
     have hlo5 : ∀ g_ off_, AA11 = some ⟨g_, off_, none⟩ → w.heap.size < g_ ∧ g_ < W52.heap.size := fun g_ off_ e_ => by have := ow17.at_ g_ off_ e_; omega
     have hof9 : ∀ g_ off_, AA12 = some ⟨g_, off_, none⟩ → g_ ∉ E1 ∧ g_ ∉ E4 := fun g_ off_ e_ => ⟨fun h_ => by have := (ow16.at_ g_ off_ e_).2.1; have := hM23 g_ h_; omega, fun h_ => by have := (ow16.at_ g_ off_ e_).2.1; have := hM25 g_ h_; omega⟩
     have hlo6 : ∀ g_ off_, AA12 = some ⟨g_, off_, none⟩ → w.heap.size < g_ ∧ g_ < W52.heap.size := fun g_ off_ e_ => by have := ow16.at_ g_ off_ e_; omega
     have hD112 := Mur.SetF.chg hD97 ch42 (fun s hs => trivial)
     have hD113 := Mur.SetF.chg hD112 ch43 (fun s hs => ⟨by have := hM24 s hs; omega, trivial⟩)
     have hD114 := Mur.SetF.chg hD113 ch44 (fun s hs => trivial)
     have hD115 := Mur.SetF.chg hD114 ch45 (fun s hs => trivial)
     have hD116 := Mur.SetF.chg hD115 ch46 (fun s hs => trivial)
     have zz54 := ch47.size
     have hM26 := Mur.SetF.mem hD110
     have hM27 := Mur.SetF.mem hD111
     have zz55 := hM26 _ (Mur.SetF.self hD110)
     have zz56 := hM27 _ (Mur.SetF.self hD111)
     have hD117 := Mur.SetF.chg hD116 ch47 (fun s_ hs_ => Mur.off_iff.2 fun t_ ht_ e_ => by rcases List.mem_append.1 ht_ with h_ | h_ <;> first | exact jj15 s_ hs_ (e_ ▸ h_) | exact jj13 s_ hs_ (e_ ▸ h_))
     have jj21 : Mur.Dj E5 E3 := fun s_ h_ k_ => by rcases hN5 s_ h_ with q_ | q_ <;> first | exact jj16 s_ q_ k_ | (have := hM24 s_ k_; omega)
     have jj22 : Mur.Dj E3 E5 := fun s_ h_ k_ => jj21 s_ k_ h_
     have jj23 : Mur.Dj E6 E3 := fun s_ h_ k_ => by rcases hN6 s_ h_ with q_ | q_ <;> first | exact jj14 s_ q_ k_ | (have := hM24 s_ k_; omega)
     have jj24 : Mur.Dj E3 E6 := fun s_ h_ k_ => jj23 s_ k_ h_
     have hdo10 : SlA W53 Aa2 _ Ua2 := Mur.SlA.chg (Mur.SlA.chg (Mur.SlA.chg (Mur.SlA.chg (Mur.SlA.chg (Mur.SlA.chg hrb33 ch42 (fun g off e hl => trivial)) ch43 (fun g off e hl => ⟨by have := hoy7 g off e; omega, trivial⟩)) ch44 (fun g off e hl => trivial)) ch45 (fun g off e hl => trivial)) ch46 (fun g off e hl => trivial)) ch47 (fun g_ off_ e_ _ => Mur.off_iff.2 fun t_ ht_ e2_ => by subst e2_; rcases List.mem_append.1 ht_ with h_ | h_ <;> first | exact (hof7 g_ off_ e_).1 h_ | exact (hof7 g_ off_ e_).2 h_)
     have hdo11 : SlA W53 AA11 _ S1 := Mur.SlA.chg ow17.sl ch47 (fun g_ off_ e_ _ => Mur.off_iff.2 fun t_ ht_ e2_ => by subst e2_; rcases List.mem_append.1 ht_ with h_ | h_ <;> first | exact (hof8 g_ off_ e_).1 h_ | exact (hof8 g_ off_ e_).2 h_)
     have hdo12 : SlA W53 AA12 _ S4 := Mur.SlA.chg ow16.sl ch47 (fun g_ off_ e_ _ => Mur.off_iff.2 fun t_ ht_ e2_ => by subst e2_; rcases List.mem_append.1 ht_ with h_ | h_ <;> first | exact (hof9 g_ off_ e_).1 h_ | exact (hof9 g_ off_ e_).2 h_)
     have hbx5 : W53.heap[w.heap.size]? = some (.cells #[.pointer (some ⟨gs1, 0, none⟩), .pointer (some ⟨gs2, 0, none⟩), .pointer (some ⟨gs3, 0, none⟩)] 72 (0, 0)) := Chg.hp ch47 (Chg.hp ch46 (Chg.hp ch45 (Chg.hp ch44 (Chg.hp ch43 (Chg.hp ch42 hrb31 trivial) ⟨by omega, trivial⟩) trivial) trivial) trivial) (Mur.off_iff.2 fun t_ ht_ e2_ => by subst e2_; rcases List.mem_append.1 ht_ with h_ | h_ <;> first | exact hnp13 h_ | exact hnp20 h_)
     have hbx6 : W53.heap[qh1]? = some (.cells (hc ++ kc) 97 (0, 0)) := Chg.hp ch47 (Chg.hp ch46 (Chg.hp ch45 (Chg.hp ch44 (Chg.hp ch43 (Chg.hp ch42 hrb32 trivial) ⟨by omega, trivial⟩) trivial) trivial) trivial) (Mur.off_iff.2 fun t_ ht_ e2_ => by subst e2_; rcases List.mem_append.1 ht_ with h_ | h_ <;> first | exact hnp15 h_ | exact hnp22 h_)
     refine ⟨_, rfl, ?_⟩
     refine rQ 4 99 _ rfl rfl (qboolF (b := decide (((rx3 : Nat) : Int) < (0 : Int))) (decide_eq_false (by omega))) ?_
     refine rEnd 5 rfl (nxt (wp_cond_false (by kernel_rfl) (wp_skip (nxt (wp_seq (reg ?_))))))
     refine rX 0 100 rfl rfl (new_ex (.slice (some ⟨W53.heap.size, 0, none⟩) 0 0) #[] 32 (by kernel_rfl)) ?_
     rintro _ W54 ⟨rfl, hb14, ch48, sz11⟩
     have zz57 := ch48.size
     refine rP 1 101 (.slice AA11 nn19 nn20) rfl rfl ?_
     have ow18 := Mur.ownA_empty hb14 (Nat.le_refl _)
     refine rX 2 102 rfl rfl (Mur.appendA (.tmp 100) (.tmp 101) 50 32 rfl Tryd.underlying50 attI W53.heap.size (some ⟨W53.heap.size, 0, none⟩) 0 0 ([]) AA11 nn19 nn20 S1 (by kernel_rfl) (by kernel_rfl) ow18 (Mur.SlA.chg hdo11 ch48 (fun g off e hl => trivial)) (fun h_ => hni5 h_) (by omega) (by omega) nn19 (by omega) S1 rfl) ?_
     rintro _ W55 ⟨AA13, nn23, rfl, ow19, ch49, ha3⟩
     have zz58 := ch49.size
     have hq45 := ow19.nc
     have hq46 := ow19.cm
     refine rP 3 22 (.slice AA13 nn19 nn23) rfl rfl ?_
     refine rEnd 4 rfl (nxt (wp_seq (wp_seq (reg ?_))))
     refine rP 0 103 (.slice AA12 nn21 nn22) rfl rfl ?_
     refine rP 1 104 (.int .i64 ((nn21 : Nat) : Int)) rfl rfl ?_
     refine rP 2 105 (.int .i64 0) rfl rfl ?_
     refine rEnd 3 rfl (nxt (wp_block ?_))
     have kk47 := Chg.step kk46 ch47 (Mur.newOr_iff.2 (fun t ht => .inr (by have := hmF3 t ht; omega)))
     have kk48 := Chg.step kk47 ch48 trivial
     have kk49 := Chg.step kk48 ch49 (newOr_blk (fun g hg => by have := ow18.lt g hg; omega))
     have hD118 := Mur.SetF.chg hD110 ch48 (fun s hs => trivial)
     have hD119 := Mur.SetF.chg hD118 ch49 (fun s hs => (off_blk (fun gz hgz => by have := ow18.lt gz hgz; have := hM26 s hs; omega)))
     have hD120 := Mur.SetF.chg hD117 ch48 (fun s hs => trivial)
     have hD121 := Mur.SetF.chg hD120 ch49 (fun s hs => (off_blk (fun gz hgz => by have := ow18.lt gz hgz; have := hM24 s hs; omega)))
     have hD122 := Mur.SetF.chg hD111 ch48 (fun s hs => trivial)
     have hD123 := Mur.SetF.chg hD122 ch49 (fun s hs => (off_blk (fun gz hgz => by have := ow18.lt gz hgz; have := hM27 s hs; omega)))
     refine Wk.loop (fun m_ a wr => ∃ (ib2 : Nat) (Ab2 : Option Addr) (nb2 : Nat) (cb2 : Nat) (Ub2 : List Att), m_ = nn21 - ib2 ∧ a = Three_F8 a.tmps (.pointer (some ⟨w.heap.size, 0, none⟩)) (.slice Aa2 na2 ca2) (.pointer (some ⟨qh1, 0, none⟩)) (.pointer (some ⟨gs1, 0, none⟩)) (.pointer (some ⟨gs3, 0, none⟩)) (.slice AA11 nn19 nn20) (.slice AA12 nn21 nn22) (.slice Ab2 nb2 cb2) (.agg #[.int .i64 0, .int .i64 1, .int .i64 1, .int .i64 2, .int .i64 0, .int .i64 2]) (.int .i64 2) (.int .i64 ((nn21 : Nat) : Int)) (.int .i64 ((ib2 : Nat) : Int)) ∧ ib2 ≤ nn21 ∧ Mur.Canon (fun y_ => y_ ∈ S1 ++ S4.take ib2) Ub2 ∧ SlA wr Ab2 nb2 Ub2 ∧ (nb2 ≤ cb2 ∧ cb2 ≤ 9223372036854775807) ∧ Chg [] W55 wr) (nn21 - 0) ?_ ?_
     ·refine ⟨0, AA13, nn19, nn23, S1, rfl, by kernel_rfl, (by omega), ((Mur.canon_self (Mur.SetF.srt hD108) (Mur.SetF.len hD108) (Mur.SetF.ok hD108)).iff fun y_ => by simp), ow19.sl, (by have := ow19.nc; have := Nat.le_trans ow19.cm (show Go.maxLen ≤ 9223372036854775807 by unfold Go.maxLen; omega); omega), (Chg.refl _)⟩
     rintro mm6 aa6 W56 ⟨ib2, Ab2, nb2, cb2, Ub2, hmm6, hF6, hib2, hcb2, hsb2, hnb2, HBb2⟩
     generalize aa6.tmps = bb6 at hF6
     subst hF6
     have hz6 := HBb2.size
     have hB6 := Chg.step kk49 HBb2 trivial
     have hD124 := Mur.SetF.chg hD119 HBb2 (fun _ _ => trivial)
     have hD125 := Mur.SetF.chg hD121 HBb2 (fun _ _ => trivial)
     have hD126 := Mur.SetF.chg hD123 HBb2 (fun _ _ => trivial)
     have hlb2 := hsb2.len
     have hkb2 := hcb2.len
     by_cases hltb2 : ib2 < nn21
     ·have hslb2 := (Mur.SlA.chg (Mur.SlA.chg (Mur.SlA.chg hdo12 ch48 (fun g off e hl => trivial)) ch49 (fun g off e hl => (off_blk (fun gz hgz => by have := ow18.lt gz hgz; have := hlo6 g off e; omega)))) HBb2 (fun g off e hl => trivial))
      obtain ⟨g_x, o_x, rfl, _⟩ := hslb2.ex (by omega)
      obtain ⟨x, hx⟩ : ∃ x, S4[ib2]? = some x := ⟨_, List.getElem?_eq_getElem (by have := hslb2.len; omega)⟩
      refine wp_seq (reg ?_)
      refine rQ 0 106 _ rfl rfl (qboolT (b := decide (((ib2 : Nat) : Int) < ((nn21 : Nat) : Int))) (decide_eq_true (by omega))) ?_
      refine rEnd 1 rfl (nxt (wp_seq (wp_cond_true (by kernel_rfl) (wp_skip (nxt (wp_seq (wp_block (wp_seq (reg ?_)))))))))
      refine rP 0 107 (.int .i64 ((ib2 : Nat) : Int)) rfl rfl ?_
      refine rP 1 23 (.int .i64 ((ib2 : Nat) : Int)) rfl rfl ?_
      refine rEnd 2 rfl (nxt (reg ?_))
      refine rP 0 109 (.slice Ab2 nb2 cb2) rfl rfl ?_
      refine rP 1 110 (.slice (some ⟨g_x, o_x, none⟩) nn21 nn22) rfl rfl ?_
      refine rP 2 111 (.int .i64 ((ib2 : Nat) : Int)) rfl rfl ?_
      refine rQ 3 112 (.pointer (some ⟨g_x, o_x + ib2 * 97, none⟩)) rfl rfl (index_sl 50 32 (.tmp 110) (.tmp 111) rfl Tryd.underlying50 97 (by kernel_rfl) g_x o_x nn21 nn22 ib2 .i64 (by kernel_rfl) (by kernel_rfl) (by omega)) ?_
      refine rQ 4 113 (.agg ((Mur.attC x.k x.r x.n x.t).toArray)) rfl rfl (loadR 32 (.tmp 112) rfl _ Tryd.underlying32 rfl g_x (o_x + ib2 * 97) (by kernel_rfl) (Mur.attC x.k x.r x.n x.t) (by rw [Mur.attC_length x.hk x.hr x.ht]; kernel_rfl) ((Mur.SlA.chg (Mur.SlA.chg (Mur.SlA.chg hdo12 ch48 (fun g off e hl => trivial)) ch49 (fun g off e hl => (off_blk (fun gz hgz => by have := ow18.lt gz hgz; have := hlo6 g off e; omega)))) HBb2 (fun g off e hl => trivial)).elem hx)) ?_
      refine rC 5 114 26 [.tmp 109, .tmp 113] #[50, 32] [.slice Ab2 nb2 cb2, .agg ((Mur.attC x.k x.r x.n x.t).toArray)] rfl rfl rfl ?_
      refine (Radd_any Ab2 nb2 cb2 Ub2 x W56 hsb2 hcb2.srt hcb2.len (by omega)).mono ?_
      rintro _ W57 ⟨DA9, dn9, dc9, rfl, hd_6, hpl6, hnc6, ch50⟩
      have zz59 := ch50.size
      refine ⟨_, rfl, ?_⟩
      refine rP 6 108 (.tuple #[.slice DA9 dn9 dc9, .int .i64 ((Mur.addS x Ub2).2)]) rfl rfl ?_
      refine rP 7 115 (.slice DA9 dn9 dc9) rfl rfl ?_
      refine rP 8 116 (.int .i64 ((Mur.addS x Ub2).2)) rfl rfl ?_
      refine rP 9 22 (.slice DA9 dn9 dc9) rfl rfl ?_
      refine rEnd 10 rfl (inN (nxt (reg ?_)))
      refine rQ 0 117 _ rfl rfl (qint64 (n := ((ib2 : Nat) : Int) + 1) (z := ((ib2 + 1 : Nat) : Int)) (by omega) (by omega) (by omega)) ?_
      refine rP 1 105 (.int .i64 ((ib2 + 1 : Nat) : Int)) rfl rfl ?_
      refine rEnd 2 rfl (nxt ?_)
      have kk50 := Chg.step HBb2 ch50 trivial
      refine ⟨_, ?_, ib2 + 1, DA9, dn9, dc9, (Mur.addS x Ub2).1, rfl, by kernel_rfl, (by omega), ((hcb2.add x).iff fun y_ => Mur.mem_app_succ hx), hd_6, (by omega), kk50⟩
      omega
     have hllb2 := ((Mur.SlA.chg (Mur.SlA.chg (Mur.SlA.chg hdo12 ch48 (fun g off e hl => trivial)) ch49 (fun g off e hl => (off_blk (fun gz hgz => by have := ow18.lt gz hgz; have := hlo6 g off e; omega)))) HBb2 (fun g off e hl => trivial))).len
     rw [List.take_of_length_le (show (S4).length ≤ ib2 by omega)] at hcb2
     have hty66 : nn19 ≤ 200 := by omega
     have hty67 : nn21 ≤ 200 := by omega
     have hrb34 := (Chg.hp HBb2 (Chg.hp ch49 (Chg.hp ch48 hbx5 trivial) (off_blk (fun gz hgz => by have := ow18.lt gz hgz; omega))) trivial)
     have hrb35 := (Chg.hp HBb2 (Chg.hp ch49 (Chg.hp ch48 hbx6 trivial) (off_blk (fun gz hgz => by have := ow18.lt gz hgz; omega))) trivial)
     have hrb36 := (Mur.SlA.chg (Mur.SlA.chg (Mur.SlA.chg hdo10 ch48 (fun g off e hl => trivial)) ch49 (fun g off e hl => (off_blk (fun gz hgz => by have := ow18.lt gz hgz; have := hoy7 g off e; omega)))) HBb2 (fun g off e hl => trivial))
     have hrb37 := (Mur.SlA.chg (Mur.SlA.chg (Mur.SlA.chg hdo11 ch48 (fun g off e hl => trivial)) ch49 (fun g off e hl => (off_blk (fun gz hgz => by have := ow18.lt gz hgz; have := hlo5 g off e; omega)))) HBb2 (fun g off e hl => trivial))
     have hrb38 := (Mur.SlA.chg (Mur.SlA.chg (Mur.SlA.chg hdo12 ch48 (fun g off e hl => trivial)) ch49 (fun g off e hl => (off_blk (fun gz hgz => by have := ow18.lt gz hgz; have := hlo6 g off e; omega)))) HBb2 (fun g off e hl => trivial))
     have hrb39 := hsb2
     have hty68 : w.heap.size + 1 ≤ W56.heap.size := by omega
     have hM28 := Mur.SetF.mem hD124
     have hty71 := hM28 _ (Mur.SetF.self hD124)
     have hty72 : w.heap.size + 1 ≤ W5.heap.size := by omega
     have hM29 := Mur.SetF.mem hD125
     have hty73 := hM29 _ (Mur.SetF.self hD125)
     have hty74 : w.heap.size + 1 ≤ W8.heap.size := by omega
     have hM30 := Mur.SetF.mem hD126
     have hty75 := hM30 _ (Mur.SetF.self hD126)
     have hty76 : w.heap.size + 1 ≤ W13.heap.size := by omega
     have hty77 : w.heap.size < qh1 ∧ qh1 < W56.heap.size := by omega
     have hoy8 : ∀ g_ off_, Aa2 = some ⟨g_, off_, none⟩ → True ∧ (w.heap.size < g_ ∧ g_ < W56.heap.size) := fun g_ off_ e_ => ⟨trivial, by have := (hoy7 g_ off_ e_).2; omega⟩
     clear hmm6 hq37 hq38 hq39 hq40 hq41 hq42 hq43 hq44 hq45 hq46 hz6 sz10 sz11 sz9 zz49 zz50 zz51 zz52 zz53 zz54 zz55 zz56 zz57 zz58
     refine wp_seq (reg ?_)
     refine rQ 0 106 _ rfl rfl (qboolF (b := decide (((ib2 : Nat) : Int) < ((nn21 : Nat) : Int))) (decide_eq_false (by omega))) ?_
     refine rEnd 1 rfl (nxt (wp_seq (wp_cond_false (by kernel_rfl) (wp_exit (thX (thX (inX (nxt (wp_seq (reg ?_))))))))))
     refine rP 0 118 (.pointer (some ⟨gs1, 0, none⟩)) rfl rfl ?_
     refine rC 1 119 18 [.tmp 118, .const (.slice none 0 0)] #[24, 38] [.pointer (some ⟨gs1, 0, none⟩), .slice none 0 0] rfl rfl rfl ?_
     refine (Below_any W5.heap.size S5 gs1 E5 ([]) none 0 0 W56 hD124 (Byt.nil _ none) (by omega)).mono ?_
     rw [Mur.belowL_nil]
     rintro _ W58 ⟨AA14, nn24, nn25, rfl, ow20, ch51⟩
     have zz60 := ch51.size
     have hq47 := ow20.nc
     have hq48 := ow20.cm
     have hq49 := ow20.sl.len
     have hq50 : S5.length ≤ 200 := Nat.le_trans (Nat.le_refl _) (Mur.SetF.len hD124)
     refine ⟨_, rfl, ?_⟩
     refine rP 2 120 (.slice Ab2 nb2 cb2) rfl rfl ?_
     refine rC 3 121 17 [.tmp 119, .tmp 120] #[22, 22] [.slice AA14 nn24 nn25, .slice Ab2 nb2 cb2] rfl rfl rfl ?_
     by_cases hsa5 : S5 = Ub2
     ·refine (Mur.calls_yes (Same20_any AA14 nn24 nn25 S5 Ab2 nb2 cb2 Ub2 W58 ow20.sl (Mur.SlA.chg hrb39 ch51 (fun g off e hl => trivial)) (by omega)) hsa5).mono ?_
      rintro _ W59 ⟨rfl, ch52⟩
      have zz61 := ch52.size
      refine ⟨_, rfl, ?_⟩
      refine rP 4 122 (.bool false) rfl rfl ?_
      refine rP 5 123 (.bool false) rfl rfl ?_
      refine rP 6 124 (.pointer (some ⟨gs3, 0, none⟩)) rfl rfl ?_
      refine rC 7 125 18 [.tmp 124, .const (.slice none 0 0)] #[24, 38] [.pointer (some ⟨gs3, 0, none⟩), .slice none 0 0] rfl rfl rfl ?_
      have hD127 := Mur.SetF.chg hD126 ch51 (fun s hs => trivial)
      have hD128 := Mur.SetF.chg hD127 ch52 (fun s hs => trivial)
      refine (Below_any W13.heap.size S6 gs3 E6 ([]) none 0 0 W59 hD128 (Byt.nil _ none) (by omega)).mono ?_
      rw [Mur.belowL_nil]
      rintro _ W60 ⟨AA15, nn26, nn27, rfl, ow21, ch53⟩
      have zz62 := ch53.size
      have hq51 := ow21.nc
      have hq52 := ow21.cm
      have hq53 := ow21.sl.len
      have hq54 : S6.length ≤ 200 := Nat.le_trans (Nat.le_refl _) (Mur.SetF.len hD128)
      refine ⟨_, rfl, ?_⟩
      refine rP 8 126 (.slice Ab2 nb2 cb2) rfl rfl ?_
      refine rC 9 127 17 [.tmp 125, .tmp 126] #[22, 22] [.slice AA15 nn26 nn27, .slice Ab2 nb2 cb2] rfl rfl rfl ?_
      by_cases hsa6 : S6 = Ub2
      ·refine (Mur.calls_yes (Same20_any AA15 nn26 nn27 S6 Ab2 nb2 cb2 Ub2 W60 ow21.sl (Mur.SlA.chg (Mur.SlA.chg (Mur.SlA.chg hrb39 ch51 (fun g off e hl => trivial)) ch52 (fun g off e hl => trivial)) ch53 (fun g off e hl => trivial)) (by omega)) hsa6).mono ?_
       rintro _ W61 ⟨rfl, ch54⟩
       have zz63 := ch54.size
       refine ⟨_, rfl, ?_⟩
       refine rP 10 128 (.bool false) rfl rfl ?_
       refine rP 11 129 (.bool false) rfl rfl ?_
       refine rEnd 12 rfl (nxt (wp_cond_false (by kernel_rfl) (wp_skip (inN (nxt (reg ?_))))))
       have hD129 := Mur.SetF.chg hD124 ch51 (fun s hs => trivial)
       have hD130 := Mur.SetF.chg hD129 ch52 (fun s hs => trivial)
       have hD131 := Mur.SetF.chg hD130 ch53 (fun s hs => trivial)
       have hD132 := Mur.SetF.chg hD131 ch54 (fun s hs => trivial)
       have hD133 := Mur.SetF.chg hD125 ch51 (fun s hs => trivial)
       have hD134 := Mur.SetF.chg hD133 ch52 (fun s hs => trivial)
       have hD135 := Mur.SetF.chg hD134 ch53 (fun s hs => trivial)
       have hD136 := Mur.SetF.chg hD135 ch54 (fun s hs => trivial)
       have hD137 := Mur.SetF.chg hD128 ch53 (fun s hs => trivial)
       have hD138 := Mur.SetF.chg hD137 ch54 (fun s hs => trivial)
       have hrb40 := (Chg.hp ch54 (Chg.hp ch53 (Chg.hp ch52 (Chg.hp ch51 hrb34 trivial) trivial) trivial) trivial)
       have hrb42 := (Mur.SlA.chg (Mur.SlA.chg (Mur.SlA.chg (Mur.SlA.chg hrb36 ch51 (fun g off e hl => trivial)) ch52 (fun g off e hl => trivial)) ch53 (fun g off e hl => trivial)) ch54 (fun g off e hl => trivial))
       have kk51 := Chg.step hB6 ch51 trivial
       have kk52 := Chg.step kk51 ch52 trivial
       have kk53 := Chg.step kk52 ch53 trivial
       have kk54 := Chg.step kk53 ch54 trivial
       have hty78 : w.heap.size + 1 ≤ W61.heap.size := by omega
       have hM31 := Mur.SetF.mem hD132
       have hty81 := hM31 _ (Mur.SetF.self hD132)
       have hty82 : w.heap.size + 1 ≤ W5.heap.size := by omega
       have hM32 := Mur.SetF.mem hD136
       have hty83 := hM32 _ (Mur.SetF.self hD136)
       have hty84 : w.heap.size + 1 ≤ W8.heap.size := by omega
       have hM33 := Mur.SetF.mem hD138
       have hty85 := hM33 _ (Mur.SetF.self hD138)
       have hty86 : w.heap.size + 1 ≤ W13.heap.size := by omega
       have hty87 : w.heap.size < qh1 ∧ qh1 < W61.heap.size := by omega
       have hoy9 : ∀ g_ off_, Aa2 = some ⟨g_, off_, none⟩ → True ∧ (w.heap.size < g_ ∧ g_ < W61.heap.size) := fun g_ off_ e_ => ⟨trivial, by have := (hoy8 g_ off_ e_).2; omega⟩
       clear hq47 hq48 hq49 hq50 hq51 hq52 hq53 hq54 zz60 zz61 zz62 zz63
       have hEnd_ := Mur.three_end (by omega) (by omega) (by omega) hok1 hok2 hok3 hcb0 hsa1 hsa2 hcb1 hsa3 hsa4 hcb2 hsa5 hsa6 hca2
       refine rQ 0 137 _ rfl rfl (qint64 (n := 2 + 1) (z := 3) (by omega) (by omega) (by omega)) ?_
       refine rP 1 80 (.int .i64 3) rfl rfl ?_
       refine rEnd 2 rfl (nxt (Wk.rdS (wp_seq (reg ?_))))
       refine rQ 0 81 _ rfl rfl (qboolF (b := decide ((3 : Int) < (3 : Int))) (decide_eq_false (by decide))) ?_
       refine rEnd 1 rfl (nxt (wp_seq (wp_cond_false (by kernel_rfl) (wp_exit (thX (thX (inX (nxt (wp_seq (wp_seq (reg ?_)))))))))))
       refine rP 0 138 (.int .i64 0) rfl rfl ?_
       refine rEnd 1 rfl (nxt (wp_block ?_))
       refine Wk.loopN 4 ?_
       refine Wk.rdS (wp_seq (reg ?_))
       refine rQ 0 139 _ rfl rfl (qboolT (b := decide ((0 : Int) < (3 : Int))) (decide_eq_true (by decide))) ?_
       refine rEnd 1 rfl (nxt (wp_seq (wp_cond_true (by kernel_rfl) (wp_skip (nxt (wp_seq (wp_block (wp_seq (reg ?_)))))))))
       refine rP 0 140 (.int .i64 0) rfl rfl ?_
       refine rP 1 24 (.int .i64 0) rfl rfl ?_
       refine rEnd 2 rfl (nxt (wp_seq (reg ?_)))
       refine rP 0 141 (.int .i64 0) rfl rfl ?_
       refine rQ 1 142 (.pointer (some ⟨w.heap.size, 0, none⟩)) rfl rfl (Wk.index_arr 72 24 (.tmp 7) (.tmp 141) rfl 3 Tryd.underlying72 1 (by kernel_rfl) w.heap.size 0 0 .i64 (by kernel_rfl) (by kernel_rfl) (by decide)) ?_
       refine rQ 2 143 _ rfl rfl (load1 24 (.tmp 142) rfl (by kernel_rfl) ⟨w.heap.size, 0, none⟩ (by kernel_rfl) (.pointer (some ⟨gs1, 0, none⟩)) ((cell_of_row _ _ 0 _ _ _ hrb40).trans rfl)) ?_
       refine rC 3 144 18 [.tmp 143, .const (.slice none 0 0)] #[24, 38] [.pointer (some ⟨gs1, 0, none⟩), .slice none 0 0] rfl rfl rfl ?_
       refine (Below_any W5.heap.size S5 gs1 E5 ([]) none 0 0 W61 hD132 (Byt.nil _ none) (by omega)).mono ?_
       rw [Mur.belowL_nil]
       rintro _ W62 ⟨AA16, nn28, nn29, rfl, ow22, ch55⟩
       have zz64 := ch55.size
       have hq55 := ow22.nc
       have hq56 := ow22.cm
       have hq57 := ow22.sl.len
       have hq58 : S5.length ≤ 200 := Nat.le_trans (Nat.le_refl _) (Mur.SetF.len hD132)
       refine ⟨_, rfl, ?_⟩
       refine rP 4 145 (.slice Aa2 na2 ca2) rfl rfl ?_
       refine rC 5 146 17 [.tmp 144, .tmp 145] #[22, 22] [.slice AA16 nn28 nn29, .slice Aa2 na2 ca2] rfl rfl rfl ?_
       refine (Mur.calls_yes (Same20_any AA16 nn28 nn29 S5 Aa2 na2 ca2 Ua2 W62 ow22.sl (Mur.SlA.chg hrb42 ch55 (fun g off e hl => trivial)) (by omega)) hEnd_.1).mono ?_
       rintro _ W63 ⟨rfl, ch56⟩
       have zz65 := ch56.size
       refine ⟨_, rfl, ?_⟩
       refine rP 6 147 (.bool false) rfl rfl ?_
       refine rEnd 7 rfl (nxt (wp_cond_false (by kernel_rfl) (wp_skip (inN (nxt (reg ?_))))))
       refine rQ 0 148 _ rfl rfl (qint64 (n := 0 + 1) (z := 1) (by omega) (by omega) (by omega)) ?_
       refine rP 1 138 (.int .i64 1) rfl rfl ?_
       refine rEnd 2 rfl (nxt (Wk.rdS (wp_seq (reg ?_))))
       refine rQ 0 139 _ rfl rfl (qboolT (b := decide ((1 : Int) < (3 : Int))) (decide_eq_true (by decide))) ?_
       refine rEnd 1 rfl (nxt (wp_seq (wp_cond_true (by kernel_rfl) (wp_skip (nxt (wp_seq (wp_block (wp_seq (reg ?_)))))))))
       refine rP 0 140 (.int .i64 1) rfl rfl ?_
       refine rP 1 24 (.int .i64 1) rfl rfl ?_
       refine rEnd 2 rfl (nxt (wp_seq (reg ?_)))
       refine rP 0 141 (.int .i64 1) rfl rfl ?_
       refine rQ 1 142 (.pointer (some ⟨w.heap.size, 1, none⟩)) rfl rfl (Wk.index_arr 72 24 (.tmp 7) (.tmp 141) rfl 3 Tryd.underlying72 1 (by kernel_rfl) w.heap.size 0 1 .i64 (by kernel_rfl) (by kernel_rfl) (by decide)) ?_
       refine rQ 2 143 _ rfl rfl (load1 24 (.tmp 142) rfl (by kernel_rfl) ⟨w.heap.size, 1, none⟩ (by kernel_rfl) (.pointer (some ⟨gs2, 0, none⟩)) ((cell_of_row _ _ 1 _ _ _ (Chg.hp ch56 (Chg.hp ch55 hrb40 trivial) trivial)).trans rfl)) ?_
       refine rC 3 144 18 [.tmp 143, .const (.slice none 0 0)] #[24, 38] [.pointer (some ⟨gs2, 0, none⟩), .slice none 0 0] rfl rfl rfl ?_
       have hD139 := Mur.SetF.chg hD136 ch55 (fun s hs => trivial)
       have hD140 := Mur.SetF.chg hD139 ch56 (fun s hs => trivial)
       refine (Below_any W8.heap.size S3 gs2 E3 ([]) none 0 0 W63 hD140 (Byt.nil _ none) (by omega)).mono ?_
       rw [Mur.belowL_nil]
       rintro _ W64 ⟨AA17, nn30, nn31, rfl, ow23, ch57⟩
       have zz66 := ch57.size
       have hq59 := ow23.nc
       have hq60 := ow23.cm
       have hq61 := ow23.sl.len
       have hq62 : S3.length ≤ 200 := Nat.le_trans (Nat.le_refl _) (Mur.SetF.len hD140)
       refine ⟨_, rfl, ?_⟩
       refine rP 4 145 (.slice Aa2 na2 ca2) rfl rfl ?_
       refine rC 5 146 17 [.tmp 144, .tmp 145] #[22, 22] [.slice AA17 nn30 nn31, .slice Aa2 na2 ca2] rfl rfl rfl ?_
       refine (Mur.calls_yes (Same20_any AA17 nn30 nn31 S3 Aa2 na2 ca2 Ua2 W64 ow23.sl (Mur.SlA.chg (Mur.SlA.chg (Mur.SlA.chg hrb42 ch55 (fun g off e hl => trivial)) ch56 (fun g off e hl => trivial)) ch57 (fun g off e hl => trivial)) (by omega)) hEnd_.2.1).mono ?_
       rintro _ W65 ⟨rfl, ch58⟩
       have zz67 := ch58.size
       refine ⟨_, rfl, ?_⟩
       refine rP 6 147 (.bool false) rfl rfl ?_
       refine rEnd 7 rfl (nxt (wp_cond_false (by kernel_rfl) (wp_skip (inN (nxt (reg ?_))))))
       refine rQ 0 148 _ rfl rfl (qint64 (n := 1 + 1) (z := 2) (by omega) (by omega) (by omega)) ?_
       refine rP 1 138 (.int .i64 2) rfl rfl ?_
       refine rEnd 2 rfl (nxt (Wk.rdS (wp_seq (reg ?_))))
       refine rQ 0 139 _ rfl rfl (qboolT (b := decide ((2 : Int) < (3 : Int))) (decide_eq_true (by decide))) ?_
       refine rEnd 1 rfl (nxt (wp_seq (wp_cond_true (by kernel_rfl) (wp_skip (nxt (wp_seq (wp_block (wp_seq (reg ?_)))))))))
       refine rP 0 140 (.int .i64 2) rfl rfl ?_
       refine rP 1 24 (.int .i64 2) rfl rfl ?_
       refine rEnd 2 rfl (nxt (wp_seq (reg ?_)))
       refine rP 0 141 (.int .i64 2) rfl rfl ?_
       refine rQ 1 142 (.pointer (some ⟨w.heap.size, 2, none⟩)) rfl rfl (Wk.index_arr 72 24 (.tmp 7) (.tmp 141) rfl 3 Tryd.underlying72 1 (by kernel_rfl) w.heap.size 0 2 .i64 (by kernel_rfl) (by kernel_rfl) (by decide)) ?_
       refine rQ 2 143 _ rfl rfl (load1 24 (.tmp 142) rfl (by kernel_rfl) ⟨w.heap.size, 2, none⟩ (by kernel_rfl) (.pointer (some ⟨gs3, 0, none⟩)) ((cell_of_row _ _ 2 _ _ _ (Chg.hp ch58 (Chg.hp ch57 (Chg.hp ch56 (Chg.hp ch55 hrb40 trivial) trivial) trivial) trivial)).trans rfl)) ?_
       refine rC 3 144 18 [.tmp 143, .const (.slice none 0 0)] #[24, 38] [.pointer (some ⟨gs3, 0, none⟩), .slice none 0 0] rfl rfl rfl ?_
       have hD141 := Mur.SetF.chg hD138 ch55 (fun s hs => trivial)
       have hD142 := Mur.SetF.chg hD141 ch56 (fun s hs => trivial)
       have hD143 := Mur.SetF.chg hD142 ch57 (fun s hs => trivial)
       have hD144 := Mur.SetF.chg hD143 ch58 (fun s hs => trivial)
       refine (Below_any W13.heap.size S6 gs3 E6 ([]) none 0 0 W65 hD144 (Byt.nil _ none) (by omega)).mono ?_
       rw [Mur.belowL_nil]
       rintro _ W66 ⟨AA18, nn32, nn33, rfl, ow24, ch59⟩
       have zz68 := ch59.size
       have hq63 := ow24.nc
       have hq64 := ow24.cm
       have hq65 := ow24.sl.len
       have hq66 : S6.length ≤ 200 := Nat.le_trans (Nat.le_refl _) (Mur.SetF.len hD144)
       refine ⟨_, rfl, ?_⟩
       refine rP 4 145 (.slice Aa2 na2 ca2) rfl rfl ?_
       refine rC 5 146 17 [.tmp 144, .tmp 145] #[22, 22] [.slice AA18 nn32 nn33, .slice Aa2 na2 ca2] rfl rfl rfl ?_
       refine (Mur.calls_yes (Same20_any AA18 nn32 nn33 S6 Aa2 na2 ca2 Ua2 W66 ow24.sl (Mur.SlA.chg (Mur.SlA.chg (Mur.SlA.chg (Mur.SlA.chg (Mur.SlA.chg hrb42 ch55 (fun g off e hl => trivial)) ch56 (fun g off e hl => trivial)) ch57 (fun g off e hl => trivial)) ch58 (fun g off e hl => trivial)) ch59 (fun g off e hl => trivial)) (by omega)) hEnd_.2.2).mono ?_
       rintro _ W67 ⟨rfl, ch60⟩
       have zz69 := ch60.size
       refine ⟨_, rfl, ?_⟩
       refine rP 6 147 (.bool false) rfl rfl ?_
       refine rEnd 7 rfl (nxt (wp_cond_false (by kernel_rfl) (wp_skip (inN (nxt (reg ?_))))))
       refine rQ 0 148 _ rfl rfl (qint64 (n := 2 + 1) (z := 3) (by omega) (by omega) (by omega)) ?_
       refine rP 1 138 (.int .i64 3) rfl rfl ?_
       refine rEnd 2 rfl (nxt (Wk.rdS (wp_seq (reg ?_))))
       refine rQ 0 139 _ rfl rfl (qboolF (b := decide ((3 : Int) < (3 : Int))) (decide_eq_false (by decide))) ?_
       refine rEnd 1 rfl (nxt (wp_seq (wp_cond_false (by kernel_rfl) (wp_exit (thX (thX (inX (nxt (wp_seq (reg ?_))))))))))
       refine rC 0 149 32 [] #[] [] rfl rfl rfl ?_
       have kk55 := Chg.step kk54 ch55 trivial
       have kk56 := Chg.step kk55 ch56 trivial
       have kk57 := Chg.step kk56 ch57 trivial
       have kk58 := Chg.step kk57 ch58 trivial
       have kk59 := Chg.step kk58 ch59 trivial
       have kk60 := Chg.step kk59 ch60 trivial
       refine (known21_any W67 (HV.out.below (Chg.below0 kk60))).mono ?_
       rintro _ W68 ⟨rfl, ch61⟩
       have zz70 := ch61.size
       refine ⟨_, rfl, ?_⟩
       refine rP 1 6 (.bool true) rfl rfl ?_
       refine rEnd 2 rfl (nxt (wp_ret ?_))
       have kk61 := Chg.step kk60 ch61 trivial
       refine Wk.ret (.bool true) rfl (by kernel_rfl) ?_
       exact ⟨rfl, Chg.below0 kk61⟩
      refine (Mur.calls_no (Same20_any AA15 nn26 nn27 S6 Ab2 nb2 cb2 Ub2 W60 ow21.sl (Mur.SlA.chg (Mur.SlA.chg (Mur.SlA.chg hrb39 ch51 (fun g off e hl => trivial)) ch52 (fun g off e hl => trivial)) ch53 (fun g off e hl => trivial)) (by omega)) hsa6).mono ?_
      rintro _ W61 ⟨rfl, ch54⟩
      have zz71 := ch54.size
      refine ⟨_, rfl, ?_⟩
      refine rP 10 128 (.bool true) rfl rfl ?_
      refine rP 11 129 (.bool true) rfl rfl ?_
      refine rEnd 12 rfl (nxt (wp_cond_true (by kernel_rfl) (wp_seq (reg ?_))))
      refine rP 0 130 (.pointer (some ⟨qh1, 0, none⟩)) rfl rfl ?_
      refine rP 1 131 (.slice AA11 nn19 nn20) rfl rfl ?_
      refine rP 2 132 (.slice AA12 nn21 nn22) rfl rfl ?_
      refine rC 3 133 35 [.tmp 130, .tmp 131, .tmp 132, .const (.slice none 0 0)] #[41, 50, 50, 38] [.pointer (some ⟨qh1, 0, none⟩), .slice AA11 nn19 nn20, .slice AA12 nn21 nn22, .slice none 0 0] rfl rfl rfl ?_
      have hUV_ : Ub2 = (Mur.addsL S4 S1) := hcb2.uniq htw3.2
      have hbP_ : Mur.BadP [] S1 S4 := Mur.shown_of hall3 (fun h_ => hsa6 (by rw [hUV_]; first | exact h_.1 | exact h_.2))
      refine (Shown_any hc kc Hh Hk qh1 AA11 nn19 nn20 S1 AA12 nn21 nn22 S4 (by omega) (by omega) 8 [] none 0 0 W61 rfl rfl (Chg.hp ch54 (Chg.hp ch53 (Chg.hp ch52 (Chg.hp ch51 hrb35 trivial) trivial) trivial) trivial) (Mur.SlA.chg (Mur.SlA.chg (Mur.SlA.chg (Mur.SlA.chg hrb37 ch51 (fun g off e hl => trivial)) ch52 (fun g off e hl => trivial)) ch53 (fun g off e hl => trivial)) ch54 (fun g off e hl => trivial)) (Mur.SlA.chg (Mur.SlA.chg (Mur.SlA.chg (Mur.SlA.chg hrb38 ch51 (fun g off e hl => trivial)) ch52 (fun g off e hl => trivial)) ch53 (fun g off e hl => trivial)) ch54 (fun g off e hl => trivial)) (Byt.nil _ none) (fun _ => rfl)).mono ?_
      rintro _ W69 ⟨rs1, rfl, hrs1, ch62⟩
      obtain rfl : rs1 = true := hrs1 hbP_
      have zz72 := ch62.size
      refine ⟨_, rfl, ?_⟩
      refine rP 4 134 (.bool true) rfl rfl ?_
      refine rC 5 135 32 [] #[] [] rfl rfl rfl ?_
      have kk62 := Chg.step hB6 ch51 trivial
      have kk63 := Chg.step kk62 ch52 trivial
      have kk64 := Chg.step kk63 ch53 trivial
      have kk65 := Chg.step kk64 ch54 trivial
      have kk66 := Chg.step kk65 ch62 trivial
      refine (known21_any W69 (HV.out.below (Chg.below0 kk66))).mono ?_
      rintro _ W70 ⟨rfl, ch63⟩
      have zz73 := ch63.size
      refine ⟨_, rfl, ?_⟩
      refine rP 6 136 (.bool true) rfl rfl ?_
      refine rP 7 6 (.bool true) rfl rfl ?_
      refine rEnd 8 rfl (nxt (wp_ret (inR (thR (thR (inR (thR ?_)))))))
      have kk67 := Chg.step kk66 ch63 trivial
      refine Wk.ret (.bool true) rfl (by kernel_rfl) ?_
      exact ⟨rfl, Chg.below0 kk67⟩
     refine (Mur.calls_no (Same20_any AA14 nn24 nn25 S5 Ab2 nb2 cb2 Ub2 W58 ow20.sl (Mur.SlA.chg hrb39 ch51 (fun g off e hl => trivial)) (by omega)) hsa5).mono ?_
     rintro _ W59 ⟨rfl, ch52⟩
     have zz74 := ch52.size
     refine ⟨_, rfl, ?_⟩
     refine rP 4 122 (.bool true) rfl rfl ?_
     refine rP 5 123 (.bool true) rfl rfl ?_
     refine rPass 6 (some 124) rfl rfl (by kernel_rfl) ?_
     refine rPass 7 (some 125) rfl rfl (by kernel_rfl) ?_
     refine rPass 8 (some 126) rfl rfl (by kernel_rfl) ?_
     refine rPass 9 (some 127) rfl rfl (by kernel_rfl) ?_
     refine rPass 10 (some 128) rfl rfl (by kernel_rfl) ?_
     refine rP 11 129 (.bool true) rfl rfl ?_
     refine rEnd 12 rfl (nxt (wp_cond_true (by kernel_rfl) (wp_seq (reg ?_))))
     refine rP 0 130 (.pointer (some ⟨qh1, 0, none⟩)) rfl rfl ?_
     refine rP 1 131 (.slice AA11 nn19 nn20) rfl rfl ?_
     refine rP 2 132 (.slice AA12 nn21 nn22) rfl rfl ?_
     refine rC 3 133 35 [.tmp 130, .tmp 131, .tmp 132, .const (.slice none 0 0)] #[41, 50, 50, 38] [.pointer (some ⟨qh1, 0, none⟩), .slice AA11 nn19 nn20, .slice AA12 nn21 nn22, .slice none 0 0] rfl rfl rfl ?_
     have hUV_ : Ub2 = (Mur.addsL S4 S1) := hcb2.uniq htw3.2
     have hbP_ : Mur.BadP [] S1 S4 := Mur.shown_of hall3 (fun h_ => hsa5 (by rw [hUV_]; first | exact h_.1 | exact h_.2))
     refine (Shown_any hc kc Hh Hk qh1 AA11 nn19 nn20 S1 AA12 nn21 nn22 S4 (by omega) (by omega) 8 [] none 0 0 W59 rfl rfl (Chg.hp ch52 (Chg.hp ch51 hrb35 trivial) trivial) (Mur.SlA.chg (Mur.SlA.chg hrb37 ch51 (fun g off e hl => trivial)) ch52 (fun g off e hl => trivial)) (Mur.SlA.chg (Mur.SlA.chg hrb38 ch51 (fun g off e hl => trivial)) ch52 (fun g off e hl => trivial)) (Byt.nil _ none) (fun _ => rfl)).mono ?_
     rintro _ W71 ⟨rs2, rfl, hrs2, ch64⟩
     obtain rfl : rs2 = true := hrs2 hbP_
     have zz75 := ch64.size
     refine ⟨_, rfl, ?_⟩
     refine rP 4 134 (.bool true) rfl rfl ?_
     refine rC 5 135 32 [] #[] [] rfl rfl rfl ?_
     have kk68 := Chg.step hB6 ch51 trivial
     have kk69 := Chg.step kk68 ch52 trivial
     have kk70 := Chg.step kk69 ch64 trivial
     refine (known21_any W71 (HV.out.below (Chg.below0 kk70))).mono ?_
     rintro _ W72 ⟨rfl, ch65⟩
     have zz76 := ch65.size
     refine ⟨_, rfl, ?_⟩
     refine rP 6 136 (.bool true) rfl rfl ?_
     refine rP 7 6 (.bool true) rfl rfl ?_
     refine rEnd 8 rfl (nxt (wp_ret (inR (thR (thR (inR (thR ?_)))))))
     have kk71 := Chg.step kk70 ch65 trivial
     refine Wk.ret (.bool true) rfl (by kernel_rfl) ?_
     exact ⟨rfl, Chg.below0 kk71⟩
    refine (Mur.calls_no (Same20_any AA10 nn17 nn18 S4 Ab1 nb1 cb1 Ub1 W46 ow14.sl (Mur.SlA.chg (Mur.SlA.chg (Mur.SlA.chg hrb30 ch38 (fun g off e hl => trivial)) ch39 (fun g off e hl => trivial)) ch40 (fun g off e hl => trivial)) (by omega)) hsa4).mono ?_
    rintro _ W47 ⟨rfl, ch41⟩
    have zz77 := ch41.size
    refine ⟨_, rfl, ?_⟩
    refine rP 10 128 (.bool true) rfl rfl ?_
    refine rP 11 129 (.bool true) rfl rfl ?_
    refine rEnd 12 rfl (nxt (wp_cond_true (by kernel_rfl) (wp_seq (reg ?_))))
    refine rP 0 130 (.pointer (some ⟨qh1, 0, none⟩)) rfl rfl ?_
    refine rP 1 131 (.slice AA6 nn10 nn11) rfl rfl ?_
    refine rP 2 132 (.slice AA7 nn12 nn13) rfl rfl ?_
    refine rC 3 133 35 [.tmp 130, .tmp 131, .tmp 132, .const (.slice none 0 0)] #[41, 50, 50, 38] [.pointer (some ⟨qh1, 0, none⟩), .slice AA6 nn10 nn11, .slice AA7 nn12 nn13, .slice none 0 0] rfl rfl rfl ?_
    have hUV_ : Ub1 = (Mur.addsL Z3 S2) := hcb1.uniq htw2.2
    have hbP_ : Mur.BadP [] S2 Z3 := Mur.shown_of hall2 (fun h_ => hsa4 (by rw [hUV_]; first | exact h_.1 | exact h_.2))
    refine (Shown_any hc kc Hh Hk qh1 AA6 nn10 nn11 S2 AA7 nn12 nn13 Z3 (by omega) (by omega) 8 [] none 0 0 W47 rfl rfl (Chg.hp ch41 (Chg.hp ch40 (Chg.hp ch39 (Chg.hp ch38 hrb26 trivial) trivial) trivial) trivial) (Mur.SlA.chg (Mur.SlA.chg (Mur.SlA.chg (Mur.SlA.chg hrb28 ch38 (fun g off e hl => trivial)) ch39 (fun g off e hl => trivial)) ch40 (fun g off e hl => trivial)) ch41 (fun g off e hl => trivial)) (Mur.SlA.chg (Mur.SlA.chg (Mur.SlA.chg (Mur.SlA.chg hrb29 ch38 (fun g off e hl => trivial)) ch39 (fun g off e hl => trivial)) ch40 (fun g off e hl => trivial)) ch41 (fun g off e hl => trivial)) (Byt.nil _ none) (fun _ => rfl)).mono ?_
    rintro _ W73 ⟨rs3, rfl, hrs3, ch66⟩
    obtain rfl : rs3 = true := hrs3 hbP_
    have zz78 := ch66.size
    refine ⟨_, rfl, ?_⟩
    refine rP 4 134 (.bool true) rfl rfl ?_
    refine rC 5 135 32 [] #[] [] rfl rfl rfl ?_
    have kk72 := Chg.step hB5 ch38 trivial
    have kk73 := Chg.step kk72 ch39 trivial
    have kk74 := Chg.step kk73 ch40 trivial
    have kk75 := Chg.step kk74 ch41 trivial
    have kk76 := Chg.step kk75 ch66 trivial
    refine (known21_any W73 (HV.out.below (Chg.below0 kk76))).mono ?_
    rintro _ W74 ⟨rfl, ch67⟩
    have zz79 := ch67.size
    refine ⟨_, rfl, ?_⟩
    refine rP 6 136 (.bool true) rfl rfl ?_
    refine rP 7 6 (.bool true) rfl rfl ?_
    refine rEnd 8 rfl (nxt (wp_ret (inR (thR (thR (inR (thR ?_)))))))
    have kk77 := Chg.step kk76 ch67 trivial
    refine Wk.ret (.bool true) rfl (by kernel_rfl) ?_
    exact ⟨rfl, Chg.below0 kk77⟩
   refine (Mur.calls_no (Same20_any AA9 nn15 nn16 S3 Ab1 nb1 cb1 Ub1 W44 ow13.sl (Mur.SlA.chg hrb30 ch38 (fun g off e hl => trivial)) (by omega)) hsa3).mono ?_
   rintro _ W45 ⟨rfl, ch39⟩
   have zz80 := ch39.size
   refine ⟨_, rfl, ?_⟩
   refine rP 4 122 (.bool true) rfl rfl ?_
   refine rP 5 123 (.bool true) rfl rfl ?_
   refine rPass 6 (some 124) rfl rfl (by kernel_rfl) ?_
   refine rPass 7 (some 125) rfl rfl (by kernel_rfl) ?_
   refine rPass 8 (some 126) rfl rfl (by kernel_rfl) ?_
   refine rPass 9 (some 127) rfl rfl (by kernel_rfl) ?_
   refine rPass 10 (some 128) rfl rfl (by kernel_rfl) ?_
   refine rP 11 129 (.bool true) rfl rfl ?_
   refine rEnd 12 rfl (nxt (wp_cond_true (by kernel_rfl) (wp_seq (reg ?_))))
   refine rP 0 130 (.pointer (some ⟨qh1, 0, none⟩)) rfl rfl ?_
   refine rP 1 131 (.slice AA6 nn10 nn11) rfl rfl ?_
   refine rP 2 132 (.slice AA7 nn12 nn13) rfl rfl ?_
   refine rC 3 133 35 [.tmp 130, .tmp 131, .tmp 132, .const (.slice none 0 0)] #[41, 50, 50, 38] [.pointer (some ⟨qh1, 0, none⟩), .slice AA6 nn10 nn11, .slice AA7 nn12 nn13, .slice none 0 0] rfl rfl rfl ?_
   have hUV_ : Ub1 = (Mur.addsL Z3 S2) := hcb1.uniq htw2.2
   have hbP_ : Mur.BadP [] S2 Z3 := Mur.shown_of hall2 (fun h_ => hsa3 (by rw [hUV_]; first | exact h_.1 | exact h_.2))
   refine (Shown_any hc kc Hh Hk qh1 AA6 nn10 nn11 S2 AA7 nn12 nn13 Z3 (by omega) (by omega) 8 [] none 0 0 W45 rfl rfl (Chg.hp ch39 (Chg.hp ch38 hrb26 trivial) trivial) (Mur.SlA.chg (Mur.SlA.chg hrb28 ch38 (fun g off e hl => trivial)) ch39 (fun g off e hl => trivial)) (Mur.SlA.chg (Mur.SlA.chg hrb29 ch38 (fun g off e hl => trivial)) ch39 (fun g off e hl => trivial)) (Byt.nil _ none) (fun _ => rfl)).mono ?_
   rintro _ W75 ⟨rs4, rfl, hrs4, ch68⟩
   obtain rfl : rs4 = true := hrs4 hbP_
   have zz81 := ch68.size
   refine ⟨_, rfl, ?_⟩
   refine rP 4 134 (.bool true) rfl rfl ?_
   refine rC 5 135 32 [] #[] [] rfl rfl rfl ?_
   have kk78 := Chg.step hB5 ch38 trivial
   have kk79 := Chg.step kk78 ch39 trivial
   have kk80 := Chg.step kk79 ch68 trivial
   refine (known21_any W75 (HV.out.below (Chg.below0 kk80))).mono ?_
   rintro _ W76 ⟨rfl, ch69⟩
   have zz82 := ch69.size
   refine ⟨_, rfl, ?_⟩
   refine rP 6 136 (.bool true) rfl rfl ?_
   refine rP 7 6 (.bool true) rfl rfl ?_
   refine rEnd 8 rfl (nxt (wp_ret (inR (thR (thR (inR (thR ?_)))))))
   have kk81 := Chg.step kk80 ch69 trivial
   refine Wk.ret (.bool true) rfl (by kernel_rfl) ?_
   exact ⟨rfl, Chg.below0 kk81⟩
  refine (Mur.calls_no (Same20_any AA5 nn8 nn9 S2 Ab0 nb0 cb0 Ub0 W32 ow7.sl (Mur.SlA.chg (Mur.SlA.chg (Mur.SlA.chg hrb21 ch25 (fun g off e hl => trivial)) ch26 (fun g off e hl => trivial)) ch27 (fun g off e hl => trivial)) (by omega)) hsa2).mono ?_
  rintro _ W33 ⟨rfl, ch28⟩
  have zz83 := ch28.size
  refine ⟨_, rfl, ?_⟩
  refine rP 10 128 (.bool true) rfl rfl ?_
  refine rP 11 129 (.bool true) rfl rfl ?_
  refine rEnd 12 rfl (nxt (wp_cond_true (by kernel_rfl) (wp_seq (reg ?_))))
  refine rP 0 130 (.pointer (some ⟨qh1, 0, none⟩)) rfl rfl ?_
  refine rP 1 131 (.slice AA1 nn1 nn2) rfl rfl ?_
  refine rP 2 132 (.slice AA2 nn3 nn4) rfl rfl ?_
  refine rC 3 133 35 [.tmp 130, .tmp 131, .tmp 132, .const (.slice none 0 0)] #[41, 50, 50, 38] [.pointer (some ⟨qh1, 0, none⟩), .slice AA1 nn1 nn2, .slice AA2 nn3 nn4, .slice none 0 0] rfl rfl rfl ?_
  have hUV_ : Ub0 = (Mur.addsL Z2 Z1) := hcb0.uniq htw1.2
  have hbP_ : Mur.BadP [] Z1 Z2 := Mur.shown_of hall1 (fun h_ => hsa2 (by rw [hUV_]; first | exact h_.1 | exact h_.2))
  refine (Shown_any hc kc Hh Hk qh1 AA1 nn1 nn2 Z1 AA2 nn3 nn4 Z2 (by omega) (by omega) 8 [] none 0 0 W33 rfl rfl (Chg.hp ch28 (Chg.hp ch27 (Chg.hp ch26 (Chg.hp ch25 hrb17 trivial) trivial) trivial) trivial) (Mur.SlA.chg (Mur.SlA.chg (Mur.SlA.chg (Mur.SlA.chg hrb19 ch25 (fun g off e hl => trivial)) ch26 (fun g off e hl => trivial)) ch27 (fun g off e hl => trivial)) ch28 (fun g off e hl => trivial)) (Mur.SlA.chg (Mur.SlA.chg (Mur.SlA.chg (Mur.SlA.chg hrb20 ch25 (fun g off e hl => trivial)) ch26 (fun g off e hl => trivial)) ch27 (fun g off e hl => trivial)) ch28 (fun g off e hl => trivial)) (Byt.nil _ none) (fun _ => rfl)).mono ?_
  rintro _ W77 ⟨rs5, rfl, hrs5, ch70⟩
  obtain rfl : rs5 = true := hrs5 hbP_
  have zz84 := ch70.size
  refine ⟨_, rfl, ?_⟩
  refine rP 4 134 (.bool true) rfl rfl ?_
  refine rC 5 135 32 [] #[] [] rfl rfl rfl ?_
  have kk82 := Chg.step hB4 ch25 trivial
  have kk83 := Chg.step kk82 ch26 trivial
  have kk84 := Chg.step kk83 ch27 trivial
  have kk85 := Chg.step kk84 ch28 trivial
  have kk86 := Chg.step kk85 ch70 trivial
  refine (known21_any W77 (HV.out.below (Chg.below0 kk86))).mono ?_
  rintro _ W78 ⟨rfl, ch71⟩
  have zz85 := ch71.size
  refine ⟨_, rfl, ?_⟩
  refine rP 6 136 (.bool true) rfl rfl ?_
  refine rP 7 6 (.bool true) rfl rfl ?_
  refine rEnd 8 rfl (nxt (wp_ret (inR (thR (thR (inR (thR ?_)))))))
  have kk87 := Chg.step kk86 ch71 trivial
  refine Wk.ret (.bool true) rfl (by kernel_rfl) ?_
  exact ⟨rfl, Chg.below0 kk87⟩
 refine (Mur.calls_no (Same20_any AA4 nn6 nn7 S1 Ab0 nb0 cb0 Ub0 W30 ow6.sl (Mur.SlA.chg hrb21 ch25 (fun g off e hl => trivial)) (by omega)) hsa1).mono ?_
 rintro _ W31 ⟨rfl, ch26⟩
 have zz86 := ch26.size
 refine ⟨_, rfl, ?_⟩
 refine rP 4 122 (.bool true) rfl rfl ?_
 refine rP 5 123 (.bool true) rfl rfl ?_
 refine rPass 6 (some 124) rfl rfl (by kernel_rfl) ?_
 refine rPass 7 (some 125) rfl rfl (by kernel_rfl) ?_
 refine rPass 8 (some 126) rfl rfl (by kernel_rfl) ?_
 refine rPass 9 (some 127) rfl rfl (by kernel_rfl) ?_
 refine rPass 10 (some 128) rfl rfl (by kernel_rfl) ?_
 refine rP 11 129 (.bool true) rfl rfl ?_
 refine rEnd 12 rfl (nxt (wp_cond_true (by kernel_rfl) (wp_seq (reg ?_))))
 refine rP 0 130 (.pointer (some ⟨qh1, 0, none⟩)) rfl rfl ?_
 refine rP 1 131 (.slice AA1 nn1 nn2) rfl rfl ?_
 refine rP 2 132 (.slice AA2 nn3 nn4) rfl rfl ?_
 refine rC 3 133 35 [.tmp 130, .tmp 131, .tmp 132, .const (.slice none 0 0)] #[41, 50, 50, 38] [.pointer (some ⟨qh1, 0, none⟩), .slice AA1 nn1 nn2, .slice AA2 nn3 nn4, .slice none 0 0] rfl rfl rfl ?_
 have hUV_ : Ub0 = (Mur.addsL Z2 Z1) := hcb0.uniq htw1.2
 have hbP_ : Mur.BadP [] Z1 Z2 := Mur.shown_of hall1 (fun h_ => hsa1 (by rw [hUV_]; first | exact h_.1 | exact h_.2))
 refine (Shown_any hc kc Hh Hk qh1 AA1 nn1 nn2 Z1 AA2 nn3 nn4 Z2 (by omega) (by omega) 8 [] none 0 0 W31 rfl rfl (Chg.hp ch26 (Chg.hp ch25 hrb17 trivial) trivial) (Mur.SlA.chg (Mur.SlA.chg hrb19 ch25 (fun g off e hl => trivial)) ch26 (fun g off e hl => trivial)) (Mur.SlA.chg (Mur.SlA.chg hrb20 ch25 (fun g off e hl => trivial)) ch26 (fun g off e hl => trivial)) (Byt.nil _ none) (fun _ => rfl)).mono ?_
 rintro _ W79 ⟨rs6, rfl, hrs6, ch72⟩
 obtain rfl : rs6 = true := hrs6 hbP_
 have zz87 := ch72.size
 refine ⟨_, rfl, ?_⟩
 refine rP 4 134 (.bool true) rfl rfl ?_
 refine rC 5 135 32 [] #[] [] rfl rfl rfl ?_
 have kk88 := Chg.step hB4 ch25 trivial
 have kk89 := Chg.step kk88 ch26 trivial
 have kk90 := Chg.step kk89 ch72 trivial
 refine (known21_any W79 (HV.out.below (Chg.below0 kk90))).mono ?_
 rintro _ W80 ⟨rfl, ch73⟩
 have zz88 := ch73.size
 refine ⟨_, rfl, ?_⟩
 refine rP 6 136 (.bool true) rfl rfl ?_
 refine rP 7 6 (.bool true) rfl rfl ?_
 refine rEnd 8 rfl (nxt (wp_ret (inR (thR (thR (inR (thR ?_)))))))
 have kk91 := Chg.step kk90 ch73 trivial
 refine Wk.ret (.bool true) rfl (by kernel_rfl) ?_
 exact ⟨rfl, Chg.below0 kk91⟩
end Go.Proofs.YtfhneademopciaaDoor
