/- What the row rests on, part 12. -/
import Derived.Test.YtfhneademopciaaDoorPT9
import Derived.Test.YtfhneademopciaaDoorPT5
import Derived.Test.YtfhneademopciaaDoorPT11
import Derived.Test.YtfhneademopciaaDoorPT10
import Derived.Test.YtfhneademopciaaDoorPT6
namespace Go.Proofs.YtfhneademopciaaDoor
open Go.RowKit Wk
open Mur (b8s Byt Own8 Seg Segs flat cutA attC Att SlA OwnA rowA msgC)
set_option maxRecDepth 100000
set_option maxHeartbeats 4000000
def IdxG_F1 (b : Array Value) (u0 : Value) (u3 : Value) (u7 : Value) (u8 : Value) : Act := ⟨#[u0, gd b 1, gd b 2, u3, gd b 4, gd b 5, gd b 6, u7, u8, gd b 9, gd b 10, gd b 11, gd b 12, gd b 13, gd b 14, gd b 15, gd b 16, gd b 17, gd b 18], []⟩
theorem Index_any (A : Option Addr) (n c : Nat) (I : List Att) (x : Att) (w : World) (hl : SlA w A n I) (hn : n ≤ 9223372036854775807) : Calls Tryd.prog 77 #[.slice A n c, .agg (attC x.k x.r x.n x.t).toArray] w fun e w' => ∃ r : Int, e = .returned (.int .i64 r) ∧ (0 ≤ r ↔ x ∈ I) ∧ Chg [] w w' := by
 refine calls_of_wp Tryd.func77 rfl ?_
 refine wp_seq (reg ?_)
 refine rX 0 3 rfl rfl (new_ex (.pointer (some ⟨w.heap.size, 0, none⟩)) ((Mur.attC x.k x.r x.n x.t).toArray) 32 (by kernel_rfl)) ?_
 rintro _ W1 ⟨rfl, hb1, ch1, sz1⟩
 have zz1 := ch1.size
 refine rP 1 4 (.int .i64 0) rfl rfl ?_
 refine rEnd 2 rfl (nxt (wp_seq (wp_seq (reg ?_))))
 refine rP 0 6 (.slice A n c) rfl rfl ?_
 refine rP 1 7 (.int .i64 ((n : Nat) : Int)) rfl rfl ?_
 refine rP 2 8 (.int .i64 0) rfl rfl ?_
 refine rEnd 3 rfl (nxt (wp_block ?_))
 refine Wk.loop (fun m_ a wr => ∃ (i : Nat), m_ = n - i ∧ a = IdxG_F1 a.tmps (.slice A n c) (.pointer (some ⟨w.heap.size, 0, none⟩)) (.int .i64 ((n : Nat) : Int)) (.int .i64 ((i : Nat) : Int)) ∧ i ≤ n ∧ x ∉ I.take i ∧ wr.heap[w.heap.size]? = some (.cells (Mur.attC x.k x.r x.n x.t).toArray 32 (0, 0)) ∧ Chg [] w wr) (n - 0) ?_ ?_
 ·have kk1 : Chg [] w W1 := Chg.step ((Chg.refl _).more (by simp)) ch1 trivial
  refine ⟨0, rfl, by kernel_rfl, (by omega), (by simp), hb1, kk1⟩
 rintro mm1 aa1 W2 ⟨i, hmm1, hF1, hi, hno, hX, HB⟩
 generalize aa1.tmps = bb1 at hF1
 subst hF1
 have hzB := HB.size
 have hxl_ := (Array.getElem?_eq_some_iff.1 hX).1
 have hlI := hl.len
 by_cases hlt : i < n
 ·obtain ⟨g_y, o_y, rfl, _⟩ := hl.ex (by omega)
  obtain ⟨y, hy⟩ : ∃ x, I[i]? = some x := ⟨_, List.getElem?_eq_getElem (by have := hl.len; omega)⟩
  refine wp_seq (reg ?_)
  refine rQ 0 9 _ rfl rfl (qboolT (b := decide (((i : Nat) : Int) < ((n : Nat) : Int))) (decide_eq_true (by omega))) ?_
  refine rEnd 1 rfl (nxt (wp_seq (wp_cond_true (by kernel_rfl) (wp_skip (nxt (wp_seq (wp_block (wp_seq (reg ?_)))))))))
  refine rP 0 10 (.int .i64 ((i : Nat) : Int)) rfl rfl ?_
  refine rP 1 5 (.int .i64 ((i : Nat) : Int)) rfl rfl ?_
  refine rEnd 2 rfl (nxt (wp_seq ?_))
  refine dReg ([]) (by kernel_rfl) ?_
  intro W3 ch2 sz2
  have zz2 := ch2.size
  have sS1 : Chg ([]) W3 W3 := (Chg.refl _).more (by simp)
  refine dV 0 11 (.agg ((Mur.attC x.k x.r x.n x.t).toArray)) rfl rfl (fun w' hw' => (Mur.loadArr 32 (.tmp 3) rfl _ Tryd.underlying32 rfl w.heap.size (by kernel_rfl) (Mur.attC x.k x.r x.n x.t).toArray 97 (Mur.attC_size x.hk x.hr x.ht) (by kernel_rfl) 32 (0, 0) (Chg.hp hw' (Chg.hp ch2 hX trivial) trivial))) sS1 ?_
  refine dV 1 12 (.slice (some ⟨g_y, o_y, none⟩) n c) rfl rfl (fun _ _ => by kernel_rfl) sS1 ?_
  refine dV 2 13 (.int .i64 ((i : Nat) : Int)) rfl rfl (fun _ _ => by kernel_rfl) sS1 ?_
  refine dV 3 14 (.pointer (some ⟨g_y, o_y + i * 97, none⟩)) rfl rfl (fun w' hw' => (index_sl 22 32 (.tmp 12) (.tmp 13) rfl Tryd.underlying22 97 (by kernel_rfl) g_y o_y n c i .i64 (by kernel_rfl) (by kernel_rfl) (by omega))) sS1 ?_
  have kk2 := Chg.step HB ch2 trivial
  refine dV 4 15 (.agg ((Mur.attC y.k y.r y.n y.t).toArray)) rfl rfl (fun w' hw' => (loadR 32 (.tmp 14) rfl _ Tryd.underlying32 rfl g_y (o_y + i * 97) (by kernel_rfl) (Mur.attC y.k y.r y.n y.t) (by rw [Mur.attC_length y.hk y.hr y.ht]; kernel_rfl) ((Mur.SlA.chg (Mur.SlA.chg hl kk2 (fun g off e hl => trivial)) hw' (fun g off e hl => trivial)).elem hy))) sS1 ?_
  by_cases hatt1 : x.k = y.k ∧ x.r = y.r ∧ x.n = y.n ∧ x.t = y.t
  ·refine dV 5 16 (.bool true) rfl rfl (fun w' hw' => (boolT (b := decide (x.k = y.k ∧ x.r = y.r ∧ x.n = y.n ∧ x.t = y.t)) (decide_eq_true (hatt1)) (run_eql_att (.tmp 11) (.tmp 15) 32 rfl x.hk x.hr x.ht y.hk y.hr y.ht x.hn y.hn (by kernel_rfl) (by kernel_rfl)))) sS1 ?_
   refine dEnd (by kernel_rfl) (nxt (wp_cond_true (by kernel_rfl) (wp_seq (reg ?_))))
   refine rP 0 17 (.int .i64 ((i : Nat) : Int)) rfl rfl ?_
   refine rP 1 4 (.int .i64 ((i : Nat) : Int)) rfl rfl ?_
   refine rEnd 2 rfl (nxt (wp_ret (inR (thR (thR (inR (thR ?_)))))))
   refine Wk.ret (.int .i64 ((i : Nat) : Int)) rfl (by kernel_rfl) ?_
   exact ⟨_, rfl, ⟨fun _ => by rw [(Mur.Att.eq_iff x y).2 hatt1]; exact List.mem_of_getElem? hy, fun _ => by omega⟩, kk2⟩
  refine dV 5 16 (.bool false) rfl rfl (fun w' hw' => (boolF (b := decide (x.k = y.k ∧ x.r = y.r ∧ x.n = y.n ∧ x.t = y.t)) (decide_eq_false (hatt1)) (run_eql_att (.tmp 11) (.tmp 15) 32 rfl x.hk x.hr x.ht y.hk y.hr y.ht x.hn y.hn (by kernel_rfl) (by kernel_rfl)))) sS1 ?_
  refine dEnd (by kernel_rfl) (nxt (wp_cond_false (by kernel_rfl) (wp_skip (inN (nxt (reg ?_))))))
  refine rQ 0 18 _ rfl rfl (qint64 (n := ((i : Nat) : Int) + 1) (z := ((i + 1 : Nat) : Int)) (by omega) (by omega) (by omega)) ?_
  refine rP 1 8 (.int .i64 ((i + 1 : Nat) : Int)) rfl rfl ?_
  refine rEnd 2 rfl (nxt ?_)
  refine ⟨_, ?_, i + 1, rfl, by kernel_rfl, (by omega), (fun h_ => by rw [Mur.take_snoc hy] at h_; rcases List.mem_append.1 h_ with h1_ | h1_ <;> first | exact hno h1_ | exact hatt1 ((Mur.Att.eq_iff x y).1 (List.mem_singleton.1 h1_))), (Chg.hp ch2 hX trivial), kk2⟩
  omega
 rw [List.take_of_length_le (show I.length ≤ i by omega)] at hno
 refine wp_seq (reg ?_)
 refine rQ 0 9 _ rfl rfl (qboolF (b := decide (((i : Nat) : Int) < ((n : Nat) : Int))) (decide_eq_false (by omega))) ?_
 refine rEnd 1 rfl (nxt (wp_seq (wp_cond_false (by kernel_rfl) (wp_exit (thX (thX (inX (nxt (wp_seq (reg ?_))))))))))
 refine rP 0 4 (.int .i64 (-1)) rfl rfl ?_
 refine rEnd 1 rfl (nxt (wp_ret ?_))
 refine Wk.ret (.int .i64 (-1)) rfl (by kernel_rfl) ?_
 exact ⟨_, rfl, ⟨fun h_ => by omega, fun h_ => absurd h_ hno⟩, HB⟩
theorem Contains_any (A : Option Addr) (n c : Nat) (I : List Att) (x : Att) (w : World) (hl : SlA w A n I) (hn : n ≤ 9223372036854775807) : Calls Tryd.prog 56 #[.slice A n c, .agg (attC x.k x.r x.n x.t).toArray] w fun e w' => e = .returned (.bool (decide (x ∈ I))) ∧ Chg [] w w' := by
 refine calls_of_wp Tryd.func56 rfl ?_
 refine wp_seq (reg ?_)
 refine rX 0 3 rfl rfl (new_ex (.pointer (some ⟨w.heap.size, 0, none⟩)) ((Mur.attC x.k x.r x.n x.t).toArray) 32 (by kernel_rfl)) ?_
 rintro _ W1 ⟨rfl, hb1, ch1, sz1⟩
 have zz1 := ch1.size
 refine rP 1 4 (.bool false) rfl rfl ?_
 refine rEnd 2 rfl (nxt (wp_seq (reg ?_)))
 refine rP 0 5 (.slice A n c) rfl rfl ?_
 refine rQ 1 6 (.agg ((Mur.attC x.k x.r x.n x.t).toArray)) rfl rfl (Mur.loadArr 32 (.tmp 3) rfl _ Tryd.underlying32 rfl w.heap.size (by kernel_rfl) (Mur.attC x.k x.r x.n x.t).toArray 97 (Mur.attC_size x.hk x.hr x.ht) (by kernel_rfl) 32 (0, 0) hb1) ?_
 refine rC 2 7 77 [.tmp 5, .tmp 6] #[22, 32] [.slice A n c, .agg ((Mur.attC x.k x.r x.n x.t).toArray)] rfl rfl rfl ?_
 have kk1 : Chg [] w W1 := Chg.step ((Chg.refl _).more (by simp)) ch1 trivial
 refine (Index_any A n c I x W1 (Mur.SlA.chg hl kk1 (fun g off e hl => trivial)) (by omega)).mono ?_
 rintro _ W2 ⟨ri1, rfl, hri1, ch2⟩
 have zz2 := ch2.size
 refine ⟨_, rfl, ?_⟩
 by_cases hx1 : ri1 ≥ (0 : Int)
 ·refine rQ 3 8 _ rfl rfl (qboolT (b := decide (ri1 ≥ (0 : Int))) (decide_eq_true (by first | exact hx1 | omega))) ?_
  refine rP 4 4 (.bool true) rfl rfl ?_
  refine rEnd 5 rfl (nxt (wp_ret ?_))
  have kk2 := Chg.step kk1 ch2 trivial
  refine Wk.ret (.bool true) rfl (by kernel_rfl) ?_
  exact ⟨by first | rw [decide_eq_true (hri1.1 (by omega))] | skip, kk2⟩
 refine rQ 3 8 _ rfl rfl (qboolF (b := decide (ri1 ≥ (0 : Int))) (decide_eq_false (by first | exact hx1 | omega))) ?_
 refine rP 4 4 (.bool false) rfl rfl ?_
 refine rEnd 5 rfl (nxt (wp_ret ?_))
 have kk3 := Chg.step kk1 ch2 trivial
 refine Wk.ret (.bool false) rfl (by kernel_rfl) ?_
 exact ⟨by first | rw [decide_eq_false (fun q_ => absurd (hri1.2 q_) (by omega))] | skip, kk3⟩
theorem HearF_any (x : Att) (g : Nat) (kd : UInt8) (PA : Option Addr) (pn pc : Nat) (s : List UInt8) (m : Int) (A : Option Addr) (n c : Nat) (b : Bool) (I : List Att) (w : World) (hs : s.length = 32) (hp : w.heap[g]? = some (.cells (msgC kd PA pn pc s m A n c b).toArray 66 (0, 0))) (hl : SlA w A n I) (hn : n ≤ 9223372036854775807) : Calls Tryd.prog 55 #[.agg (attC x.k x.r x.n x.t).toArray, .pointer (some ⟨g, 0, none⟩)] w fun e w' => e = .returned (.bool (decide (x ∈ I))) ∧ Chg [] w w' := by
 have hgl_ := (Array.getElem?_eq_some_iff.1 hp).1
 refine calls_of_wp Tryd.func55 rfl ?_
 refine wp_seq (reg ?_)
 refine rX 0 2 rfl rfl (new_ex (.pointer (some ⟨w.heap.size, 0, none⟩)) ((Mur.attC x.k x.r x.n x.t).toArray) 32 (by kernel_rfl)) ?_
 rintro _ W1 ⟨rfl, hb1, ch1, sz1⟩
 have zz1 := ch1.size
 refine rP 1 3 (.bool false) rfl rfl ?_
 refine rEnd 2 rfl (nxt (wp_seq (reg ?_)))
 refine rP 0 4 (.pointer (some ⟨g, 35, none⟩)) rfl rfl ?_
 have kk1 : Chg [] w W1 := Chg.step ((Chg.refl _).more (by simp)) ch1 trivial
 refine rQ 1 5 _ rfl rfl (load1 22 (.tmp 4) rfl (by kernel_rfl) ⟨g, 35, none⟩ (by kernel_rfl) (.slice A n c) (show World.cell? _ ⟨_, 0 + 35, _⟩ = _ from Mur.msg_items hs (range_row (Chg.hp kk1 hp trivial)))) ?_
 refine rQ 2 6 (.agg ((Mur.attC x.k x.r x.n x.t).toArray)) rfl rfl (Mur.loadArr 32 (.tmp 2) rfl _ Tryd.underlying32 rfl w.heap.size (by kernel_rfl) (Mur.attC x.k x.r x.n x.t).toArray 97 (Mur.attC_size x.hk x.hr x.ht) (by kernel_rfl) 32 (0, 0) hb1) ?_
 refine rC 3 7 56 [.tmp 5, .tmp 6] #[22, 32] [.slice A n c, .agg ((Mur.attC x.k x.r x.n x.t).toArray)] rfl rfl rfl ?_
 refine (Contains_any A n c I x W1 (Mur.SlA.chg hl kk1 (fun g off e hl => trivial)) (by omega)).mono ?_
 by_cases hmem1 : x ∈ I
 ·rw [decide_eq_true hmem1]
  rintro _ W2 ⟨rfl, ch2⟩
  have zz2 := ch2.size
  refine ⟨_, rfl, ?_⟩
  refine rP 4 3 (.bool true) rfl rfl ?_
  refine rEnd 5 rfl (nxt (wp_ret ?_))
  have kk2 := Chg.step kk1 ch2 trivial
  refine Wk.ret (.bool true) rfl (by kernel_rfl) ?_
  exact ⟨rfl, kk2⟩
 rw [decide_eq_false hmem1]
 rintro _ W2 ⟨rfl, ch2⟩
 have zz3 := ch2.size
 refine ⟨_, rfl, ?_⟩
 refine rP 4 3 (.bool false) rfl rfl ?_
 refine rEnd 5 rfl (nxt (wp_ret ?_))
 have kk3 := Chg.step kk1 ch2 trivial
 refine Wk.ret (.bool false) rfl (by kernel_rfl) ?_
 exact ⟨rfl, kk3⟩
end Go.Proofs.YtfhneademopciaaDoor
namespace Go.Proofs.YtfhneademopciaaDoor
open Go.RowKit Wk
open Mur (b8s Byt Own8 Seg Segs flat cutA attC Att SlA OwnA rowA msgC)
set_option maxRecDepth 100000
set_option maxHeartbeats 4000000
def IdF_F1 (b : Array Value) (u0 : Value) (u1 : Value) (u7 : Value) (u8 : Value) : Act := ⟨#[u0, u1, gd b 2, gd b 3, gd b 4, gd b 5, gd b 6, u7, u8, gd b 9, gd b 10, gd b 11, gd b 12, gd b 13, gd b 14, gd b 15, gd b 16, gd b 17, gd b 18], []⟩
theorem IndexF_any (A : Option Addr) (n c : Nat) (L : List Att) (g : Nat) (kd : UInt8) (PA : Option Addr) (pn pc : Nat) (s : List UInt8) (m : Int) (B : Option Addr) (bn bc : Nat) (b : Bool) (I : List Att) (w : World) (hl : SlA w A n L) (hn : n ≤ 9223372036854775807) (hs : s.length = 32) (hp : w.heap[g]? = some (.cells (msgC kd PA pn pc s m B bn bc b).toArray 66 (0, 0))) (hI : SlA w B bn I) (hbn : bn ≤ 9223372036854775807) : Calls Tryd.prog 76 #[.slice A n c, .func (.func 55) #[] #[.pointer (some ⟨g, 0, none⟩)]] w fun e w' => ∃ r : Int, e = .returned (.int .i64 r) ∧ ((r = -1 ∧ ∀ y, y ∈ L → y ∉ I) ∨ ∃ k : Nat, r = (k : Int) ∧ k < n ∧ (∀ y, y ∈ L.take k → y ∉ I) ∧ ∃ y, L[k]? = some y ∧ y ∈ I) ∧ Chg [] w w' := by
 have hgl_ := (Array.getElem?_eq_some_iff.1 hp).1
 refine calls_of_wp Tryd.func76 rfl ?_
 refine wp_seq (reg ?_)
 refine rP 0 4 (.int .i64 0) rfl rfl ?_
 refine rEnd 1 rfl (nxt (wp_seq (wp_seq (reg ?_))))
 refine rP 0 6 (.slice A n c) rfl rfl ?_
 refine rP 1 7 (.int .i64 ((n : Nat) : Int)) rfl rfl ?_
 refine rP 2 8 (.int .i64 0) rfl rfl ?_
 refine rEnd 3 rfl (nxt (wp_block ?_))
 refine Wk.loop (fun m_ a wr => ∃ (i : Nat), m_ = n - i ∧ a = IdF_F1 a.tmps (.slice A n c) (.func (.func 55) #[] #[.pointer (some ⟨g, 0, none⟩)]) (.int .i64 ((n : Nat) : Int)) (.int .i64 ((i : Nat) : Int)) ∧ i ≤ n ∧ (∀ y, y ∈ L.take i → y ∉ I) ∧ Chg [] w wr) (n - 0) ?_ ?_
 ·refine ⟨0, rfl, by kernel_rfl, (by omega), (by simp), (Chg.refl _)⟩
 rintro mm1 aa1 W1 ⟨i, hmm1, hF1, hi, hno, HB⟩
 generalize aa1.tmps = bb1 at hF1
 subst hF1
 have hzB := HB.size
 have hlL := hl.len
 by_cases hlt : i < n
 ·obtain ⟨g_x, o_x, rfl, _⟩ := hl.ex (by omega)
  obtain ⟨x, hx⟩ : ∃ x, L[i]? = some x := ⟨_, List.getElem?_eq_getElem (by have := hl.len; omega)⟩
  refine wp_seq (reg ?_)
  refine rQ 0 9 _ rfl rfl (qboolT (b := decide (((i : Nat) : Int) < ((n : Nat) : Int))) (decide_eq_true (by omega))) ?_
  refine rEnd 1 rfl (nxt (wp_seq (wp_cond_true (by kernel_rfl) (wp_skip (nxt (wp_seq (wp_block (wp_seq (reg ?_)))))))))
  refine rP 0 10 (.int .i64 ((i : Nat) : Int)) rfl rfl ?_
  refine rP 1 5 (.int .i64 ((i : Nat) : Int)) rfl rfl ?_
  refine rEnd 2 rfl (nxt (wp_seq (reg ?_)))
  refine rP 0 11 (.func (.func 55) #[] #[.pointer (some ⟨g, 0, none⟩)]) rfl rfl ?_
  refine rP 1 12 (.slice (some ⟨g_x, o_x, none⟩) n c) rfl rfl ?_
  refine rP 2 13 (.int .i64 ((i : Nat) : Int)) rfl rfl ?_
  refine rQ 3 14 (.pointer (some ⟨g_x, o_x + i * 97, none⟩)) rfl rfl (index_sl 22 32 (.tmp 12) (.tmp 13) rfl Tryd.underlying22 97 (by kernel_rfl) g_x o_x n c i .i64 (by kernel_rfl) (by kernel_rfl) (by omega)) ?_
  refine rQ 4 15 (.agg ((Mur.attC x.k x.r x.n x.t).toArray)) rfl rfl (loadR 32 (.tmp 14) rfl _ Tryd.underlying32 rfl g_x (o_x + i * 97) (by kernel_rfl) (Mur.attC x.k x.r x.n x.t) (by rw [Mur.attC_length x.hk x.hr x.ht]; kernel_rfl) ((Mur.SlA.chg hl HB (fun g off e hl => trivial)).elem hx)) ?_
  refine Wk.rCallV 5 (some 16) (.tmp 11) 55 #[.pointer (some ⟨g, 0, none⟩)] [.tmp 15] #[32] [.agg ((Mur.attC x.k x.r x.n x.t).toArray)] rfl rfl (by kernel_rfl) rfl (by kernel_rfl) (by kernel_rfl) (by kernel_rfl) ?_
  refine (HearF_any x g kd PA pn pc s m B bn bc b I W1 hs (Chg.hp HB hp trivial) (Mur.SlA.chg hI HB (fun g off e hl => trivial)) (by omega)).mono ?_
  by_cases hmem1 : x ∈ I
  ·rw [decide_eq_true hmem1]
   rintro _ W2 ⟨rfl, ch1⟩
   have zz1 := ch1.size
   refine ⟨_, rfl, ?_⟩
   refine rEnd 6 rfl (nxt (wp_cond_true (by kernel_rfl) (wp_seq (reg ?_))))
   refine rP 0 17 (.int .i64 ((i : Nat) : Int)) rfl rfl ?_
   refine rP 1 4 (.int .i64 ((i : Nat) : Int)) rfl rfl ?_
   refine rEnd 2 rfl (nxt (wp_ret (inR (thR (thR (inR (thR ?_)))))))
   have kk1 := Chg.step HB ch1 trivial
   refine Wk.ret (.int .i64 ((i : Nat) : Int)) rfl (by kernel_rfl) ?_
   exact ⟨_, rfl, .inr ⟨i, rfl, hlt, hno, x, hx, hmem1⟩, kk1⟩
  rw [decide_eq_false hmem1]
  rintro _ W2 ⟨rfl, ch1⟩
  have zz2 := ch1.size
  refine ⟨_, rfl, ?_⟩
  refine rEnd 6 rfl (nxt (wp_cond_false (by kernel_rfl) (wp_skip (inN (nxt (reg ?_))))))
  refine rQ 0 18 _ rfl rfl (qint64 (n := ((i : Nat) : Int) + 1) (z := ((i + 1 : Nat) : Int)) (by omega) (by omega) (by omega)) ?_
  refine rP 1 8 (.int .i64 ((i + 1 : Nat) : Int)) rfl rfl ?_
  refine rEnd 2 rfl (nxt ?_)
  have kk2 := Chg.step HB ch1 trivial
  refine ⟨_, ?_, i + 1, rfl, by kernel_rfl, (by omega), (fun y_ hy_ => by rw [Mur.take_snoc hx] at hy_; rcases List.mem_append.1 hy_ with h1_ | h1_ <;> first | exact hno y_ h1_ | (rw [List.mem_singleton.1 h1_]; exact hmem1)), kk2⟩
  omega
 rw [List.take_of_length_le (show L.length ≤ i by omega)] at hno
 refine wp_seq (reg ?_)
 refine rQ 0 9 _ rfl rfl (qboolF (b := decide (((i : Nat) : Int) < ((n : Nat) : Int))) (decide_eq_false (by omega))) ?_
 refine rEnd 1 rfl (nxt (wp_seq (wp_cond_false (by kernel_rfl) (wp_exit (thX (thX (inX (nxt (wp_seq (reg ?_))))))))))
 refine rP 0 4 (.int .i64 (-1)) rfl rfl ?_
 refine rEnd 1 rfl (nxt (wp_ret ?_))
 refine Wk.ret (.int .i64 (-1)) rfl (by kernel_rfl) ?_
 exact ⟨_, rfl, .inl ⟨rfl, hno⟩, HB⟩
end Go.Proofs.YtfhneademopciaaDoor
namespace Mur
open Go Go.RowKit Wk
section
variable {P : Program} {w : World} {a : Act} {o : Oper}
theorem zero_one {cs : Array Value} (h : cs.all (·.oneCell') = true) (n : Nat) : ∀ v ∈ (Builtin.zeroCells cs n).toList, v.oneCell' = true := by
  intro v hv
  simp only [Builtin.zeroCells, Array.toList_map, List.mem_map] at hv
  obtain ⟨i, _, rfl⟩ := hv
  by_cases h0 : i % cs.size < cs.size
  · rw [getElem!_pos cs _ h0]
    exact (Array.all_eq_true_iff_forall_mem.1 h) _ (Array.getElem_mem h0)
  · rw [getElem!_neg cs _ h0]
    rfl
theorem clearK (s : Operand) (t e : TypeId) (ho : o.op = .call { callee := .builtin .clear, args := #[s], argTypes := #[t] }) (ht : P.underlying t = some (.slice e)) (hinfo : (P.info? e).map (fun i => (i.zero, i.size, i.bytes)) = some (some (.agg (attC z32 z32 0 z32).toArray), 97, 104))
    (g off m c : Nat) (hs : a.eval s = .slice (some ⟨g, off, none⟩) (m + 1) c) (tt : TypeId) (cs : Array Value) (hg : w.heap[g]? = some (.cells cs tt (0, 0))) (hf : off + (m + 1) * 97 ≤ cs.size) :
    ∃ v w', (execOp a.eval o).run P w = .ok (.value v) w' ∧ ∃ r : List Value, r.length = (m + 1) * 97 ∧ w'.heap[g]? = some (.cells (splice cs.toList off r).toArray tt (0, 0)) ∧ Chg [g] w w' := by
  obtain ⟨i0, hi, hzz⟩ := Option.map_eq_some_iff.1 hinfo
  simp only [Prod.mk.injEq] at hzz
  obtain ⟨hz0, hz1, hz2⟩ := hzz
  have hsz : (attC z32 z32 0 z32).toArray.size = 97 := attC_size rfl rfl rfl
  have hlen : (Builtin.zeroCells (attC z32 z32 0 z32).toArray (m + 1)).toList.length = (m + 1) * 97 := by
    simp only [Builtin.zeroCells, Array.toList_map, List.length_map, Array.toList_range, List.length_range, hsz]
  have hst := run_storeCells_at P g off tt (Builtin.zeroCells (attC z32 z32 0 z32).toArray (m + 1)).toList 0 cs w hg (by rw [hlen]; simpa using hf) (zero_one attC_all (m + 1))
  rw [Nat.add_zero] at hst
  have hrun : (Builtin.clear_ #[t] o.type #[.slice (some ⟨g, off, none⟩) (m + 1) c]).run P w = .ok (.tuple #[]) (w.setRow g (splice cs.toList off (Builtin.zeroCells (attC z32 z32 0 z32).toArray (m + 1)).toList).toArray) := by
    simp [Builtin.clear_, run_underlying ht, zeroValue, typeInfo, hi, hz0, Value.cells, hst, splice]
  refine ⟨.tuple #[], _, ?_, _, hlen, setRow_heap w g _ _ tt _ hg, ⟨rfl, rfl, rfl, by simp [World.setRow], fun k hk ho => setRow_other _ _ _ _ (fun h => ho.1 h)⟩⟩
  unfold execOp
  simp only [ho, resolve, invoke, builtin, Sem.run_bind, Sem.run_pure, Result.andThen_ok, List.map_toArray, List.map_cons, List.map_nil, hs, hrun]
theorem storeA (ty : TypeId) (x y : Operand) (ho : o.op = .store ty x y) (hi : (P.info? ty).map (·.size) = some 97) {base e n c : Nat} {L : List Att} {g : Nat} (H : OwnA w base e (some ⟨g, 0, none⟩) n c L) (k : Nat) (hk : k < n) (hx : a.eval x = .pointer (some ⟨g, 0 + k * 97, none⟩)) (u : Att) (hy : a.eval y = .agg (attC u.k u.r u.n u.t).toArray) :
    ∃ w', (execOp a.eval o).run P w = .ok .skip w' ∧ OwnA w' base e (some ⟨g, 0, none⟩) n c (L.set k u) ∧ Chg [g] w w' := by
  have hl := H.sl.len
  rcases H.cur with ⟨e0, _⟩ | ⟨g', cur, e0, hb, hg, hcs, ht⟩
  · cases e0
  · obtain rfl : g = g' := by injection e0 with e1; injection e1
    have hnc := H.nc
    have hul := u.C_len
    obtain ⟨w', q1, q2, q3⟩ := storeR (P := P) ty x y ho g (0 + k * 97) hx u.C hy (by rw [hi, hul]) u.C_one e cur.toList (by simpa using hg) (by rw [hul, Array.length_toList, hcs]; omega)
    refine ⟨w', q1, OwnA.of hb q2 H.nc H.cm ?_ ?_ (by rw [List.length_set, hl]), q3⟩
    · have : (splice cur.toList (0 + k * 97) u.C).length = c * 97 := by
        unfold splice
        simp only [List.length_append, List.length_take, List.length_drop, Array.length_toList, hul, hcs]
        omega
      simpa using this
    · have hy' : L[k]? = some L[k] := List.getElem?_eq_getElem (by omega)
      have e1 : cur.toList = rowA (L.take k) ++ ((L[k]).C ++ (rowA (L.drop (k + 1)) ++ cur.toList.drop (n * 97))) := by
        have e0 := (List.take_append_drop (n * 97) cur.toList).symm
        rw [ht] at e0
        have eL : rowA L = rowA (L.take k) ++ ((L[k]).C ++ rowA (L.drop (k + 1))) := by
          conv => lhs; rw [← List.take_append_drop k L, rowA_append, List.drop_eq_getElem_cons (show k < L.length by omega), rowA_cons]
        refine e0.trans ?_
        rw [eL]
        simp only [List.append_assoc]
      have e2 : (rowA (L.take k)).length = 0 + k * 97 := by rw [rowA_len, List.length_take]; omega
      have e3 := splice_at (r := u.C) e1 e2 (by rw [hul, Att.C_len])
      rw [e3]
      show (rowA (L.take k) ++ (u.C ++ (rowA (L.drop (k + 1)) ++ cur.toList.drop (n * 97)))).take (n * 97) = rowA (L.set k u)
      rw [List.set_eq_take_append_cons_drop, if_pos (show k < L.length by omega), rowA_append, rowA_cons, ← List.append_assoc, ← List.append_assoc, List.append_assoc (rowA (L.take k)), List.take_left' (by rw [List.length_append, List.length_append, rowA_len, rowA_len, hul, List.length_take, List.length_drop]; omega)]
theorem clearA (s : Operand) (t e : TypeId) (ho : o.op = .call { callee := .builtin .clear, args := #[s], argTypes := #[t] }) (ht : P.underlying t = some (.slice e)) (hinfo : (P.info? e).map (fun i => (i.zero, i.size, i.bytes)) = some (some (.agg (attC z32 z32 0 z32).toArray), 97, 104)) {base n c : Nat} {L : List Att} {g : Nat} (H : OwnA w base e (some ⟨g, 0, none⟩) n c L)
    (k m c2 : Nat) (hs : a.eval s = .slice (some ⟨g, 0 + k * 97, none⟩) m c2) (hkm : k + m = n) (hm : 0 < m) :
    ∃ v w', (execOp a.eval o).run P w = .ok (.value v) w' ∧ OwnA w' base e (some ⟨g, 0, none⟩) k c (L.take k) ∧ Chg [g] w w' := by
  have hl := H.sl.len
  have hnc := H.nc
  obtain ⟨m, rfl⟩ : ∃ j, m = j + 1 := ⟨m - 1, by omega⟩
  rcases H.cur with ⟨e0, _⟩ | ⟨g', cur, e0, hb, hg, hcs, htk⟩
  · cases e0
  · obtain rfl : g = g' := by injection e0 with e1; injection e1
    obtain ⟨v, w', q1, r, q2, q3, q4⟩ := clearK (P := P) s t e ho ht hinfo g (0 + k * 97) m c2 hs e cur hg (by omega)
    refine ⟨v, w', q1, OwnA.of hb q3 (by omega) H.cm ?_ ?_ (by rw [List.length_take]; omega), q4⟩
    · have : (splice cur.toList (0 + k * 97) r).length = c * 97 := by
        unfold splice
        simp only [List.length_append, List.length_take, List.length_drop, Array.length_toList, q2, hcs]
        omega
      simpa using this
    · show (splice cur.toList (0 + k * 97) r).take (k * 97) = _
      unfold splice
      rw [Nat.zero_add, List.take_left' (by rw [List.length_take, Array.length_toList]; omega), rowA_take, ← htk, List.take_take, Nat.min_eq_left (Nat.mul_le_mul_right 97 (by omega))]
end
end Mur
namespace Go.Proofs.YtfhneademopciaaDoor
open Go.RowKit Wk
open Mur (b8s Byt Own8 Seg Segs flat cutA attC Att SlA OwnA rowA msgC)
set_option maxRecDepth 100000
set_option maxHeartbeats 4000000
def DelF_F1 (b : Array Value) (u0 : Value) (u1 : Value) (u5 : Value) (u6 : Value) : Act := ⟨#[u0, u1, gd b 2, gd b 3, gd b 4, u5, u6, gd b 7, gd b 8, gd b 9, gd b 10, gd b 11, gd b 12, gd b 13, gd b 14, gd b 15, gd b 16, gd b 17, gd b 18, gd b 19, gd b 20, gd b 21, gd b 22, gd b 23, gd b 24, gd b 25, gd b 26, gd b 27, gd b 28, gd b 29, gd b 30, gd b 31, gd b 32, gd b 33, gd b 34, gd b 35, gd b 36, gd b 37, gd b 38, gd b 39, gd b 40, gd b 41], []⟩
theorem DeleteF_any (base : Nat) (A : Option Addr) (n c : Nat) (L : List Att) (g : Nat) (kd : UInt8) (PA : Option Addr) (pn pc : Nat) (s : List UInt8) (m : Int) (B : Option Addr) (bn bc : Nat) (b : Bool) (I : List Att) (w : World) (H : OwnA w base 32 A n c L) (hn : n ≤ 1000) (hs : s.length = 32) (hp : w.heap[g]? = some (.cells (msgC kd PA pn pc s m B bn bc b).toArray 66 (0, 0))) (hI : SlA w B bn I) (hbn : bn ≤ 9223372036854775807) (hgb : g < base) (hIlt : ∀ g_ off_, B = some ⟨g_, off_, none⟩ → 0 < bn → g_ < base) : Calls Tryd.prog 54 #[.slice A n c, .func (.func 55) #[] #[.pointer (some ⟨g, 0, none⟩)]] w fun e w' => ∃ k, e = .returned (.slice A k c) ∧ OwnA w' base 32 A k c (L.filter (fun y_ => decide (y_ ∉ I))) ∧ Chg (Wk.blk (.slice A n c)) w w' := by
 have hHl := H.sl.len
 have hHn := H.nc
 have hgl_ := (Array.getElem?_eq_some_iff.1 hp).1
 refine calls_of_wp Tryd.func54 rfl ?_
 refine wp_seq (reg ?_)
 refine rP 0 4 (.slice none 0 0) rfl rfl ?_
 refine rEnd 1 rfl (nxt (wp_seq (reg ?_)))
 refine rP 0 8 (.slice A n c) rfl rfl ?_
 refine rP 1 9 (.func (.func 55) #[] #[.pointer (some ⟨g, 0, none⟩)]) rfl rfl ?_
 refine rC 2 10 76 [.tmp 8, .tmp 9] #[22, 47] [.slice A n c, .func (.func 55) #[] #[.pointer (some ⟨g, 0, none⟩)]] rfl rfl rfl ?_
 refine (IndexF_any A n c L g kd PA pn pc s m B bn bc b I w H.sl (by omega) hs hp hI hbn).mono ?_
 rintro _ W1 ⟨_, rfl, (⟨rfl, hnone⟩ | ⟨k0, rfl, hk0, hpre, x0, hx0, hx0m⟩), ch1⟩
 ·have zz1 := ch1.size
  refine ⟨_, rfl, ?_⟩
  refine rP 3 5 (.int .i64 (-1)) rfl rfl ?_
  refine rEnd 4 rfl (nxt (wp_seq (wp_seq (reg ?_))))
  refine rP 0 11 (.int .i64 (-1)) rfl rfl ?_
  refine rQ 1 12 _ rfl rfl (qboolT (b := ((-1 : Int) == (-1 : Int))) (beq_iff_eq.2 (by decide))) ?_
  refine rEnd 2 rfl (nxt (wp_cond_true (by kernel_rfl) (wp_seq (reg ?_))))
  refine rP 0 13 (.slice A n c) rfl rfl ?_
  refine rP 1 4 (.slice A n c) rfl rfl ?_
  refine rEnd 2 rfl (nxt (wp_ret (thR ?_)))
  have ow1 := Mur.OwnA.chg H ch1 (fun q e _ _ => trivial)
  have kk1 : Chg [] w W1 := Chg.step ((Chg.refl _).more (by simp)) ch1 trivial
  refine Wk.ret (.slice A n c) rfl (by kernel_rfl) ?_
  exact ⟨_, rfl, by rw [List.filter_eq_self.2 fun y_ hy_ => by simpa using hnone y_ hy_]; exact ow1, kk1.more (by simp)⟩
 have zz2 := ch1.size
 obtain ⟨q, rfl, hq1, hq2⟩ := H.ex (by omega)
 refine ⟨_, rfl, ?_⟩
 refine rP 3 5 (.int .i64 ((k0 : Nat) : Int)) rfl rfl ?_
 refine rEnd 4 rfl (nxt (wp_seq (wp_seq (reg ?_))))
 refine rP 0 11 (.int .i64 ((k0 : Nat) : Int)) rfl rfl ?_
 by_cases hx1 : ((k0 : Nat) : Int) = (-1 : Int)
 ·refine rQ 1 12 _ rfl rfl (qboolT (b := (((k0 : Nat) : Int) == (-1 : Int))) (beq_iff_eq.2 (by first | exact hx1 | omega))) ?_
  refine rEnd 2 rfl (nxt (wp_cond_true (by kernel_rfl) (wp_seq (reg ?_))))
  refine rP 0 13 (.slice (some ⟨q, 0, none⟩) n c) rfl rfl ?_
  refine rP 1 4 (.slice (some ⟨q, 0, none⟩) n c) rfl rfl ?_
  refine rEnd 2 rfl (nxt (wp_ret (thR ?_)))
  exfalso; omega
 refine rQ 1 12 _ rfl rfl (qboolF (b := (((k0 : Nat) : Int) == (-1 : Int))) (beq_eq_false_iff_ne.2 (by first | exact hx1 | omega))) ?_
 refine rEnd 2 rfl (nxt (wp_cond_false (by kernel_rfl) (wp_skip (nxt (wp_seq (wp_seq (reg ?_)))))))
 refine rP 0 14 (.int .i64 ((k0 : Nat) : Int)) rfl rfl ?_
 refine rQ 1 15 _ rfl rfl (qint64 (n := ((k0 : Nat) : Int) + 1) (z := ((k0 + 1 : Nat) : Int)) (by omega) (by omega) (by omega)) ?_
 refine rP 2 6 (.int .i64 ((k0 + 1 : Nat) : Int)) rfl rfl ?_
 refine rEnd 3 rfl (nxt (wp_block ?_))
 have ow2 := Mur.OwnA.chg H ch1 (fun q e _ _ => trivial)
 have kk2 : Chg [] w W1 := Chg.step ((Chg.refl _).more (by simp)) ch1 trivial
 refine Wk.loop (fun m_ a wr => ∃ (i : Nat) (k : Nat) (L1 : List Att), m_ = n - i ∧ a = DelF_F1 a.tmps (.slice (some ⟨q, 0, none⟩) n c) (.func (.func 55) #[] #[.pointer (some ⟨g, 0, none⟩)]) (.int .i64 ((k : Nat) : Int)) (.int .i64 ((i : Nat) : Int)) ∧ (k < i ∧ i ≤ n) ∧ OwnA wr base 32 (some ⟨q, 0, none⟩) n c L1 ∧ L1.take k = (L.take i).filter (fun y_ => decide (y_ ∉ I)) ∧ L1.drop i = L.drop i ∧ Chg [q] w wr) (n - (k0 + 1)) ?_ ?_
 ·refine ⟨k0 + 1, k0, L, rfl, by kernel_rfl, (by omega), ow2, (by rw [Mur.take_snoc hx0, List.filter_append, List.filter_eq_self.2 fun y_ hy_ => by simpa using hpre y_ hy_]; simp [hx0m]), rfl, (kk2.more (by simp))⟩
 rintro mm1 aa1 W2 ⟨i, k, L1, hmm1, hF1, hki, hO, hT, hDr, HB⟩
 generalize aa1.tmps = bb1 at hF1
 subst hF1
 have hzB := HB.size
 have hL1 := hO.sl.len
 have hOn := hO.nc
 by_cases hlt : i < n
 ·obtain ⟨x, hx⟩ : ∃ x, L1[i]? = some x := ⟨_, List.getElem?_eq_getElem (by omega)⟩
  have hxL : L[i]? = some x := by have h1_ := congrArg (fun z : List Att => z[0]?) hDr; simp only [List.getElem?_drop, Nat.add_zero] at h1_; rw [← h1_]; exact hx
  refine wp_seq (wp_seq (reg ?_))
  refine rP 0 16 (.int .i64 ((i : Nat) : Int)) rfl rfl ?_
  refine rP 1 17 (.slice (some ⟨q, 0, none⟩) n c) rfl rfl ?_
  refine rP 2 18 (.int .i64 ((n : Nat) : Int)) rfl rfl ?_
  refine rQ 3 19 _ rfl rfl (qboolT (b := decide (((i : Nat) : Int) < ((n : Nat) : Int))) (decide_eq_true (by omega))) ?_
  refine rEnd 4 rfl (nxt (wp_cond_true (by kernel_rfl) (wp_skip (nxt (wp_seq (wp_block (wp_seq (reg ?_))))))))
  refine rP 0 22 (.slice (some ⟨q, 0, none⟩) n c) rfl rfl ?_
  refine rP 1 23 (.int .i64 ((i : Nat) : Int)) rfl rfl ?_
  refine rQ 2 24 (.pointer (some ⟨q, 0 + i * 97, none⟩)) rfl rfl (index_sl 22 32 (.tmp 22) (.tmp 23) rfl Tryd.underlying22 97 (by kernel_rfl) q 0 n c i .i64 (by kernel_rfl) (by kernel_rfl) (by omega)) ?_
  refine rQ 3 25 (.agg ((Mur.attC x.k x.r x.n x.t).toArray)) rfl rfl (loadR 32 (.tmp 24) rfl _ Tryd.underlying32 rfl q (0 + i * 97) (by kernel_rfl) (Mur.attC x.k x.r x.n x.t) (by rw [Mur.attC_length x.hk x.hr x.ht]; kernel_rfl) (hO.sl.elem hx)) ?_
  refine rX 4 7 rfl rfl (new_ex (.pointer (some ⟨W2.heap.size, 0, none⟩)) #[.int .u8 0, .int .u8 0, .int .u8 0, .int .u8 0, .int .u8 0, .int .u8 0, .int .u8 0, .int .u8 0, .int .u8 0, .int .u8 0, .int .u8 0, .int .u8 0, .int .u8 0, .int .u8 0, .int .u8 0, .int .u8 0, .int .u8 0, .int .u8 0, .int .u8 0, .int .u8 0, .int .u8 0, .int .u8 0, .int .u8 0, .int .u8 0, .int .u8 0, .int .u8 0, .int .u8 0, .int .u8 0, .int .u8 0, .int .u8 0, .int .u8 0, .int .u8 0, .int .u8 0, .int .u8 0, .int .u8 0, .int .u8 0, .int .u8 0, .int .u8 0, .int .u8 0, .int .u8 0, .int .u8 0, .int .u8 0, .int .u8 0, .int .u8 0, .int .u8 0, .int .u8 0, .int .u8 0, .int .u8 0, .int .u8 0, .int .u8 0, .int .u8 0, .int .u8 0, .int .u8 0, .int .u8 0, .int .u8 0, .int .u8 0, .int .u8 0, .int .u8 0, .int .u8 0, .int .u8 0, .int .u8 0, .int .u8 0, .int .u8 0, .int .u8 0, .int .i64 0, .int .u8 0, .int .u8 0, .int .u8 0, .int .u8 0, .int .u8 0, .int .u8 0, .int .u8 0, .int .u8 0, .int .u8 0, .int .u8 0, .int .u8 0, .int .u8 0, .int .u8 0, .int .u8 0, .int .u8 0, .int .u8 0, .int .u8 0, .int .u8 0, .int .u8 0, .int .u8 0, .int .u8 0, .int .u8 0, .int .u8 0, .int .u8 0, .int .u8 0, .int .u8 0, .int .u8 0, .int .u8 0, .int .u8 0, .int .u8 0, .int .u8 0, .int .u8 0] 32 (by kernel_rfl)) ?_
  rintro _ W3 ⟨rfl, hb1, ch2, sz1⟩
  have zz3 := ch2.size
  rw [← Mur.attC_zero] at hb1
  refine rY 5 rfl rfl (Mur.storeArr 32 (.tmp 7) (.tmp 25) rfl W2.heap.size (by kernel_rfl) (Mur.attC x.k x.r x.n x.t).toArray 97 (Mur.attC_size x.hk x.hr x.ht) Mur.attC_all (by kernel_rfl) (by kernel_rfl) 32 ((Mur.attC Mur.z32 Mur.z32 0 Mur.z32).toArray) hb1 (Mur.attC_size rfl rfl rfl)) ?_
  rintro W4 ⟨hb2, ch3⟩
  have zz4 := ch3.size
  refine rEnd 6 rfl (nxt (wp_seq (reg ?_)))
  refine rP 0 26 (.func (.func 55) #[] #[.pointer (some ⟨g, 0, none⟩)]) rfl rfl ?_
  refine rQ 1 27 (.agg ((Mur.attC x.k x.r x.n x.t).toArray)) rfl rfl (Mur.loadArr 32 (.tmp 7) rfl _ Tryd.underlying32 rfl W2.heap.size (by kernel_rfl) (Mur.attC x.k x.r x.n x.t).toArray 97 (Mur.attC_size x.hk x.hr x.ht) (by kernel_rfl) 32 (0, 0) hb2) ?_
  refine Wk.rCallV 2 (some 28) (.tmp 26) 55 #[.pointer (some ⟨g, 0, none⟩)] [.tmp 27] #[32] [.agg ((Mur.attC x.k x.r x.n x.t).toArray)] rfl rfl (by kernel_rfl) rfl (by kernel_rfl) (by kernel_rfl) (by kernel_rfl) ?_
  have kk3 := Chg.step HB ch2 trivial
  have kk4 := Chg.step kk3 ch3 ⟨.inr (by omega), trivial⟩
  refine (HearF_any x g kd PA pn pc s m B bn bc b I W4 hs (Chg.hp kk4 hp ⟨by omega, trivial⟩) (Mur.SlA.chgp hI kk4 (fun g off e hn hl => ⟨by have := hIlt g off e hn; omega, trivial⟩)) (by omega)).mono ?_
  by_cases hmem1 : x ∈ I
  ·rw [decide_eq_true hmem1]
   rintro _ W5 ⟨rfl, ch4⟩
   have zz5 := ch4.size
   refine ⟨_, rfl, ?_⟩
   refine rP 3 29 (.bool false) rfl rfl ?_
   refine rEnd 4 rfl (nxt (wp_cond_false (by kernel_rfl) (wp_skip (inN (nxt (reg ?_))))))
   refine rP 0 20 (.int .i64 ((i : Nat) : Int)) rfl rfl ?_
   refine rQ 1 21 _ rfl rfl (qint64 (n := ((i : Nat) : Int) + 1) (z := ((i + 1 : Nat) : Int)) (by omega) (by omega) (by omega)) ?_
   refine rP 2 6 (.int .i64 ((i + 1 : Nat) : Int)) rfl rfl ?_
   refine rEnd 3 rfl (nxt ?_)
   have ow3 := Mur.OwnA.chg hO ch2 (fun q e _ _ => trivial)
   have ow4 := Mur.OwnA.chg ow3 ch3 (fun q e _ _ => ⟨by have := hO.lt q e; omega, trivial⟩)
   have ow5 := Mur.OwnA.chg ow4 ch4 (fun q e _ _ => trivial)
   have kk5 := Chg.step kk4 ch4 trivial
   refine ⟨_, ?_, i + 1, k, L1, rfl, by kernel_rfl, (by omega), ow5, (by rw [Mur.take_snoc hxL, List.filter_append, hT]; simp [hmem1]), (by have h1_ := congrArg (List.drop 1) hDr; rwa [List.drop_drop, List.drop_drop] at h1_), kk5⟩
   omega
  rw [decide_eq_false hmem1]
  rintro _ W5 ⟨rfl, ch4⟩
  have zz6 := ch4.size
  refine ⟨_, rfl, ?_⟩
  refine rP 3 29 (.bool true) rfl rfl ?_
  refine rEnd 4 rfl (nxt (wp_cond_true (by kernel_rfl) (wp_seq (reg ?_))))
  refine rP 0 30 (.slice (some ⟨q, 0, none⟩) n c) rfl rfl ?_
  refine rP 1 31 (.int .i64 ((k : Nat) : Int)) rfl rfl ?_
  refine rQ 2 32 (.agg ((Mur.attC x.k x.r x.n x.t).toArray)) rfl rfl (Mur.loadArr 32 (.tmp 7) rfl _ Tryd.underlying32 rfl W2.heap.size (by kernel_rfl) (Mur.attC x.k x.r x.n x.t).toArray 97 (Mur.attC_size x.hk x.hr x.ht) (by kernel_rfl) 32 (0, 0) (Chg.hp ch4 hb2 trivial)) ?_
  refine rQ 3 33 (.pointer (some ⟨q, 0 + k * 97, none⟩)) rfl rfl (index_sl 22 32 (.tmp 30) (.tmp 31) rfl Tryd.underlying22 97 (by kernel_rfl) q 0 n c k .i64 (by kernel_rfl) (by kernel_rfl) (by omega)) ?_
  have ow6 := Mur.OwnA.chg hO ch2 (fun q e _ _ => trivial)
  have ow7 := Mur.OwnA.chg ow6 ch3 (fun q e _ _ => ⟨by have := hO.lt q e; omega, trivial⟩)
  have ow8 := Mur.OwnA.chg ow7 ch4 (fun q e _ _ => trivial)
  refine rY 4 rfl rfl (Mur.storeA 32 (.tmp 33) (.tmp 32) rfl (by kernel_rfl) ow8 k (by omega) (by kernel_rfl) x (by kernel_rfl)) ?_
  rintro W6 ⟨hst1, ch5⟩
  have zz7 := ch5.size
  refine rEnd 5 rfl (nxt (reg ?_))
  refine rP 0 34 (.int .i64 ((k : Nat) : Int)) rfl rfl ?_
  refine rQ 1 35 _ rfl rfl (qint64 (n := ((k : Nat) : Int) + 1) (z := ((k + 1 : Nat) : Int)) (by omega) (by omega) (by omega)) ?_
  refine rP 2 5 (.int .i64 ((k + 1 : Nat) : Int)) rfl rfl ?_
  refine rEnd 3 rfl (inN (nxt (reg ?_)))
  refine rP 0 20 (.int .i64 ((i : Nat) : Int)) rfl rfl ?_
  refine rQ 1 21 _ rfl rfl (qint64 (n := ((i : Nat) : Int) + 1) (z := ((i + 1 : Nat) : Int)) (by omega) (by omega) (by omega)) ?_
  refine rP 2 6 (.int .i64 ((i + 1 : Nat) : Int)) rfl rfl ?_
  refine rEnd 3 rfl (nxt ?_)
  have kk6 := Chg.step kk4 ch4 trivial
  have kk7 := Chg.step kk6 ch5 ⟨.inl (by simp), trivial⟩
  refine ⟨_, ?_, i + 1, k + 1, L1.set k x, rfl, by kernel_rfl, (by omega), hst1, (by rw [Mur.take_snoc hxL, List.filter_append, ← hT, Mur.take_snoc (y := x) (by rw [List.getElem?_set_self (by omega)]), List.take_set_of_le (Nat.le_refl k)]; simp [hmem1]), (by rw [List.drop_set_of_lt (by omega)]; have h1_ := congrArg (List.drop 1) hDr; rwa [List.drop_drop, List.drop_drop] at h1_), kk7⟩
  omega
 rw [List.take_of_length_le (show L.length ≤ i by omega)] at hT
 refine wp_seq (wp_seq (reg ?_))
 refine rP 0 16 (.int .i64 ((i : Nat) : Int)) rfl rfl ?_
 refine rP 1 17 (.slice (some ⟨q, 0, none⟩) n c) rfl rfl ?_
 refine rP 2 18 (.int .i64 ((n : Nat) : Int)) rfl rfl ?_
 refine rQ 3 19 _ rfl rfl (qboolF (b := decide (((i : Nat) : Int) < ((n : Nat) : Int))) (decide_eq_false (by omega))) ?_
 refine rEnd 4 rfl (nxt (wp_cond_false (by kernel_rfl) (wp_exit (thX (thX (inX (nxt (wp_seq (reg ?_)))))))))
 refine rP 0 36 (.slice (some ⟨q, 0, none⟩) n c) rfl rfl ?_
 refine rP 1 37 (.int .i64 ((k : Nat) : Int)) rfl rfl ?_
 refine rQ 2 38 (.slice (some ⟨q, 0 + k * 97, none⟩) (n - k) (c - k)) rfl rfl (Mur.run_fromS 22 (.tmp 36) (.tmp 37) rfl 32 Tryd.underlying22 97 (by kernel_rfl) q 0 n c k (by kernel_rfl) (by kernel_rfl) (by omega) (by omega) (n - k) rfl) ?_
 refine rEx 3 none _ rfl rfl (by kernel_rfl) (Mur.clearA (.tmp 38) 22 32 rfl Tryd.underlying22 attI hO k (n - k) (c - k) (by kernel_rfl) (by omega) (by omega)) ?_
 rintro _ W7 ⟨hcl1, ch6⟩
 have zz8 := ch6.size
 refine rEnd 4 rfl (nxt (wp_seq (reg ?_)))
 refine rP 0 39 (.slice (some ⟨q, 0, none⟩) n c) rfl rfl ?_
 refine rP 1 40 (.int .i64 ((k : Nat) : Int)) rfl rfl ?_
 refine rQ 2 41 (.slice (some ⟨q, 0, none⟩) k c) rfl rfl (Mur.run_toK 22 (.tmp 39) (.tmp 40) rfl 32 Tryd.underlying22 97 (by kernel_rfl) (some ⟨q, 0, none⟩) n c k (.inr ⟨q, 0, rfl⟩) (by kernel_rfl) (by kernel_rfl) (by omega)) ?_
 refine rP 3 4 (.slice (some ⟨q, 0, none⟩) k c) rfl rfl ?_
 refine rEnd 4 rfl (nxt (wp_ret ?_))
 have kk8 := Chg.step HB ch6 ⟨.inl (by simp), trivial⟩
 refine Wk.ret (.slice (some ⟨q, 0, none⟩) k c) rfl (by kernel_rfl) ?_
 exact ⟨_, rfl, by rw [← hT]; exact hcl1, kk8⟩
end Go.Proofs.YtfhneademopciaaDoor
namespace Go.Proofs.YtfhneademopciaaDoor
open Go.RowKit Wk
open Mur (b8s Byt Own8 Seg Segs flat cutA attC Att SlA OwnA rowA msgC)
set_option maxRecDepth 100000
set_option maxHeartbeats 4000000
def HearG_F1 (b : Array Value) (u0 : Value) (u3 : Value) (u5 : Value) (u25 : Value) (u26 : Value) (u27 : Value) : Act := ⟨#[u0, gd b 1, gd b 2, u3, gd b 4, u5, gd b 6, gd b 7, gd b 8, gd b 9, gd b 10, gd b 11, gd b 12, gd b 13, gd b 14, gd b 15, gd b 16, gd b 17, gd b 18, gd b 19, gd b 20, gd b 21, gd b 22, gd b 23, gd b 24, u25, u26, u27, gd b 28, gd b 29, gd b 30, gd b 31, gd b 32, gd b 33, gd b 34, gd b 35, gd b 36, gd b 37, gd b 38, gd b 39, gd b 40, gd b 41, gd b 42, gd b 43, gd b 44, gd b 45, gd b 46, gd b 47, gd b 48, gd b 49, gd b 50, gd b 51, gd b 52, gd b 53], []⟩
theorem Hear_any (lo : Nat) (L : List Att) (g : Nat) (F : List Nat) (kd : UInt8) (p : List UInt8) (PA : Option Addr) (pn pc : Nat) (s : List UInt8) (m : Int) (I : List Att) (A : Option Addr) (n c : Nat) (b : Bool) (w : World) (hv : ShaVars w) (h : Mur.SetF 32 57 lo w g L F) (hs : s.length = 32) (hb : Byt w PA pn p) (hnil : PA = none → pc = 0) (hl : SlA w A n I) (hpn : pn ≤ 1000) (hn : n ≤ 1000) : Calls Tryd.prog 36 #[.pointer (some ⟨g, 0, none⟩), .agg (msgC kd PA pn pc s m A n c b).toArray] w fun e w' => ∃ A1 n1 c1 A2 n2 c2, e = .returned (.tuple #[.slice A1 n1 c1, .slice A2 n2 c2]) ∧ Mur.MsgA w' w.heap.size 66 A1 n1 c1 (Mur.repliesM L ⟨kd, p, s, m, I, b⟩) ∧ OwnA w' w.heap.size 32 A2 n2 c2 (Mur.learnsM L ⟨kd, p, s, m, I, b⟩) ∧ Chg [] w w' := by
 have HV := Go.Lib.hid hv
 clear hv
 have hpl_ := hb.1
 have hM_ := Mur.SetF.mem h
 have hLl_ := Mur.SetF.len h
 have hIl_ := hl.len
 have hbl_ := Mur.belowL_len p L
 have hkd_ := kd.toNat_lt
 refine calls_of_wp Tryd.func36 rfl ?_
 refine wp_seq (reg ?_)
 refine rX 0 3 rfl rfl (new_ex (.pointer (some ⟨w.heap.size, 0, none⟩)) ((Mur.msgC kd PA pn pc s m A n c b).toArray) 66 (by kernel_rfl)) ?_
 rintro _ W1 ⟨rfl, hb1, ch1, sz1⟩
 have zz1 := ch1.size
 refine rP 1 4 (.slice none 0 0) rfl rfl ?_
 refine rP 2 5 (.slice none 0 0) rfl rfl ?_
 refine rEnd 3 rfl (nxt (wp_seq (wp_block (wp_seq (reg ?_)))))
 refine rP 0 10 (.pointer (some ⟨g, 0, none⟩)) rfl rfl ?_
 refine rP 1 11 (.bool false) rfl rfl ?_
 refine rP 2 12 (.bool false) rfl rfl ?_
 refine rQ 3 13 (.agg ((Mur.msgC kd PA pn pc s m A n c b).toArray)) rfl rfl (Mur.loadArr 66 (.tmp 3) rfl _ Tryd.underlying66 rfl w.heap.size (by kernel_rfl) (Mur.msgC kd PA pn pc s m A n c b).toArray 37 (Mur.msgC_size hs) (by kernel_rfl) 66 (0, 0) hb1) ?_
 refine rC 4 14 37 [.tmp 13] #[66] [.agg ((Mur.msgC kd PA pn pc s m A n c b).toArray)] rfl rfl rfl ?_
 have kk1 : Chg [] w W1 := Chg.step ((Chg.refl _).more (by simp)) ch1 trivial
 refine (May_any kd p PA pn pc s m I A n c b W1 hs (Mur.byt_chg hb kk1 (fun g off e hl => trivial)) (Mur.SlA.chg hl kk1 (fun g off e hl => trivial)) (by omega) (by omega)).mono ?_
 rintro _ W2 ⟨vv1, rfl, hvm1, ch2⟩
 have zz2 := ch2.size
 cases vv1
 ·have hmay1 : ¬ Mur.mayM ⟨kd, p, s, m, I, b⟩ := fun h_ => absurd (hvm1.2 h_) (by decide)
  refine ⟨_, rfl, ?_⟩
  refine rP 5 15 (.bool true) rfl rfl ?_
  refine rP 6 16 (.bool true) rfl rfl ?_
  refine rP 7 9 (.bool true) rfl rfl ?_
  refine rEnd 8 rfl (nxt (wp_cond_true (by kernel_rfl) (wp_seq (reg ?_))))
  refine rP 0 4 (.slice none 0 0) rfl rfl ?_
  refine rP 1 5 (.slice none 0 0) rfl rfl ?_
  refine rEnd 2 rfl (nxt (wp_ret (inR (thR ?_))))
  have kk2 := Chg.step kk1 ch2 trivial
  refine Wk.ret (.tuple #[.slice none 0 0, .slice none 0 0]) rfl (by kernel_rfl) ?_
  exact ⟨_, _, _, _, _, _, rfl, by rw [(Mur.replies_no (L := L) hmay1).1]; exact Mur.msgA_nil _ _ _, by rw [(Mur.replies_no (L := L) hmay1).2]; exact Mur.ownA_nil _ _ _, kk2⟩
 have hmay2 : Mur.mayM ⟨kd, p, s, m, I, b⟩ := hvm1.1 rfl
 refine ⟨_, rfl, ?_⟩
 refine rP 5 15 (.bool false) rfl rfl ?_
 refine rP 6 16 (.bool false) rfl rfl ?_
 refine rP 7 9 (.bool false) rfl rfl ?_
 refine rEnd 8 rfl (nxt (wp_cond_false (by kernel_rfl) (wp_seq (reg ?_))))
 obtain ⟨hpreT_, hm1_, hm2_, hn8_, _⟩ := Mur.mayM_iff.1 hmay2
 have hp8_ := Mur.pre_len hpreT_
 refine rP 0 18 (.pointer (some ⟨w.heap.size, 0, none⟩)) rfl rfl ?_
 refine rQ 1 19 _ rfl rfl (load1 5 (.tmp 18) rfl (by kernel_rfl) ⟨w.heap.size, 0, none⟩ (by kernel_rfl) (.int .u8 ((kd.toNat : Nat) : Int)) (show World.cell? _ ⟨_, 0 + 0, _⟩ = _ from Mur.msg_kind (range_row (Chg.hp ch2 hb1 trivial)))) ?_
 by_cases hx1 : ((kd.toNat : Nat) : Int) = (1 : Int)
 ·refine rQ 2 20 _ rfl rfl (qboolT (b := (((kd.toNat : Nat) : Int) == (1 : Int))) (beq_iff_eq.2 (by first | exact hx1 | omega))) ?_
  refine rP 3 17 (.bool true) rfl rfl ?_
  refine rEnd 4 rfl (nxt (wp_cond_true (by kernel_rfl) (wp_seq (reg ?_))))
  refine rP 0 21 (.pointer (some ⟨g, 0, none⟩)) rfl rfl ?_
  refine rQ 1 22 (.agg ((Mur.msgC kd PA pn pc s m A n c b).toArray)) rfl rfl (Mur.loadArr 66 (.tmp 3) rfl _ Tryd.underlying66 rfl w.heap.size (by kernel_rfl) (Mur.msgC kd PA pn pc s m A n c b).toArray 37 (Mur.msgC_size hs) (by kernel_rfl) 66 (0, 0) (Chg.hp ch2 hb1 trivial)) ?_
  refine rC 2 23 53 [.tmp 21, .tmp 22] #[24, 66] [.pointer (some ⟨g, 0, none⟩), .agg ((Mur.msgC kd PA pn pc s m A n c b).toArray)] rfl rfl rfl ?_
  have hD1 := Mur.SetF.chg h ch1 (fun s hs => trivial)
  have hD2 := Mur.SetF.chg hD1 ch2 (fun s hs => trivial)
  have kk3 := Chg.step kk1 ch2 trivial
  refine (summed_any lo L g F kd p PA pn pc s m I A n c b W2 (HV.out.below (Chg.below0 kk3)) hD2 hs (Mur.byt_chg hb kk3 (fun g off e hl => trivial)) hnil (by omega) (by omega)).mono ?_
  rintro _ W3 ⟨AA1, nn1, nn2, rfl, ow1, ch3⟩
  have zz3 := ch3.size
  have hq1 := ow1.nc
  have hq2 := ow1.cm
  refine ⟨_, rfl, ?_⟩
  refine rP 3 4 (.slice AA1 nn1 nn2) rfl rfl ?_
  refine rP 4 5 (.slice none 0 0) rfl rfl ?_
  refine rEnd 5 rfl (nxt (wp_ret (inR (thR ?_))))
  have kk4 := Chg.step kk3 ch3 trivial
  refine Wk.ret (.tuple #[.slice AA1 nn1 nn2, .slice none 0 0]) rfl (by kernel_rfl) ?_
  exact ⟨_, _, _, _, _, _, rfl, by rw [(Mur.replies_sum (L := L) hmay2 (Mur.u8_cast_inj (by have h_ : ((1 : UInt8).toNat : Int) = 1 := rfl; omega))).1]; exact Mur.MsgA.low ow1 (by omega), by rw [(Mur.replies_sum (L := L) hmay2 (Mur.u8_cast_inj (by have h_ : ((1 : UInt8).toNat : Int) = 1 := rfl; omega))).2]; exact Mur.ownA_nil _ _ _, kk4⟩
 refine rQ 2 20 _ rfl rfl (qboolF (b := (((kd.toNat : Nat) : Int) == (1 : Int))) (beq_eq_false_iff_ne.2 (by first | exact hx1 | omega))) ?_
 refine rP 3 17 (.bool false) rfl rfl ?_
 refine rEnd 4 rfl (nxt (wp_cond_false (by kernel_rfl) (wp_skip (inN (nxt (wp_seq (wp_seq (reg ?_))))))))
 refine rP 0 24 (.pointer (some ⟨w.heap.size, 35, none⟩)) rfl rfl ?_
 refine rQ 1 25 _ rfl rfl (load1 22 (.tmp 24) rfl (by kernel_rfl) ⟨w.heap.size, 35, none⟩ (by kernel_rfl) (.slice A n c) (show World.cell? _ ⟨_, 0 + 35, _⟩ = _ from Mur.msg_items hs (range_row (Chg.hp ch2 hb1 trivial)))) ?_
 refine rP 2 26 (.int .i64 ((n : Nat) : Int)) rfl rfl ?_
 refine rP 3 27 (.int .i64 0) rfl rfl ?_
 refine rEnd 4 rfl (nxt (wp_block ?_))
 refine Wk.loop (fun m_ a wr => ∃ (i : Nat) (A1 : Option Addr) (k : Nat) (c1 : Nat), m_ = n - i ∧ a = HearG_F1 a.tmps (.pointer (some ⟨g, 0, none⟩)) (.pointer (some ⟨w.heap.size, 0, none⟩)) (.slice A1 k c1) (.slice A n c) (.int .i64 ((n : Nat) : Int)) (.int .i64 ((i : Nat) : Int)) ∧ i ≤ n ∧ OwnA wr (w.heap.size + 1) 32 A1 k c1 ((I.take i).filter (fun y_ => decide (y_ ∉ L))) ∧ wr.heap[w.heap.size]? = some (.cells (Mur.msgC kd PA pn pc s m A n c b).toArray 66 (0, 0)) ∧ Chg [] w wr) (n - 0) ?_ ?_
 ·have kk5 := Chg.step kk1 ch2 trivial
  refine ⟨0, none, 0, 0, rfl, by kernel_rfl, Nat.zero_le _, (Mur.ownA_nil _ _ _), (Chg.hp ch2 hb1 trivial), kk5⟩
 rintro mm1 aa1 W4 ⟨i, A1, k, c1, hmm1, hF1, hi, hO, hX, HB⟩
 generalize aa1.tmps = bb1 at hF1
 subst hF1
 have hzB := HB.size
 have hxl_ := (Array.getElem?_eq_some_iff.1 hX).1
 have hDx_ := Mur.SetF.chg h HB (fun _ _ => trivial)
 have hOl := hO.sl.len
 have hOc := hO.nc
 have hfl_ := List.length_filter_le (fun y_ => decide (y_ ∉ L)) (I.take i)
 have htl_ := List.length_take_le i I
 by_cases hlt : i < n
 ·obtain ⟨g_x, o_x, rfl, _⟩ := hl.ex (by omega)
  obtain ⟨x, hx⟩ : ∃ x, I[i]? = some x := ⟨_, List.getElem?_eq_getElem (by have := hl.len; omega)⟩
  refine wp_seq (reg ?_)
  refine rQ 0 28 _ rfl rfl (qboolT (b := decide (((i : Nat) : Int) < ((n : Nat) : Int))) (decide_eq_true (by omega))) ?_
  refine rEnd 1 rfl (nxt (wp_seq (wp_cond_true (by kernel_rfl) (wp_skip (nxt (wp_seq (wp_block (wp_seq (reg ?_)))))))))
  refine rQ 0 29 (.pointer (some ⟨g_x, o_x + i * 97, none⟩)) rfl rfl (index_sl 22 32 (.tmp 25) (.tmp 27) rfl Tryd.underlying22 97 (by kernel_rfl) g_x o_x n c i .i64 (by kernel_rfl) (by kernel_rfl) (by omega)) ?_
  refine rQ 1 30 (.agg ((Mur.attC x.k x.r x.n x.t).toArray)) rfl rfl (loadR 32 (.tmp 29) rfl _ Tryd.underlying32 rfl g_x (o_x + i * 97) (by kernel_rfl) (Mur.attC x.k x.r x.n x.t) (by rw [Mur.attC_length x.hk x.hr x.ht]; kernel_rfl) ((Mur.SlA.chg hl HB (fun g off e hl => trivial)).elem hx)) ?_
  refine rX 2 7 rfl rfl (new_ex (.pointer (some ⟨W4.heap.size, 0, none⟩)) #[.int .u8 0, .int .u8 0, .int .u8 0, .int .u8 0, .int .u8 0, .int .u8 0, .int .u8 0, .int .u8 0, .int .u8 0, .int .u8 0, .int .u8 0, .int .u8 0, .int .u8 0, .int .u8 0, .int .u8 0, .int .u8 0, .int .u8 0, .int .u8 0, .int .u8 0, .int .u8 0, .int .u8 0, .int .u8 0, .int .u8 0, .int .u8 0, .int .u8 0, .int .u8 0, .int .u8 0, .int .u8 0, .int .u8 0, .int .u8 0, .int .u8 0, .int .u8 0, .int .u8 0, .int .u8 0, .int .u8 0, .int .u8 0, .int .u8 0, .int .u8 0, .int .u8 0, .int .u8 0, .int .u8 0, .int .u8 0, .int .u8 0, .int .u8 0, .int .u8 0, .int .u8 0, .int .u8 0, .int .u8 0, .int .u8 0, .int .u8 0, .int .u8 0, .int .u8 0, .int .u8 0, .int .u8 0, .int .u8 0, .int .u8 0, .int .u8 0, .int .u8 0, .int .u8 0, .int .u8 0, .int .u8 0, .int .u8 0, .int .u8 0, .int .u8 0, .int .i64 0, .int .u8 0, .int .u8 0, .int .u8 0, .int .u8 0, .int .u8 0, .int .u8 0, .int .u8 0, .int .u8 0, .int .u8 0, .int .u8 0, .int .u8 0, .int .u8 0, .int .u8 0, .int .u8 0, .int .u8 0, .int .u8 0, .int .u8 0, .int .u8 0, .int .u8 0, .int .u8 0, .int .u8 0, .int .u8 0, .int .u8 0, .int .u8 0, .int .u8 0, .int .u8 0, .int .u8 0, .int .u8 0, .int .u8 0, .int .u8 0, .int .u8 0, .int .u8 0] 32 (by kernel_rfl)) ?_
  rintro _ W5 ⟨rfl, hb2, ch4, sz2⟩
  have zz4 := ch4.size
  rw [← Mur.attC_zero] at hb2
  refine rY 3 rfl rfl (Mur.storeArr 32 (.tmp 7) (.tmp 30) rfl W4.heap.size (by kernel_rfl) (Mur.attC x.k x.r x.n x.t).toArray 97 (Mur.attC_size x.hk x.hr x.ht) Mur.attC_all (by kernel_rfl) (by kernel_rfl) 32 ((Mur.attC Mur.z32 Mur.z32 0 Mur.z32).toArray) hb2 (Mur.attC_size rfl rfl rfl)) ?_
  rintro W6 ⟨hb3, ch5⟩
  have zz5 := ch5.size
  refine rEnd 4 rfl (nxt (wp_seq (reg ?_)))
  refine rP 0 31 (.pointer (some ⟨g, 0, none⟩)) rfl rfl ?_
  refine rQ 1 32 (.agg ((Mur.attC x.k x.r x.n x.t).toArray)) rfl rfl (Mur.loadArr 32 (.tmp 7) rfl _ Tryd.underlying32 rfl W4.heap.size (by kernel_rfl) (Mur.attC x.k x.r x.n x.t).toArray 97 (Mur.attC_size x.hk x.hr x.ht) (by kernel_rfl) 32 (0, 0) hb3) ?_
  refine rC 2 33 24 [.tmp 31, .tmp 32] #[24, 32] [.pointer (some ⟨g, 0, none⟩), .agg ((Mur.attC x.k x.r x.n x.t).toArray)] rfl rfl rfl ?_
  have hD3 := Mur.SetF.chg hDx_ ch4 (fun s hs => trivial)
  have hD4 := Mur.SetF.chg hD3 ch5 (fun s hs => ⟨by have := hM_ s hs; omega, trivial⟩)
  refine (Has_any lo L g F x W6 hD4).mono ?_
  by_cases hmem1 : x ∈ L
  ·rw [decide_eq_true hmem1]
   rintro _ W7 ⟨rfl, ch6⟩
   have zz6 := ch6.size
   refine ⟨_, rfl, ?_⟩
   refine rP 3 34 (.bool false) rfl rfl ?_
   refine rEnd 4 rfl (nxt (wp_cond_false (by kernel_rfl) (wp_skip (inN (nxt (reg ?_))))))
   refine rQ 0 39 _ rfl rfl (qint64 (n := ((i : Nat) : Int) + 1) (z := ((i + 1 : Nat) : Int)) (by omega) (by omega) (by omega)) ?_
   refine rP 1 27 (.int .i64 ((i + 1 : Nat) : Int)) rfl rfl ?_
   refine rEnd 2 rfl (nxt ?_)
   have ow2 := Mur.OwnA.chg hO ch4 (fun q e _ _ => trivial)
   have ow3 := Mur.OwnA.chg ow2 ch5 (fun q e _ _ => ⟨by have := hO.lt q e; omega, trivial⟩)
   have ow4 := Mur.OwnA.chg ow3 ch6 (fun q e _ _ => trivial)
   have kk6 := Chg.step HB ch4 trivial
   have kk7 := Chg.step kk6 ch5 ⟨.inr (by omega), trivial⟩
   have kk8 := Chg.step kk7 ch6 trivial
   refine ⟨_, ?_, i + 1, A1, k, c1, rfl, by kernel_rfl, (by omega), (by rw [Mur.filter_snoc hx, if_neg (by simpa using hmem1)]; first | exact ow4 | (rw [List.append_nil]; exact ow4)), (Chg.hp ch6 (Chg.hp ch5 (Chg.hp ch4 hX trivial) ⟨by omega, trivial⟩) trivial), kk8⟩
   omega
  rw [decide_eq_false hmem1]
  rintro _ W7 ⟨rfl, ch6⟩
  have zz7 := ch6.size
  refine ⟨_, rfl, ?_⟩
  refine rP 3 34 (.bool true) rfl rfl ?_
  refine rEnd 4 rfl (nxt (wp_cond_true (by kernel_rfl) (reg ?_)))
  refine rP 0 35 (.slice A1 k c1) rfl rfl ?_
  refine rQ 1 36 (.agg ((Mur.attC x.k x.r x.n x.t).toArray)) rfl rfl (Mur.loadArr 32 (.tmp 7) rfl _ Tryd.underlying32 rfl W4.heap.size (by kernel_rfl) (Mur.attC x.k x.r x.n x.t).toArray 97 (Mur.attC_size x.hk x.hr x.ht) (by kernel_rfl) 32 (0, 0) (Chg.hp ch6 hb3 trivial)) ?_
  refine rX 2 37 rfl rfl (Mur.build1 22 32 (.tmp 36) rfl Tryd.underlying22 attI x.k x.r x.t x.n x.hk x.hr x.ht (by kernel_rfl)) ?_
  rintro _ W8 ⟨rfl, hb4, ch7, sz3⟩
  have zz8 := ch7.size
  have ow5 := Mur.OwnA.chg hO ch4 (fun q e _ _ => trivial)
  have ow6 := Mur.OwnA.chg ow5 ch5 (fun q e _ _ => ⟨by have := hO.lt q e; omega, trivial⟩)
  have ow7 := Mur.OwnA.chg ow6 ch6 (fun q e _ _ => trivial)
  have ow8 := Mur.OwnA.chg ow7 ch7 (fun q e _ _ => trivial)
  refine rX 3 38 rfl rfl (Mur.appendA (.tmp 35) (.tmp 37) 22 32 rfl Tryd.underlying22 attI (w.heap.size + 1) A1 k c1 ((I.take i).filter (fun y_ => decide (y_ ∉ L))) (some ⟨W7.heap.size, 0, none⟩) 1 1 ([x]) (by kernel_rfl) (by kernel_rfl) ow8 (Mur.slA_box x hb4) (fun h => by cases h) (by omega) (by omega) (k + 1) (by omega) (((I.take i).filter (fun y_ => decide (y_ ∉ L))) ++ ([x])) rfl) ?_
  rintro _ W10 ⟨AA2, nn3, rfl, ow9, ch8, ha1⟩
  have zz9 := ch8.size
  have hq3 := ow9.nc
  have hq4 := ow9.cm
  refine rP 4 5 (.slice AA2 (k + 1) nn3) rfl rfl ?_
  refine rEnd 5 rfl (inN (nxt (reg ?_)))
  refine rQ 0 39 _ rfl rfl (qint64 (n := ((i : Nat) : Int) + 1) (z := ((i + 1 : Nat) : Int)) (by omega) (by omega) (by omega)) ?_
  refine rP 1 27 (.int .i64 ((i + 1 : Nat) : Int)) rfl rfl ?_
  refine rEnd 2 rfl (nxt ?_)
  have kk9 := Chg.step HB ch4 trivial
  have kk10 := Chg.step kk9 ch5 ⟨.inr (by omega), trivial⟩
  have kk11 := Chg.step kk10 ch6 trivial
  have kk12 := Chg.step kk11 ch7 trivial
  have kk13 := Chg.step kk12 ch8 (newOr_blk (fun g hg => by have := hO.lt g hg; omega))
  refine ⟨_, ?_, i + 1, AA2, k + 1, nn3, rfl, by kernel_rfl, (by omega), (by rw [Mur.filter_snoc hx, if_pos (by simpa using hmem1)]; first | exact ow9 | (rw [List.append_nil]; exact ow9)), (Chg.hp ch8 (Chg.hp ch7 (Chg.hp ch6 (Chg.hp ch5 (Chg.hp ch4 hX trivial) ⟨by omega, trivial⟩) trivial) trivial) (off_blk (fun gz hgz => by have := hO.lt gz hgz; omega))), kk13⟩
  omega
 rw [List.take_of_length_le (show I.length ≤ i by omega)] at hO
 refine wp_seq (reg ?_)
 refine rQ 0 28 _ rfl rfl (qboolF (b := decide (((i : Nat) : Int) < ((n : Nat) : Int))) (decide_eq_false (by omega))) ?_
 refine rEnd 1 rfl (nxt (wp_seq (wp_cond_false (by kernel_rfl) (wp_exit (thX (thX (inX (nxt (wp_seq (wp_seq (reg ?_)))))))))))
 cases b
 ·refine rP 0 40 (.pointer (some ⟨w.heap.size, 36, none⟩)) rfl rfl ?_
  refine rQ 1 41 _ rfl rfl (load1 4 (.tmp 40) rfl (by kernel_rfl) ⟨w.heap.size, 36, none⟩ (by kernel_rfl) (.bool false) (show World.cell? _ ⟨_, 0 + 36, _⟩ = _ from Mur.msg_ans hs (range_row hX))) ?_
  refine rEnd 2 rfl (nxt (wp_cond_false (by kernel_rfl) (wp_skip (nxt (wp_seq (reg ?_))))))
  refine rP 0 43 (.pointer (some ⟨g, 0, none⟩)) rfl rfl ?_
  refine rP 1 44 (.pointer (some ⟨w.heap.size, 1, none⟩)) rfl rfl ?_
  refine rQ 2 45 _ rfl rfl (load1 38 (.tmp 44) rfl (by kernel_rfl) ⟨w.heap.size, 1, none⟩ (by kernel_rfl) (.slice PA pn pc) (show World.cell? _ ⟨_, 0 + 1, _⟩ = _ from Mur.msg_pre (range_row hX))) ?_
  refine rC 3 46 18 [.tmp 43, .tmp 45] #[24, 38] [.pointer (some ⟨g, 0, none⟩), .slice PA pn pc] rfl rfl rfl ?_
  refine (Below_any lo L g F p PA pn pc W4 hDx_ (Mur.byt_chg hb HB (fun g off e hl => trivial)) (by omega)).mono ?_
  rintro _ W11 ⟨AA3, nn4, nn5, rfl, ow10, ch9⟩
  have zz10 := ch9.size
  have hq5 := ow10.nc
  have hq6 := ow10.cm
  have hq7 := ow10.sl.len
  have hq8 : (Mur.belowL p L).length ≤ 200 := Nat.le_trans (Mur.belowL_len _ _) (Mur.SetF.len hDx_)
  refine ⟨_, rfl, ?_⟩
  refine rP 4 47 (.func (.func 55) #[] #[.pointer (some ⟨w.heap.size, 0, none⟩)]) rfl rfl ?_
  refine rC 5 48 54 [.tmp 46, .tmp 47] #[22, 47] [.slice AA3 nn4 nn5, .func (.func 55) #[] #[.pointer (some ⟨w.heap.size, 0, none⟩)]] rfl rfl rfl ?_
  have kk14 := Chg.step HB ch9 trivial
  have hol1 := ow10.sl.len
  have hIlt1 : ∀ g_ off_, A = some ⟨g_, off_, none⟩ → 0 < n → g_ < W4.heap.size := fun g_ off_ e_ hn_ => by have h_ := hl; rw [e_] at h_; have := h_.lt hn_; omega
  have hlt1 := ow10.lt
  refine (DeleteF_any W4.heap.size AA3 nn4 nn5 (Mur.belowL p L) w.heap.size kd PA pn pc s m A n c false I W11 ow10 (by omega) hs (Chg.hp ch9 hX trivial) (Mur.SlA.chg hl kk14 (fun g off e hl => trivial)) (by omega) (by omega) hIlt1).mono ?_
  rintro _ W12 ⟨nn6, rfl, ow11, ch10⟩
  have zz11 := ch10.size
  have hq9 := ow11.nc
  have hq10 := List.length_filter_le (fun y_ => decide (y_ ∉ I)) (Mur.belowL p L)
  have hq11 := ow11.sl.len
  refine ⟨_, rfl, ?_⟩
  refine rP 6 8 (.slice AA3 nn6 nn5) rfl rfl ?_
  refine rEnd 7 rfl (nxt (wp_seq (reg ?_)))
  refine rP 0 49 (.pointer (some ⟨w.heap.size, 1, none⟩)) rfl rfl ?_
  refine rQ 1 50 _ rfl rfl (load1 38 (.tmp 49) rfl (by kernel_rfl) ⟨w.heap.size, 1, none⟩ (by kernel_rfl) (.slice PA pn pc) (show World.cell? _ ⟨_, 0 + 1, _⟩ = _ from Mur.msg_pre (range_row (Chg.hp ch10 (Chg.hp ch9 hX trivial) (off_blk (fun gz hgz => by have := hlt1 gz hgz; omega)))))) ?_
  refine rP 2 51 (.slice AA3 nn6 nn5) rfl rfl ?_
  refine rC 3 52 57 [.tmp 50, .tmp 51, .const (.bool true)] #[38, 22, 4] [.slice PA pn pc, .slice AA3 nn6 nn5, .bool true] rfl rfl rfl ?_
  have kk15 := Chg.step kk14 ch10 (newOr_blk (fun g hg => by have := hlt1 g hg; omega))
  have hol2 := ow11.sl.len
  have hoc1 : nn5 ≤ 9223372036854775807 := Nat.le_trans ow11.cm (by unfold Go.maxLen; omega)
  have hon1 := ow11.nc
  refine (items_any p PA pn pc AA3 nn6 nn5 ((Mur.belowL p L).filter (fun y_ => decide (y_ ∉ I))) true W12 (Mur.byt_chg hb kk15 (fun g off e hl => trivial)) hnil (by omega) ow11.sl (by omega)).mono ?_
  rintro _ W13 ⟨AA4, nn7, nn8, rfl, ow12, ch11⟩
  have zz12 := ch11.size
  have hq12 := ow12.nc
  have hq13 := ow12.cm
  refine ⟨_, rfl, ?_⟩
  refine rP 4 53 (.slice A1 k c1) rfl rfl ?_
  refine rP 5 4 (.slice AA4 nn7 nn8) rfl rfl ?_
  refine rP 6 5 (.slice A1 k c1) rfl rfl ?_
  refine rEnd 7 rfl (nxt (wp_ret ?_))
  have ow13 := Mur.OwnA.chg hO ch9 (fun q e _ _ => trivial)
  have ow14 := Mur.OwnA.chg ow13 ch10 (fun q e _ _ => (off_blk (fun gz hgz => by have := hlt1 gz hgz; have := hO.lt q e; omega)))
  have ow15 := Mur.OwnA.chg ow14 ch11 (fun q e _ _ => trivial)
  have kk16 := Chg.step kk15 ch11 trivial
  refine Wk.ret (.tuple #[.slice AA4 nn7 nn8, .slice A1 k c1]) rfl (by kernel_rfl) ?_
  exact ⟨_, _, _, _, _, _, rfl, by rw [(Mur.replies_two (L := L) hmay2 (fun h_ => by have h1_ := congrArg (fun z : UInt8 => (z.toNat : Int)) h_; have h2_ : ((1 : UInt8).toNat : Int) = 1 := rfl; simp only [h2_] at h1_; omega)).1]; exact Mur.MsgA.low ow12 (by omega), by rw [(Mur.replies_two (L := L) hmay2 (fun h_ => by have h1_ := congrArg (fun z : UInt8 => (z.toNat : Int)) h_; have h2_ : ((1 : UInt8).toNat : Int) = 1 := rfl; simp only [h2_] at h1_; omega)).2]; exact Mur.OwnA.rebase ow15 (fun q_ h_ => by have := hO.lt q_ h_; omega), kk16⟩
 refine rP 0 40 (.pointer (some ⟨w.heap.size, 36, none⟩)) rfl rfl ?_
 refine rQ 1 41 _ rfl rfl (load1 4 (.tmp 40) rfl (by kernel_rfl) ⟨w.heap.size, 36, none⟩ (by kernel_rfl) (.bool true) (show World.cell? _ ⟨_, 0 + 36, _⟩ = _ from Mur.msg_ans hs (range_row hX))) ?_
 refine rEnd 2 rfl (nxt (wp_cond_true (by kernel_rfl) (wp_seq (reg ?_))))
 refine rP 0 42 (.slice A1 k c1) rfl rfl ?_
 refine rP 1 4 (.slice none 0 0) rfl rfl ?_
 refine rP 2 5 (.slice A1 k c1) rfl rfl ?_
 refine rEnd 3 rfl (nxt (wp_ret (thR ?_)))
 refine Wk.ret (.tuple #[.slice none 0 0, .slice A1 k c1]) rfl (by kernel_rfl) ?_
 exact ⟨_, _, _, _, _, _, rfl, by rw [(Mur.replies_ans (L := L) hmay2 (fun h_ => by have h1_ := congrArg (fun z : UInt8 => (z.toNat : Int)) h_; have h2_ : ((1 : UInt8).toNat : Int) = 1 := rfl; simp only [h2_] at h1_; omega)).1]; exact Mur.msgA_nil _ _ _, by rw [(Mur.replies_ans (L := L) hmay2 (fun h_ => by have h1_ := congrArg (fun z : UInt8 => (z.toNat : Int)) h_; have h2_ : ((1 : UInt8).toNat : Int) = 1 := rfl; simp only [h2_] at h1_; omega)).2]; exact Mur.OwnA.rebase hO (fun q_ h_ => by have := hO.lt q_ h_; omega), HB⟩
end Go.Proofs.YtfhneademopciaaDoor
namespace Go.Proofs.YtfhneademopciaaDoor
open Go.RowKit Wk
open Mur (b8s Byt Own8 Seg Segs flat cutA attC Att SlA OwnA rowA msgC)
set_option maxRecDepth 100000
set_option maxHeartbeats 4000000
theorem Start_any (lo : Nat) (L : List Att) (g : Nat) (F : List Nat) (w : World) (hv : ShaVars w) (h : Mur.SetF 32 57 lo w g L F) : Calls Tryd.prog 52 #[.pointer (some ⟨g, 0, none⟩)] w fun e w' => ∃ q d P1 n1 c1, Hid (d = Mur.sumL [] L) ∧ d.length = 32 ∧ e = .returned (.slice (some ⟨q, 0, none⟩) 1 1) ∧ w'.heap[q]? = some (.cells (msgC 1 P1 n1 c1 d (((Mur.belowL [] L).length : Nat) : Int) none 0 0 false).toArray 66 (0, 0)) ∧ Own8 w' w.heap.size 5 P1 n1 c1 [] ∧ w.heap.size ≤ q ∧ Chg [] w w' := by
 have HV := Go.Lib.hid hv
 clear hv
 have hM_ := Mur.SetF.mem h
 refine calls_of_wp Tryd.func52 rfl ?_
 refine wp_seq (reg ?_)
 refine rP 0 2 (.slice none 0 0) rfl rfl ?_
 refine rEnd 1 rfl (nxt (wp_seq (wp_seq (reg ?_))))
 refine rP 0 3 (.pointer (some ⟨g, 0, none⟩)) rfl rfl ?_
 refine rP 1 4 (.bool false) rfl rfl ?_
 refine rEnd 2 rfl (nxt (wp_cond_false (by kernel_rfl) (wp_skip (nxt (wp_seq (reg ?_))))))
 refine rP 0 5 (.pointer (some ⟨g, 0, none⟩)) rfl rfl ?_
 refine rC 1 6 74 [.tmp 5, .const (.slice none 0 0)] #[24, 38] [.pointer (some ⟨g, 0, none⟩), .slice none 0 0] rfl rfl rfl ?_
 refine (summary_any lo L g F ([]) none 0 0 w HV.out h (Byt.nil _ none) (fun _ => rfl) (by omega)).mono ?_
 rintro _ W1 ⟨dd1, AA1, nn1, nn2, hd1, hdl1, rfl, ow1, ch1⟩
 have zz1 := ch1.size
 have hq1 := ow1.nc
 have hq2 := ow1.cm
 refine ⟨_, rfl, ?_⟩
 refine rX 2 7 rfl rfl (Mur.buildR1 67 66 (.tmp 6) rfl Tryd.underlying67 Mur.msgZ 37 104 msgI (Mur.msgC_length rfl) (by decide) (by decide) (Mur.msgC 1 AA1 nn1 nn2 dd1 (((Mur.belowL ([]) L).length : Nat) : Int) none 0 0 false) (Mur.msgC_length hdl1) (by kernel_rfl)) ?_
 rintro _ W2 ⟨rfl, hb1, ch2, sz1⟩
 have zz2 := ch2.size
 refine rP 3 2 (.slice (some ⟨W1.heap.size, 0, none⟩) 1 1) rfl rfl ?_
 refine rEnd 4 rfl (nxt (wp_ret ?_))
 have ow2 := Mur.own8 (own_chg ow1.own ch2 (fun q e _ _ => trivial))
 have kk1 : Chg [] w W1 := Chg.step ((Chg.refl _).more (by simp)) ch1 trivial
 have kk2 := Chg.step kk1 ch2 trivial
 refine Wk.ret (.slice (some ⟨W1.heap.size, 0, none⟩) 1 1) rfl (by kernel_rfl) ?_
 exact ⟨_, _, _, _, _, hd1, hdl1, rfl, hb1, Mur.own8_low ow2 (by omega), by omega, kk2⟩
end Go.Proofs.YtfhneademopciaaDoor
namespace Go.Proofs.YtfhneademopciaaDoor
open Go.RowKit Wk
open Mur (b8s Byt Own8 Seg Segs flat cutA attC Att SlA OwnA rowA msgC)
set_option maxRecDepth 100000
set_option maxHeartbeats 4000000
theorem known21_any (w : World) (hv : ShaVars w) : Calls Tryd.prog 32 #[] w fun e w' => e = .returned (.bool true) ∧ Chg [] w w' := by
 have HV := Go.Lib.hid hv
 clear hv
 refine calls_of_wp Tryd.func32 rfl ?_
 refine wp_seq (reg ?_)
 refine rP 0 0 (.bool false) rfl rfl ?_
 refine rEnd 1 rfl (nxt (wp_seq (reg ?_)))
 refine rC 0 11 14 [] #[] [] rfl rfl rfl ?_
 refine (New_any w).mono ?_
 rintro _ W1 ⟨FF1, rfl, hD1, ch1⟩
 have hM1 := Mur.SetF.mem hD1
 have zz1 := (hM1 _ (Mur.SetF.self hD1)).2
 have zz2 := ch1.size
 refine ⟨_, rfl, ?_⟩
 refine rC 1 12 14 [] #[] [] rfl rfl rfl ?_
 refine (New_any W1).mono ?_
 rintro _ W2 ⟨FF2, rfl, hD2, ch2⟩
 have hM2 := Mur.SetF.mem hD2
 have zz3 := (hM2 _ (Mur.SetF.self hD2)).2
 have zz4 := ch2.size
 have jj1 : Mur.Dj FF2 FF1 := fun s h1 h2 => by have := hM2 s h1; have := hM1 s h2; omega
 have jj2 : Mur.Dj FF1 FF2 := fun s h1 h2 => jj1 s h2 h1
 refine ⟨_, rfl, ?_⟩
 refine rP 2 1 (.pointer (some ⟨w.heap.size, 0, none⟩)) rfl rfl ?_
 refine rP 3 2 (.pointer (some ⟨W1.heap.size, 0, none⟩)) rfl rfl ?_
 refine rEnd 4 rfl (nxt (wp_seq (reg ?_)))
 refine rP 0 13 (.agg ((b8s [63, 0, 0, 0, 0, 0, 0, 0, 0, 0, 0, 0, 0, 0, 0, 0, 0, 0, 0, 0, 0, 0, 0, 0, 0, 0, 0, 0, 0, 0, 0, 0]).toArray)) rfl rfl ?_
 refine rQ 1 14 (.agg ((Mur.attC ([63, 0, 0, 0, 0, 0, 0, 0, 0, 0, 0, 0, 0, 0, 0, 0, 0, 0, 0, 0, 0, 0, 0, 0, 0, 0, 0, 0, 0, 0, 0, 0]) Mur.z32 1 Mur.z32).toArray)) rfl rfl (Mur.run_built 32 _ rfl [(0, .agg ((b8s [63, 0, 0, 0, 0, 0, 0, 0, 0, 0, 0, 0, 0, 0, 0, 0, 0, 0, 0, 0, 0, 0, 0, 0, 0, 0, 0, 0, 0, 0, 0, 0]).toArray)), (2, .int .i64 1)] (by kernel_rfl) _ (built2 rfl)) ?_
 refine rX 2 3 rfl rfl (new_ex (.pointer (some ⟨W2.heap.size, 0, none⟩)) #[.int .u8 0, .int .u8 0, .int .u8 0, .int .u8 0, .int .u8 0, .int .u8 0, .int .u8 0, .int .u8 0, .int .u8 0, .int .u8 0, .int .u8 0, .int .u8 0, .int .u8 0, .int .u8 0, .int .u8 0, .int .u8 0, .int .u8 0, .int .u8 0, .int .u8 0, .int .u8 0, .int .u8 0, .int .u8 0, .int .u8 0, .int .u8 0, .int .u8 0, .int .u8 0, .int .u8 0, .int .u8 0, .int .u8 0, .int .u8 0, .int .u8 0, .int .u8 0, .int .u8 0, .int .u8 0, .int .u8 0, .int .u8 0, .int .u8 0, .int .u8 0, .int .u8 0, .int .u8 0, .int .u8 0, .int .u8 0, .int .u8 0, .int .u8 0, .int .u8 0, .int .u8 0, .int .u8 0, .int .u8 0, .int .u8 0, .int .u8 0, .int .u8 0, .int .u8 0, .int .u8 0, .int .u8 0, .int .u8 0, .int .u8 0, .int .u8 0, .int .u8 0, .int .u8 0, .int .u8 0, .int .u8 0, .int .u8 0, .int .u8 0, .int .u8 0, .int .i64 0, .int .u8 0, .int .u8 0, .int .u8 0, .int .u8 0, .int .u8 0, .int .u8 0, .int .u8 0, .int .u8 0, .int .u8 0, .int .u8 0, .int .u8 0, .int .u8 0, .int .u8 0, .int .u8 0, .int .u8 0, .int .u8 0, .int .u8 0, .int .u8 0, .int .u8 0, .int .u8 0, .int .u8 0, .int .u8 0, .int .u8 0, .int .u8 0, .int .u8 0, .int .u8 0, .int .u8 0, .int .u8 0, .int .u8 0, .int .u8 0, .int .u8 0, .int .u8 0] 32 (by kernel_rfl)) ?_
 rintro _ W3 ⟨rfl, hb1, ch3, sz1⟩
 have zz5 := ch3.size
 rw [← Mur.attC_zero] at hb1
 refine rY 3 rfl rfl (Mur.storeArr 32 (.tmp 3) (.tmp 14) rfl W2.heap.size (by kernel_rfl) (Mur.attC ([63, 0, 0, 0, 0, 0, 0, 0, 0, 0, 0, 0, 0, 0, 0, 0, 0, 0, 0, 0, 0, 0, 0, 0, 0, 0, 0, 0, 0, 0, 0, 0]) Mur.z32 1 Mur.z32).toArray 97 (Mur.attC_size rfl rfl rfl) Mur.attC_all (by kernel_rfl) (by kernel_rfl) 32 ((Mur.attC Mur.z32 Mur.z32 0 Mur.z32).toArray) hb1 (Mur.attC_size rfl rfl rfl)) ?_
 rintro W4 ⟨hb2, ch4⟩
 have zz6 := ch4.size
 refine rEnd 4 rfl (nxt (wp_seq (wp_seq (reg ?_))))
 refine rP 0 15 (.pointer (some ⟨w.heap.size, 0, none⟩)) rfl rfl ?_
 refine rP 1 16 (.bool false) rfl rfl ?_
 refine rP 2 17 (.bool false) rfl rfl ?_
 refine rP 3 18 (.pointer (some ⟨W1.heap.size, 0, none⟩)) rfl rfl ?_
 refine rP 4 19 (.bool false) rfl rfl ?_
 refine rP 5 20 (.bool false) rfl rfl ?_
 refine rP 6 21 (.bool false) rfl rfl ?_
 refine rP 7 22 (.pointer (some ⟨w.heap.size, 0, none⟩)) rfl rfl ?_
 refine rQ 8 23 (.agg ((Mur.attC ([63, 0, 0, 0, 0, 0, 0, 0, 0, 0, 0, 0, 0, 0, 0, 0, 0, 0, 0, 0, 0, 0, 0, 0, 0, 0, 0, 0, 0, 0, 0, 0]) Mur.z32 1 Mur.z32).toArray)) rfl rfl (Mur.loadArr 32 (.tmp 3) rfl _ Tryd.underlying32 rfl W2.heap.size (by kernel_rfl) (Mur.attC ([63, 0, 0, 0, 0, 0, 0, 0, 0, 0, 0, 0, 0, 0, 0, 0, 0, 0, 0, 0, 0, 0, 0, 0, 0, 0, 0, 0, 0, 0, 0, 0]) Mur.z32 1 Mur.z32).toArray 97 (Mur.attC_size rfl rfl rfl) (by kernel_rfl) 32 (0, 0) hb2) ?_
 refine rC 9 24 15 [.tmp 22, .tmp 23] #[24, 32] [.pointer (some ⟨w.heap.size, 0, none⟩), .agg ((Mur.attC ([63, 0, 0, 0, 0, 0, 0, 0, 0, 0, 0, 0, 0, 0, 0, 0, 0, 0, 0, 0, 0, 0, 0, 0, 0, 0, 0, 0, 0, 0, 0, 0]) Mur.z32 1 Mur.z32).toArray)] rfl rfl rfl ?_
 have hD3 := Mur.SetF.chg hD1 ch2 (fun s hs => trivial)
 have hD4 := Mur.SetF.chg hD3 ch3 (fun s hs => trivial)
 have hD5 := Mur.SetF.chg hD4 ch4 (fun s hs => ⟨by have := hM1 s hs; omega, trivial⟩)
 have hD6 := Mur.SetF.chg hD2 ch3 (fun s hs => trivial)
 have hD7 := Mur.SetF.chg hD6 ch4 (fun s hs => ⟨by have := hM2 s hs; omega, trivial⟩)
 refine (Add_any w.heap.size ([]) w.heap.size FF1 Mur.kA W4 hD5).mono ?_
 rw [Mur.kA_add]
 dsimp only
 rintro _ W5 ⟨FF3, rfl, hD8, ch5, no1⟩
 have hM3 := Mur.SetF.mem hD8
 have zz7 := ch5.size
 have hD9 := Mur.SetF.chg hD7 ch5 (fun s hs => Mur.Dj.off1 jj2 hs)
 have jj3 : Mur.Dj FF3 FF2 := fun s hs ht => by
  rcases Mur.newOr_iff.1 no1 s hs with h1 | h1
  ·exact jj2 s h1 ht
  ·have := hM2 s ht; omega
 have jj4 : Mur.Dj FF2 FF3 := fun s hs ht => jj3 s ht hs
 refine ⟨_, rfl, ?_⟩
 refine rQ 10 25 _ rfl rfl (qboolF (b := ((0 : Int) != (0 : Int))) (bne_eq_false_iff_eq.2 (by decide))) ?_
 refine rP 11 26 (.bool false) rfl rfl ?_
 refine rEnd 12 rfl (nxt (wp_cond_false (by kernel_rfl) (wp_skip (nxt (wp_seq (reg ?_))))))
 refine rP 0 27 (.pointer (some ⟨W1.heap.size, 0, none⟩)) rfl rfl ?_
 refine rC 1 28 52 [.tmp 27] #[24] [.pointer (some ⟨W1.heap.size, 0, none⟩)] rfl rfl rfl ?_
 have kk1 : Chg [] w W1 := Chg.step ((Chg.refl _).more (by simp)) ch1 trivial
 have kk2 := Chg.step kk1 ch2 trivial
 have kk3 := Chg.step kk2 ch3 trivial
 have kk4 := Chg.step kk3 ch4 ⟨.inr (by omega), trivial⟩
 have kk5 := Chg.step kk4 ch5 (Mur.newOr_iff.2 (fun t ht => .inr (by have := hM1 t ht; omega)))
 refine (Start_any W1.heap.size ([]) W1.heap.size FF2 W5 (HV.out.below (Chg.below0 kk5)) hD9).mono ?_
 rintro _ W6 ⟨gq1, dd1, AA1, nn1, nn2, hd1, hdl1, rfl, hb3, ow1, hq1, ch6⟩
 have zz8 := ch6.size
 have hq2 := (Array.getElem?_eq_some_iff.1 hb3).1
 have hq3 : nn1 = 0 := ow1.byt.1.symm
 have hq4 := ow1.nc
 have hq5 := ow1.cm
 refine ⟨_, rfl, ?_⟩
 refine rP 2 4 (.slice (some ⟨gq1, 0, none⟩) 1 1) rfl rfl ?_
 refine rEnd 3 rfl (nxt (wp_seq (wp_seq (reg ?_))))
 refine rP 0 29 (.slice (some ⟨gq1, 0, none⟩) 1 1) rfl rfl ?_
 refine rP 1 30 (.int .i64 1) rfl rfl ?_
 refine rQ 2 31 _ rfl rfl (qboolF (b := ((1 : Int) != (1 : Int))) (bne_eq_false_iff_eq.2 (by decide))) ?_
 refine rEnd 3 rfl (nxt (wp_cond_false (by kernel_rfl) (wp_skip (nxt (wp_seq (reg ?_))))))
 refine rP 0 33 (.pointer (some ⟨w.heap.size, 0, none⟩)) rfl rfl ?_
 refine rP 1 34 (.slice (some ⟨gq1, 0, none⟩) 1 1) rfl rfl ?_
 refine rQ 2 35 (.pointer (some ⟨gq1, 0, none⟩)) rfl rfl (index_sl 67 66 (.tmp 34) (.const (.int .i64 0)) rfl Tryd.underlying67 37 (by kernel_rfl) gq1 0 1 1 0 .i64 (by kernel_rfl) (by kernel_rfl) (by omega)) ?_
 refine rQ 3 36 (.agg ((Mur.msgC 1 AA1 nn1 nn2 dd1 (((Mur.belowL [] ([])).length : Nat) : Int) none 0 0 false).toArray)) rfl rfl (Mur.loadArr 66 (.tmp 35) rfl _ Tryd.underlying66 rfl gq1 (by kernel_rfl) (Mur.msgC 1 AA1 nn1 nn2 dd1 (((Mur.belowL [] ([])).length : Nat) : Int) none 0 0 false).toArray 37 (Mur.msgC_size hdl1) (by kernel_rfl) 66 (0, 0) hb3) ?_
 refine rC 4 37 36 [.tmp 33, .tmp 36] #[24, 66] [.pointer (some ⟨w.heap.size, 0, none⟩), .agg ((Mur.msgC 1 AA1 nn1 nn2 dd1 (((Mur.belowL [] ([])).length : Nat) : Int) none 0 0 false).toArray)] rfl rfl rfl ?_
 have hD10 := Mur.SetF.chg hD8 ch6 (fun s hs => trivial)
 have kk6 := Chg.step kk5 ch6 trivial
 refine (Hear_any w.heap.size ([Mur.kA]) w.heap.size FF3 1 ([]) AA1 nn1 nn2 dd1 (((Mur.belowL [] ([])).length : Nat) : Int) ([]) none 0 0 false W6 (HV.out.below (Chg.below0 kk6)) hD10 hdl1 ow1.byt ow1.nil (Mur.SlA.nil _ none) (by omega) (by omega)).mono ?_
 rintro _ W7 ⟨AA2, nn3, nn4, AA3, nn5, nn6, rfl, ow2, ow3, ch7⟩
 have zz9 := ch7.size
 have hq6 : nn3 ≤ 9223372036854775807 := Nat.le_trans ow2.nc (Nat.le_trans ow2.cm (by unfold Go.maxLen; omega))
 have hq7 : nn5 ≤ 9223372036854775807 := Nat.le_trans ow3.nc (Nat.le_trans ow3.cm (by unfold Go.maxLen; omega))
 rw [Mur.hears1 hd1.out] at ow2
 have hq8 := ow2.nc
 have hq9 := ow2.cm
 have hq10 := ow2.len
 have hq11 := ow3.nc
 have hq12 := ow3.cm
 have hq13 := ow3.sl.len
 have hnl1 : nn3 = 1 := ow2.len.symm
 subst hnl1
 refine ⟨_, rfl, ?_⟩
 refine rP 5 32 (.tuple #[.slice AA2 1 nn4, .slice AA3 nn5 nn6]) rfl rfl ?_
 refine rP 6 38 (.slice AA2 1 nn4) rfl rfl ?_
 refine rP 7 39 (.slice AA3 nn5 nn6) rfl rfl ?_
 refine rP 8 5 (.slice AA2 1 nn4) rfl rfl ?_
 refine rP 9 6 (.slice AA3 nn5 nn6) rfl rfl ?_
 refine rEnd 10 rfl (nxt (wp_seq (reg ?_)))
 refine rP 0 41 (.pointer (some ⟨W1.heap.size, 0, none⟩)) rfl rfl ?_
 refine rP 1 42 (.slice (some ⟨gq1, 0, none⟩) 1 1) rfl rfl ?_
 refine rQ 2 43 (.pointer (some ⟨gq1, 0, none⟩)) rfl rfl (index_sl 67 66 (.tmp 42) (.const (.int .i64 0)) rfl Tryd.underlying67 37 (by kernel_rfl) gq1 0 1 1 0 .i64 (by kernel_rfl) (by kernel_rfl) (by omega)) ?_
 refine rQ 3 44 (.agg ((Mur.msgC 1 AA1 nn1 nn2 dd1 (((Mur.belowL [] ([])).length : Nat) : Int) none 0 0 false).toArray)) rfl rfl (Mur.loadArr 66 (.tmp 43) rfl _ Tryd.underlying66 rfl gq1 (by kernel_rfl) (Mur.msgC 1 AA1 nn1 nn2 dd1 (((Mur.belowL [] ([])).length : Nat) : Int) none 0 0 false).toArray 37 (Mur.msgC_size hdl1) (by kernel_rfl) 66 (0, 0) (Chg.hp ch7 hb3 trivial)) ?_
 refine rC 4 45 36 [.tmp 41, .tmp 44] #[24, 66] [.pointer (some ⟨W1.heap.size, 0, none⟩), .agg ((Mur.msgC 1 AA1 nn1 nn2 dd1 (((Mur.belowL [] ([])).length : Nat) : Int) none 0 0 false).toArray)] rfl rfl rfl ?_
 have hD11 := Mur.SetF.chg hD9 ch6 (fun s hs => trivial)
 have hD12 := Mur.SetF.chg hD11 ch7 (fun s hs => trivial)
 have ow4 := Mur.own8 (own_chg ow1.own ch7 (fun q e _ _ => trivial))
 have kk7 := Chg.step kk6 ch7 trivial
 refine (Hear_any W1.heap.size ([]) W1.heap.size FF2 1 ([]) AA1 nn1 nn2 dd1 (((Mur.belowL [] ([])).length : Nat) : Int) ([]) none 0 0 false W7 (HV.out.below (Chg.below0 kk7)) hD12 hdl1 ow4.byt ow4.nil (Mur.SlA.nil _ none) (by omega) (by omega)).mono ?_
 rintro _ W8 ⟨AA4, nn7, nn8, AA5, nn9, nn10, rfl, ow5, ow6, ch8⟩
 have zz10 := ch8.size
 have hq14 : nn7 ≤ 9223372036854775807 := Nat.le_trans ow5.nc (Nat.le_trans ow5.cm (by unfold Go.maxLen; omega))
 have hq15 : nn9 ≤ 9223372036854775807 := Nat.le_trans ow6.nc (Nat.le_trans ow6.cm (by unfold Go.maxLen; omega))
 rw [Mur.hears2 hd1.out] at ow5
 have hq16 := ow5.nc
 have hq17 := ow5.cm
 have hq18 := ow5.len
 have hq19 := ow6.nc
 have hq20 := ow6.cm
 have hq21 := ow6.sl.len
 have hnl2 : nn7 = 0 := ow5.len.symm
 subst hnl2
 refine ⟨_, rfl, ?_⟩
 refine rP 5 40 (.tuple #[.slice AA4 0 nn8, .slice AA5 nn9 nn10]) rfl rfl ?_
 refine rP 6 46 (.slice AA4 0 nn8) rfl rfl ?_
 refine rP 7 47 (.slice AA5 nn9 nn10) rfl rfl ?_
 refine rP 8 7 (.slice AA4 0 nn8) rfl rfl ?_
 refine rP 9 8 (.slice AA5 nn9 nn10) rfl rfl ?_
 refine rEnd 10 rfl (nxt (wp_seq (wp_seq (reg ?_))))
 have ow7 := (Mur.MsgA.chg ow2 ch8 (fun _ _ _ _ => trivial))
 obtain ⟨⟨kd1, PA1, np1, cp1, sm_, cn_, QA1, nq1, cq1, an_, hsm1⟩, gm1, hA1, hrg1, ⟨rfl, rfl, rfl, rfl, hby1, hsl1, hnp1, hnq1, hac1, hpc1⟩, hgb1, hsb1⟩ := Mur.MsgA.row0 ow7 (show [(⟨2, [], Mur.z32, 0, [Mur.kA], false⟩ : Mur.Msg)][0]? = some ⟨2, [], Mur.z32, 0, [Mur.kA], false⟩ from rfl)
 replace hsm1 : (Mur.z32).length = 32 := hsm1
 replace hrg1 : W8.rangeAt gm1 (0) (msgC 2 PA1 np1 cp1 Mur.z32 0 QA1 nq1 cq1 false) := hrg1
 replace hby1 : Byt W8 PA1 np1 ([]) := hby1
 replace hsl1 : SlA W8 QA1 nq1 ([Mur.kA]) := hsl1
 replace hnp1 : PA1 = none → cp1 = 0 := hnp1
 replace hac1 : nq1 ≤ cq1 ∧ cq1 ≤ 9223372036854775807 := hac1
 replace hpc1 : np1 ≤ cp1 ∧ cp1 ≤ 9223372036854775807 := hpc1
 have hlp1 : ∀ g_ off_, PA1 = some ⟨g_, off_, none⟩ → 0 < np1 → W6.heap.size ≤ g_ ∧ g_ < W8.heap.size := fun g_ off_ e_ hn_ => hsb1 g_ (List.mem_append_left _ (Mur.pblk_mem e_ hn_))
 have hlq1 : ∀ g_ off_, QA1 = some ⟨g_, off_, none⟩ → 0 < nq1 → W6.heap.size ≤ g_ ∧ g_ < W8.heap.size := fun g_ off_ e_ hn_ => hsb1 g_ (List.mem_append_right _ (Mur.pblk_mem e_ hn_))
 have hpl1 : np1 = 0 := hby1.1.symm
 have hil1 : nq1 = 1 := hsl1.len.symm
 subst hil1
 subst hA1
 refine rP 0 48 (.slice (some ⟨gm1, 0, none⟩) 1 nn4) rfl rfl ?_
 refine rP 1 49 (.int .i64 1) rfl rfl ?_
 refine rQ 2 50 _ rfl rfl (qboolF (b := ((1 : Int) != (1 : Int))) (bne_eq_false_iff_eq.2 (by decide))) ?_
 refine rP 3 51 (.bool false) rfl rfl ?_
 refine rP 4 52 (.slice (some ⟨gm1, 0, none⟩) 1 nn4) rfl rfl ?_
 refine rQ 5 53 (.pointer (some ⟨gm1, 0, none⟩)) rfl rfl (index_sl 67 66 (.tmp 52) (.const (.int .i64 0)) rfl Tryd.underlying67 37 (by kernel_rfl) gm1 0 1 nn4 0 .i64 (by kernel_rfl) (by kernel_rfl) (by omega)) ?_
 refine rP 6 54 (.pointer (some ⟨gm1, 0, none⟩)) rfl rfl ?_
 refine rQ 7 55 _ rfl rfl (load1 5 (.tmp 54) rfl (by kernel_rfl) ⟨gm1, 0, none⟩ (by kernel_rfl) (.int .u8 2) (Mur.msg_kind hrg1)) ?_
 refine rQ 8 56 _ rfl rfl (qboolF (b := ((2 : Int) != (2 : Int))) (bne_eq_false_iff_eq.2 (by decide))) ?_
 refine rP 9 57 (.bool false) rfl rfl ?_
 refine rP 10 58 (.bool false) rfl rfl ?_
 refine rP 11 59 (.slice (some ⟨gm1, 0, none⟩) 1 nn4) rfl rfl ?_
 refine rQ 12 60 (.pointer (some ⟨gm1, 0, none⟩)) rfl rfl (index_sl 67 66 (.tmp 59) (.const (.int .i64 0)) rfl Tryd.underlying67 37 (by kernel_rfl) gm1 0 1 nn4 0 .i64 (by kernel_rfl) (by kernel_rfl) (by omega)) ?_
 refine rP 13 61 (.pointer (some ⟨gm1, 35, none⟩)) rfl rfl ?_
 refine rQ 14 62 _ rfl rfl (load1 22 (.tmp 61) rfl (by kernel_rfl) ⟨gm1, 35, none⟩ (by kernel_rfl) (.slice QA1 1 cq1) (Mur.msg_items rfl hrg1)) ?_
 refine rP 15 63 (.int .i64 1) rfl rfl ?_
 refine rQ 16 64 _ rfl rfl (qboolF (b := ((1 : Int) != (1 : Int))) (bne_eq_false_iff_eq.2 (by decide))) ?_
 refine rP 17 65 (.bool false) rfl rfl ?_
 refine rP 18 66 (.bool false) rfl rfl ?_
 refine rP 19 67 (.slice AA4 0 nn8) rfl rfl ?_
 refine rP 20 68 (.int .i64 0) rfl rfl ?_
 refine rQ 21 69 _ rfl rfl (qboolF (b := ((0 : Int) != (0 : Int))) (bne_eq_false_iff_eq.2 (by decide))) ?_
 refine rP 22 70 (.bool false) rfl rfl ?_
 refine rEnd 23 rfl (nxt (wp_cond_false (by kernel_rfl) (wp_skip (nxt (wp_seq (reg ?_))))))
 refine rP 0 72 (.pointer (some ⟨W1.heap.size, 0, none⟩)) rfl rfl ?_
 refine rP 1 73 (.slice (some ⟨gm1, 0, none⟩) 1 nn4) rfl rfl ?_
 refine rQ 2 74 (.pointer (some ⟨gm1, 0, none⟩)) rfl rfl (index_sl 67 66 (.tmp 73) (.const (.int .i64 0)) rfl Tryd.underlying67 37 (by kernel_rfl) gm1 0 1 nn4 0 .i64 (by kernel_rfl) (by kernel_rfl) (by omega)) ?_
 refine rQ 3 75 (.agg ((Mur.msgC 2 PA1 np1 cp1 Mur.z32 0 QA1 1 cq1 false).toArray)) rfl rfl (loadR 66 (.tmp 74) rfl _ Tryd.underlying66 rfl gm1 0 (by kernel_rfl) (Mur.msgC 2 PA1 np1 cp1 Mur.z32 0 QA1 1 cq1 false) (by rw [Mur.msgC_length rfl]; kernel_rfl) hrg1) ?_
 refine rC 4 76 36 [.tmp 72, .tmp 75] #[24, 66] [.pointer (some ⟨W1.heap.size, 0, none⟩), .agg ((Mur.msgC 2 PA1 np1 cp1 Mur.z32 0 QA1 1 cq1 false).toArray)] rfl rfl rfl ?_
 have hD13 := Mur.SetF.chg hD12 ch8 (fun s hs => trivial)
 have kk8 := Chg.step kk7 ch8 trivial
 refine (Hear_any W1.heap.size ([]) W1.heap.size FF2 2 ([]) PA1 np1 cp1 Mur.z32 0 ([Mur.kA]) QA1 1 cq1 false W8 (HV.out.below (Chg.below0 kk8)) hD13 rfl hby1 hnp1 hsl1 (by omega) (by omega)).mono ?_
 rintro _ W10 ⟨AA6, nn11, nn12, AA7, nn13, nn14, rfl, ow8, ow9, ch9⟩
 have zz11 := ch9.size
 have hq22 : nn11 ≤ 9223372036854775807 := Nat.le_trans ow8.nc (Nat.le_trans ow8.cm (by unfold Go.maxLen; omega))
 have hq23 : nn13 ≤ 9223372036854775807 := Nat.le_trans ow9.nc (Nat.le_trans ow9.cm (by unfold Go.maxLen; omega))
 rw [Mur.hears3.1] at ow8
 rw [Mur.hears3.2] at ow9
 have hq24 := ow8.nc
 have hq25 := ow8.cm
 have hq26 := ow8.len
 have hq27 := ow9.nc
 have hq28 := ow9.cm
 have hq29 := ow9.sl.len
 have hnl3 : nn11 = 0 := ow8.len.symm
 subst hnl3
 have hnl4 : nn13 = 1 := ow9.sl.len.symm
 subst hnl4
 refine ⟨_, rfl, ?_⟩
 refine rP 5 71 (.tuple #[.slice AA6 0 nn12, .slice AA7 1 nn14]) rfl rfl ?_
 obtain ⟨gm2, rfl, _, _⟩ := ow9.ex (by omega)
 refine rP 6 77 (.slice AA6 0 nn12) rfl rfl ?_
 refine rP 7 78 (.slice (some ⟨gm2, 0, none⟩) 1 nn14) rfl rfl ?_
 refine rP 8 9 (.slice AA6 0 nn12) rfl rfl ?_
 refine rP 9 10 (.slice (some ⟨gm2, 0, none⟩) 1 nn14) rfl rfl ?_
 refine rEnd 10 rfl (nxt (wp_seq ?_))
 refine dReg ([]) (by kernel_rfl) ?_
 intro W11 ch10 sz2
 have zz12 := ch10.size
 have sS1 : Chg ([]) W11 W11 := (Chg.refl _).more (by simp)
 refine dV 0 79 (.slice AA6 0 nn12) rfl rfl (fun _ _ => by kernel_rfl) sS1 ?_
 refine dV 1 80 (.int .i64 0) rfl rfl (fun _ _ => by kernel_rfl) sS1 ?_
 refine dV 2 81 (.bool true) rfl rfl (fun w' hw' => (boolT (b := ((0 : Int) == (0 : Int))) (beq_iff_eq.2 (by decide)) (by kernel_rfl))) sS1 ?_
 refine dV 3 82 (.bool true) rfl rfl (fun _ _ => by kernel_rfl) sS1 ?_
 refine dV 4 83 (.slice (some ⟨gm2, 0, none⟩) 1 nn14) rfl rfl (fun _ _ => by kernel_rfl) sS1 ?_
 refine dV 5 84 (.int .i64 1) rfl rfl (fun _ _ => by kernel_rfl) sS1 ?_
 refine dV 6 85 (.bool true) rfl rfl (fun w' hw' => (boolT (b := ((1 : Int) == (1 : Int))) (beq_iff_eq.2 (by decide)) (by kernel_rfl))) sS1 ?_
 refine dV 7 86 (.bool true) rfl rfl (fun _ _ => by kernel_rfl) sS1 ?_
 refine dV 8 87 (.bool true) rfl rfl (fun _ _ => by kernel_rfl) sS1 ?_
 refine dV 9 88 (.slice (some ⟨gm2, 0, none⟩) 1 nn14) rfl rfl (fun _ _ => by kernel_rfl) sS1 ?_
 refine dV 10 89 (.pointer (some ⟨gm2, 0, none⟩)) rfl rfl (fun w' hw' => (index_sl 22 32 (.tmp 88) (.const (.int .i64 0)) rfl Tryd.underlying22 97 (by kernel_rfl) gm2 0 1 nn14 0 .i64 (by kernel_rfl) (by kernel_rfl) (by omega))) sS1 ?_
 refine dV 11 90 (.agg ((Mur.attC Mur.kA.k Mur.kA.r Mur.kA.n Mur.kA.t).toArray)) rfl rfl (fun w' hw' => (loadR 32 (.tmp 89) rfl _ Tryd.underlying32 rfl gm2 0 (by kernel_rfl) (Mur.attC Mur.kA.k Mur.kA.r Mur.kA.n Mur.kA.t) (by rw [Mur.attC_length Mur.kA.hk Mur.kA.hr Mur.kA.ht]; kernel_rfl) ((Mur.SlA.chg (Mur.SlA.chg ow9.sl ch10 (fun g off e hl => trivial)) hw' (fun g off e hl => trivial)).elem (show [Mur.kA][0]? = some Mur.kA from rfl)))) sS1 ?_
 refine dV 12 91 (.agg ((Mur.attC ([63, 0, 0, 0, 0, 0, 0, 0, 0, 0, 0, 0, 0, 0, 0, 0, 0, 0, 0, 0, 0, 0, 0, 0, 0, 0, 0, 0, 0, 0, 0, 0]) Mur.z32 1 Mur.z32).toArray)) rfl rfl (fun w' hw' => (Mur.loadArr 32 (.tmp 3) rfl _ Tryd.underlying32 rfl W2.heap.size (by kernel_rfl) (Mur.attC ([63, 0, 0, 0, 0, 0, 0, 0, 0, 0, 0, 0, 0, 0, 0, 0, 0, 0, 0, 0, 0, 0, 0, 0, 0, 0, 0, 0, 0, 0, 0, 0]) Mur.z32 1 Mur.z32).toArray 97 (Mur.attC_size rfl rfl rfl) (by kernel_rfl) 32 (0, 0) (Chg.hp hw' (Chg.hp ch10 (Chg.hp ch9 (Chg.hp ch8 (Chg.hp ch7 (Chg.hp ch6 (Chg.hp ch5 hb2 (Mur.off_iff.2 (fun t ht => by have := hM1 t ht; omega))) trivial) trivial) trivial) trivial) trivial) trivial))) sS1 ?_
 refine dV 13 92 (.bool true) rfl rfl (fun w' hw' => (boolT (b := decide (Mur.kA.k = ([63, 0, 0, 0, 0, 0, 0, 0, 0, 0, 0, 0, 0, 0, 0, 0, 0, 0, 0, 0, 0, 0, 0, 0, 0, 0, 0, 0, 0, 0, 0, 0]) ∧ Mur.kA.r = Mur.z32 ∧ Mur.kA.n = 1 ∧ Mur.kA.t = Mur.z32)) (decide_eq_true (⟨rfl, rfl, rfl, rfl⟩)) (run_eql_att (.tmp 90) (.tmp 91) 32 rfl Mur.kA.hk Mur.kA.hr Mur.kA.ht rfl rfl rfl Mur.kA.hn (by decide) (by kernel_rfl) (by kernel_rfl)))) sS1 ?_
 refine dV 14 93 (.bool true) rfl rfl (fun _ _ => by kernel_rfl) sS1 ?_
 refine dV 15 0 (.bool true) rfl rfl (fun _ _ => by kernel_rfl) sS1 ?_
 refine dEnd (by kernel_rfl) (nxt (wp_ret ?_))
 have kk9 := Chg.step kk8 ch9 trivial
 have kk10 := Chg.step kk9 ch10 trivial
 refine Wk.ret (.bool true) rfl (by kernel_rfl) ?_
 exact ⟨rfl, kk10⟩
end Go.Proofs.YtfhneademopciaaDoor
namespace Go.Proofs.YtfhneademopciaaDoor
open Go.RowKit Wk
open Mur (b8s Byt Own8 Seg Segs flat cutA attC Att SlA OwnA rowA msgC)
open Mur (u32s)
set_option maxRecDepth 100000
set_option maxHeartbeats 4000000
def ShnG_F1 (b : Array Value) (u0 : Value) (u1 : Value) (u2 : Value) (u3 : Value) (u11 : Value) : Act := ⟨#[u0, u1, u2, u3, gd b 4, gd b 5, gd b 6, gd b 7, gd b 8, gd b 9, gd b 10, u11, gd b 12, gd b 13, gd b 14, gd b 15, gd b 16, gd b 17, gd b 18, gd b 19, gd b 20, gd b 21, gd b 22, gd b 23, gd b 24, gd b 25, gd b 26, gd b 27, gd b 28, gd b 29, gd b 30, gd b 31, gd b 32, gd b 33, gd b 34, gd b 35, gd b 36, gd b 37, gd b 38, gd b 39, gd b 40, gd b 41, gd b 42, gd b 43, gd b 44, gd b 45, gd b 46, gd b 47, gd b 48, gd b 49, gd b 50, gd b 51, gd b 52, gd b 53, gd b 54], []⟩
def ShnG_F2 (b : Array Value) (u0 : Value) (u1 : Value) (u2 : Value) (u3 : Value) (u11 : Value) : Act := ⟨#[u0, u1, u2, u3, gd b 4, gd b 5, gd b 6, gd b 7, gd b 8, gd b 9, gd b 10, u11, gd b 12, gd b 13, gd b 14, gd b 15, gd b 16, gd b 17, gd b 18, gd b 19, gd b 20, gd b 21, gd b 22, gd b 23, gd b 24, gd b 25, gd b 26, gd b 27, gd b 28, gd b 29, gd b 30, gd b 31, gd b 32, gd b 33, gd b 34, gd b 35, gd b 36, gd b 37, gd b 38, gd b 39, gd b 40, gd b 41, gd b 42, gd b 43, gd b 44, gd b 45, gd b 46, gd b 47, gd b 48, gd b 49, gd b 50, gd b 51, gd b 52, gd b 53, gd b 54], []⟩
theorem Shown_any (hc kc : Array Value) (Hh : Hid (hc = stCells Mur.H0)) (Hk : Hid (kc = Mur.u32s Mur.K)) (g : Nat) (A : Option Addr) (n c : Nat) (L0 : List Att) (B : Option Addr) (m dd : Nat) (L1 : List Att) (hn : n ≤ 200) (hm : m ≤ 200) : ∀ (d : Nat) (p : List UInt8) (PA : Option Addr) (pn pc : Nat) (w : World), p.length + d = 8 → Mur.isPre p = true → w.heap[g]? = some (.cells (hc ++ kc) 97 (0, 0)) → SlA w A n L0 → SlA w B m L1 → Byt w PA pn p → (PA = none → pc = 0) → Calls Tryd.prog 35 #[.pointer (some ⟨g, 0, none⟩), .slice A n c, .slice B m dd, .slice PA pn pc] w fun e w' => ∃ r, e = .returned (.bool r) ∧ (Mur.BadP p L0 L1 → r = true) ∧ Chg [] w w' := by
 intro d
 induction d using Nat.strongRecOn with
 | _ d ih =>
  intro p PA pn pc w hpd hp hg hA_ hB_ hb hnil
  have hpl_ := hb.1
  have hAl_ := hA_.len
  have hBl_ := hB_.len
  have hgl_ := (Array.getElem?_eq_some_iff.1 hg).1
  have hcs := hc_size Hh.out
  have kcs := kc_size Hk.out
  refine calls_of_wp Tryd.func35 rfl ?_
  refine wp_seq (reg ?_)
  refine rP 0 8 (.bool false) rfl rfl ?_
  refine rEnd 1 rfl (nxt (wp_seq (reg ?_)))
  refine rP 0 12 (.slice A n c) rfl rfl ?_
  refine rP 1 13 (.slice PA pn pc) rfl rfl ?_
  refine rC 2 14 29 [.tmp 12, .tmp 13] #[50, 38] [.slice A n c, .slice PA pn pc] rfl rfl rfl ?_
  refine (Rbelow_any A n c L0 p PA pn pc w hA_ hb (by omega) (by omega)).mono ?_
  rintro _ W1 ⟨AA1, nn1, nn2, rfl, ow1, ch1⟩
  have zz1 := ch1.size
  have hq1 := ow1.nc
  have hq2 := ow1.cm
  have hq3 := ow1.sl.len
  have hq4 := Mur.belowL_len p L0
  refine ⟨_, rfl, ?_⟩
  refine rP 3 15 (.slice B m dd) rfl rfl ?_
  refine rP 4 16 (.slice PA pn pc) rfl rfl ?_
  refine rC 5 17 29 [.tmp 15, .tmp 16] #[50, 38] [.slice B m dd, .slice PA pn pc] rfl rfl rfl ?_
  have kk1 : Chg [] w W1 := Chg.step ((Chg.refl _).more (by simp)) ch1 trivial
  refine (Rbelow_any B m dd L1 p PA pn pc W1 (Mur.SlA.chg hB_ kk1 (fun g off e hl => trivial)) (Mur.byt_chg hb kk1 (fun g off e hl => trivial)) (by omega) (by omega)).mono ?_
  rintro _ W2 ⟨AA2, nn3, nn4, rfl, ow2, ch2⟩
  have zz2 := ch2.size
  have hq5 := ow2.nc
  have hq6 := ow2.cm
  have hq7 := ow2.sl.len
  have hq8 := Mur.belowL_len p L1
  refine ⟨_, rfl, ?_⟩
  refine rP 6 9 (.slice AA1 nn1 nn2) rfl rfl ?_
  refine rP 7 10 (.slice AA2 nn3 nn4) rfl rfl ?_
  refine rEnd 8 rfl (nxt (wp_seq (wp_seq (reg ?_))))
  refine rP 0 18 (.slice AA1 nn1 nn2) rfl rfl ?_
  refine rP 1 19 (.slice AA2 nn3 nn4) rfl rfl ?_
  refine rC 2 20 17 [.tmp 18, .tmp 19] #[22, 22] [.slice AA1 nn1 nn2, .slice AA2 nn3 nn4] rfl rfl rfl ?_
  have ow3 := Mur.OwnA.chg ow1 ch2 (fun q e _ _ => trivial)
  refine (Same20_any AA1 nn1 nn2 (Mur.belowL p L0) AA2 nn3 nn4 (Mur.belowL p L1) W2 ow3.sl ow2.sl (by omega)).mono ?_
  by_cases hsa1 : (Mur.belowL p L0) = (Mur.belowL p L1)
  ·rw [decide_eq_true (hsa1 : (Mur.belowL p L0) = (Mur.belowL p L1))]
   rintro _ W3 ⟨rfl, ch3⟩
   have zz3 := ch3.size
   refine ⟨_, rfl, ?_⟩
   refine rEnd 3 rfl (nxt (wp_cond_true (by kernel_rfl) (wp_seq (reg ?_))))
   refine rP 0 8 (.bool false) rfl rfl ?_
   refine rEnd 1 rfl (nxt (wp_ret (thR ?_)))
   have kk2 := Chg.step kk1 ch2 trivial
   have kk3 := Chg.step kk2 ch3 trivial
   refine Wk.ret (.bool false) rfl (by kernel_rfl) ?_
   exact ⟨_, rfl, fun h_ => absurd h_ (Mur.badP_same hp hsa1), kk3⟩
  ·rw [decide_eq_false (hsa1 : ¬ ((Mur.belowL p L0) = (Mur.belowL p L1)))]
   rintro _ W3 ⟨rfl, ch3⟩
   have zz4 := ch3.size
   refine ⟨_, rfl, ?_⟩
   refine rEnd 3 rfl (nxt (wp_cond_false (by kernel_rfl) (wp_skip (nxt (wp_seq (wp_seq (reg ?_)))))))
   refine rP 0 21 (.slice AA1 nn1 nn2) rfl rfl ?_
   refine rP 1 22 (.int .i64 ((nn1 : Nat) : Int)) rfl rfl ?_
   refine rP 2 23 (.slice AA2 nn3 nn4) rfl rfl ?_
   refine rP 3 24 (.int .i64 ((nn3 : Nat) : Int)) rfl rfl ?_
   by_cases hlx : (Mur.belowL p L0).length = (Mur.belowL p L1).length
   ·refine rQ 4 25 _ rfl rfl (qboolT (b := (((nn1 : Nat) : Int) == ((nn3 : Nat) : Int))) (beq_iff_eq.2 (by omega))) ?_
    refine rP 5 26 (.bool true) rfl rfl ?_
    refine rP 6 27 (.pointer (some ⟨g, 0, none⟩)) rfl rfl ?_
    refine rP 7 28 (.slice AA1 nn1 nn2) rfl rfl ?_
    refine rC 8 29 21 [.tmp 28] #[22] [.slice AA1 nn1 nn2] rfl rfl rfl ?_
    have ow4 := Mur.OwnA.chg ow3 ch3 (fun q e _ _ => trivial)
    refine (Row_any AA1 nn1 nn2 (Mur.belowL p L0) W3 ow4.sl (by omega)).mono ?_
    rintro _ W4 ⟨AA3, nn5, nn6, rfl, ow5, ch4⟩
    have zz5 := ch4.size
    have hrl1 := ow5.byt.1
    rw [Mur.rowL_length] at hrl1
    have hq9 := ow5.nc
    have hq10 := ow5.cm
    refine ⟨_, rfl, ?_⟩
    refine rC 9 30 22 [.tmp 27, .tmp 29] #[41, 38] [.pointer (some ⟨g, 0, none⟩), .slice AA3 nn5 nn6] rfl rfl rfl ?_
    have kk4 := Chg.step kk1 ch2 trivial
    have kk5 := Chg.step kk4 ch3 trivial
    have kk6 := Chg.step kk5 ch4 trivial
    refine (Hsum_any hc kc Hh Hk g (Mur.rowL (Mur.belowL p L0)) AA3 nn5 nn6 W4 (Chg.hp kk6 hg trivial) ow5.byt (by omega) ow5.nil (by omega)).mono ?_
    rintro _ W5 ⟨dd1, hd1, hdl1, rfl, ch5⟩
    have zz6 := ch5.size
    refine ⟨_, rfl, ?_⟩
    refine rP 10 31 (.pointer (some ⟨g, 0, none⟩)) rfl rfl ?_
    refine rP 11 32 (.slice AA2 nn3 nn4) rfl rfl ?_
    refine rC 12 33 21 [.tmp 32] #[22] [.slice AA2 nn3 nn4] rfl rfl rfl ?_
    have ow6 := Mur.OwnA.chg ow2 ch3 (fun q e _ _ => trivial)
    have ow7 := Mur.OwnA.chg ow6 ch4 (fun q e _ _ => trivial)
    have ow8 := Mur.OwnA.chg ow7 ch5 (fun q e _ _ => trivial)
    refine (Row_any AA2 nn3 nn4 (Mur.belowL p L1) W5 ow8.sl (by omega)).mono ?_
    rintro _ W6 ⟨AA4, nn7, nn8, rfl, ow9, ch6⟩
    have zz7 := ch6.size
    have hrl2 := ow9.byt.1
    rw [Mur.rowL_length] at hrl2
    have hq11 := ow9.nc
    have hq12 := ow9.cm
    refine ⟨_, rfl, ?_⟩
    refine rC 13 34 22 [.tmp 31, .tmp 33] #[41, 38] [.pointer (some ⟨g, 0, none⟩), .slice AA4 nn7 nn8] rfl rfl rfl ?_
    have kk7 := Chg.step kk6 ch5 trivial
    have kk8 := Chg.step kk7 ch6 trivial
    refine (Hsum_any hc kc Hh Hk g (Mur.rowL (Mur.belowL p L1)) AA4 nn7 nn8 W6 (Chg.hp kk8 hg trivial) ow9.byt (by omega) ow9.nil (by omega)).mono ?_
    rintro _ W7 ⟨dd2, hd2, hdl2, rfl, ch7⟩
    have zz8 := ch7.size
    refine ⟨_, rfl, ?_⟩
    have he1_ := hd1.out
    have he2_ := hd2.out
    by_cases hds : dd1 = dd2
    ·refine rQ 14 35 (.bool true) rfl rfl (Mur.run_eql_yes digT dd1 dd2 hdl1 hdl2 hds _ (.tmp 30) (.tmp 34) 30 rfl (by kernel_rfl) (by kernel_rfl)) ?_
     refine rP 15 36 (.bool true) rfl rfl ?_
     refine rEnd 16 rfl (nxt (wp_cond_true (by kernel_rfl) (wp_seq (reg ?_))))
     refine rP 0 8 (.bool true) rfl rfl ?_
     refine rEnd 1 rfl (nxt (wp_ret (thR ?_)))
     have kk9 := Chg.step kk8 ch7 trivial
     refine Wk.ret (.bool true) rfl (by kernel_rfl) ?_
     exact ⟨_, rfl, fun _ => rfl, kk9⟩
    ·have hnb_ : ¬ (Mur.cntL p L0 = Mur.cntL p L1 ∧ Mur.sumL p L0 = Mur.sumL p L1) := fun h_ => hds (by rw [he1_, he2_, ← Mur.sumL_ok hp, ← Mur.sumL_ok hp]; exact h_.2)
     refine rQ 14 35 (.bool false) rfl rfl (Mur.run_eql_no digT dd1 dd2 hdl1 hdl2 hds _ (.tmp 30) (.tmp 34) 30 rfl (by kernel_rfl) (by kernel_rfl)) ?_
     refine rP 15 36 (.bool false) rfl rfl ?_
     refine rEnd 16 rfl (nxt (wp_cond_false (by kernel_rfl) (wp_skip (nxt (wp_seq (wp_seq (reg ?_)))))))
     refine rP 0 37 (.slice PA pn pc) rfl rfl ?_
     refine rP 1 38 (.int .i64 ((pn : Nat) : Int)) rfl rfl ?_
     by_cases hx1 : ((pn : Nat) : Int) = (8 : Int)
     ·refine rQ 2 39 _ rfl rfl (qboolT (b := (((pn : Nat) : Int) == (8 : Int))) (beq_iff_eq.2 (by first | exact hx1 | omega))) ?_
      refine rEnd 3 rfl (nxt (wp_cond_true (by kernel_rfl) (wp_seq (reg ?_))))
      refine rP 0 8 (.bool false) rfl rfl ?_
      refine rEnd 1 rfl (nxt (wp_ret (thR ?_)))
      have kk10 := Chg.step kk8 ch7 trivial
      refine Wk.ret (.bool false) rfl (by kernel_rfl) ?_
      exact ⟨_, rfl, fun h_ => absurd h_ (Mur.badP_no hnb_ fun k_ => by omega), kk10⟩
     ·refine rQ 2 39 _ rfl rfl (qboolF (b := (((pn : Nat) : Int) == (8 : Int))) (beq_eq_false_iff_ne.2 (by first | exact hx1 | omega))) ?_
      refine rEnd 3 rfl (nxt (wp_cond_false (by kernel_rfl) (wp_skip (nxt (wp_seq (wp_seq (reg ?_)))))))
      refine rP 0 11 (.int .i64 0) rfl rfl ?_
      refine rEnd 1 rfl (nxt (wp_block ?_))
      refine Wk.loop (fun m_ a wr => ∃ (i : Nat), m_ = 16 - i ∧ a = ShnG_F1 a.tmps (.pointer (some ⟨g, 0, none⟩)) (.slice A n c) (.slice B m dd) (.slice PA pn pc) (.int .i64 ((i : Nat) : Int)) ∧ i ≤ 16 ∧ (∀ u : UInt8, u.toNat < i → ¬ Mur.BadP (p ++ [u]) L0 L1) ∧ Chg [] w wr) (16 - 0) ?_ ?_
      ·have kk11 := Chg.step kk8 ch7 trivial
       refine ⟨0, rfl, by kernel_rfl, Nat.zero_le _, (fun u_ h_ => by omega), kk11⟩
      ·rintro mm1 aa1 W8 ⟨i, hmm1, hF1, hi, hno, HB⟩
       generalize aa1.tmps = bb1 at hF1
       subst hF1
       have hzB := HB.size
       by_cases hlt : i < 16
       ·obtain ⟨u, rfl⟩ : ∃ u : UInt8, u.toNat = i := ⟨UInt8.ofNat i, by simp; omega⟩
        have hul := u.toNat_lt
        refine wp_seq (wp_seq (reg ?_))
        refine rP 0 40 (.int .i64 ((u.toNat : Nat) : Int)) rfl rfl ?_
        refine rQ 1 41 _ rfl rfl (qboolT (b := decide (((u.toNat : Nat) : Int) < (16 : Int))) (decide_eq_true (by omega))) ?_
        refine rEnd 2 rfl (nxt (wp_cond_true (by kernel_rfl) (wp_skip (nxt (wp_seq (wp_block (wp_seq (reg ?_))))))))
        refine rP 0 44 (.pointer (some ⟨g, 0, none⟩)) rfl rfl ?_
        refine rP 1 45 (.slice A n c) rfl rfl ?_
        refine rP 2 46 (.slice B m dd) rfl rfl ?_
        refine rX 3 47 rfl rfl (new_ex (.slice (some ⟨W8.heap.size, 0, none⟩) 0 0) #[] 5 (by kernel_rfl)) ?_
        rintro _ W10 ⟨rfl, hb1, ch8, sz1⟩
        have zz9 := ch8.size
        refine rP 4 48 (.slice PA pn pc) rfl rfl ?_
        have ow10 := Mur.own8_empty hb1 (Nat.le_refl _)
        have kk12 := Chg.step HB ch8 trivial
        refine rX 5 49 rfl rfl (Mur.append8 (.tmp 47) (.tmp 48) 38 5 rfl Tryd.underlying38 (by kernel_rfl) W8.heap.size (some ⟨W8.heap.size, 0, none⟩) 0 0 ([]) PA pn pc p (by kernel_rfl) (by kernel_rfl) ow10.own (Mur.byt_chg hb kk12 (fun g off e hl => trivial)) hnil (by omega) (by omega) pn (by omega) p rfl) ?_
        rintro _ W11 ⟨AA5, nn9, rfl, ow11, ch9, ha1⟩
        have zz10 := ch9.size
        have hq13 := ow11.nc
        have hq14 := ow11.cm
        refine rP 6 50 (.int .i64 ((u.toNat : Nat) : Int)) rfl rfl ?_
        refine rQ 7 51 (.int .u8 ((u.toNat : Nat) : Int)) rfl rfl (Mur.conv_int 3 5 (.tmp 50) rfl (by kernel_rfl) .u8 Tryd.underlying5 .i64 _ (by kernel_rfl) (show ((u.toNat : Nat) : Int) % 256 = _ by omega)) ?_
        refine rX 8 52 rfl rfl (new_ex (.slice (some ⟨W11.heap.size, 0, none⟩) 1 1) #[.int .u8 ((u.toNat : Nat) : Int)] 5 (by kernel_rfl)) ?_
        rintro _ W12 ⟨rfl, hb2, ch10, sz2⟩
        have zz11 := ch10.size
        have ow12 := Mur.own8 (own_chg ow11.own ch10 (fun q e _ _ => trivial))
        refine rX 9 53 rfl rfl (Mur.append8 (.tmp 49) (.tmp 52) 38 5 rfl Tryd.underlying38 (by kernel_rfl) W8.heap.size AA5 pn nn9 p (some ⟨W11.heap.size, 0, none⟩) 1 1 ([u]) (by kernel_rfl) (by kernel_rfl) ow12.own (Mur.byt_row [u] hb2) (fun h => by cases h) (by omega) (by omega) (pn + 1) (by omega) (p ++ ([u])) rfl) ?_
        rintro _ W13 ⟨AA6, nn10, rfl, ow13, ch11, ha2⟩
        have zz12 := ch11.size
        have hq15 := ow13.nc
        have hq16 := ow13.cm
        refine rC 10 54 35 [.tmp 44, .tmp 45, .tmp 46, .tmp 53] #[41, 50, 50, 38] [.pointer (some ⟨g, 0, none⟩), .slice A n c, .slice B m dd, .slice AA6 (pn + 1) nn10] rfl rfl rfl ?_
        have kk13 := Chg.step kk12 ch9 (newOr_blk (fun g hg => by have := ow10.lt g hg; omega))
        have kk14 := Chg.step kk13 ch10 trivial
        have kk15 := Chg.step kk14 ch11 (newOr_blk (fun g hg => by have := ow11.lt g hg; omega))
        refine (ih (d - 1) (by omega) (p ++ ([u])) AA6 (pn + 1) nn10 W13 (by rw [List.length_append, List.length_singleton]; omega) (Mur.pre_snoc hp (by omega) (by omega)) (Chg.hp kk15 hg trivial) (Mur.SlA.chg hA_ kk15 (fun g off e hl => trivial)) (Mur.SlA.chg hB_ kk15 (fun g off e hl => trivial)) ow13.byt ow13.nil).mono ?_
        rintro _ W14 ⟨rs1, rfl, hrs1, ch12⟩
        have zz13 := ch12.size
        cases rs1
        ·refine ⟨_, rfl, ?_⟩
         refine rEnd 11 rfl (nxt (wp_cond_false (by kernel_rfl) (wp_skip (inN (nxt (reg ?_))))))
         refine rP 0 42 (.int .i64 ((u.toNat : Nat) : Int)) rfl rfl ?_
         refine rQ 1 43 _ rfl rfl (qint64 (n := ((u.toNat : Nat) : Int) + 1) (z := ((u.toNat + 1 : Nat) : Int)) (by omega) (by omega) (by omega)) ?_
         refine rP 2 11 (.int .i64 ((u.toNat + 1 : Nat) : Int)) rfl rfl ?_
         refine rEnd 3 rfl (nxt ?_)
         have kk16 := Chg.step kk15 ch12 trivial
         refine ⟨_, ?_, u.toNat + 1, rfl, by kernel_rfl, (by omega), (fun v_ h_ => by rcases Mur.u8_lt_succ h_ with h1_ | h1_ <;> first | exact hno v_ h1_ | (subst h1_; exact fun h2_ => absurd (hrs1 h2_) (by decide))), kk16⟩
         ·omega
        ·refine ⟨_, rfl, ?_⟩
         refine rEnd 11 rfl (nxt (wp_cond_true (by kernel_rfl) (wp_seq (reg ?_))))
         refine rP 0 8 (.bool true) rfl rfl ?_
         refine rEnd 1 rfl (nxt (wp_ret (inR (thR (thR (inR (thR ?_)))))))
         have kk17 := Chg.step kk15 ch12 trivial
         refine Wk.ret (.bool true) rfl (by kernel_rfl) ?_
         exact ⟨_, rfl, fun _ => rfl, kk17⟩
       ·refine wp_seq (wp_seq (reg ?_))
        refine rP 0 40 (.int .i64 ((i : Nat) : Int)) rfl rfl ?_
        refine rQ 1 41 _ rfl rfl (qboolF (b := decide (((i : Nat) : Int) < (16 : Int))) (decide_eq_false (by omega))) ?_
        refine rEnd 2 rfl (nxt (wp_cond_false (by kernel_rfl) (wp_exit (thX (thX (inX (nxt (wp_seq (reg ?_)))))))))
        refine rP 0 8 (.bool false) rfl rfl ?_
        refine rEnd 1 rfl (nxt (wp_ret ?_))
        refine Wk.ret (.bool false) rfl (by kernel_rfl) ?_
        exact ⟨_, rfl, fun h_ => absurd h_ (Mur.badP_no hnb_ fun _ u_ hu_ => hno u_ (by omega)), HB⟩
   ·have hnb_ : ¬ (Mur.cntL p L0 = Mur.cntL p L1 ∧ Mur.sumL p L0 = Mur.sumL p L1) := fun h_ => hlx h_.1
    refine rQ 4 25 _ rfl rfl (qboolF (b := (((nn1 : Nat) : Int) == ((nn3 : Nat) : Int))) (beq_eq_false_iff_ne.2 (by omega))) ?_
    refine rP 5 26 (.bool false) rfl rfl ?_
    refine rPass 6 (some 27) rfl rfl (by kernel_rfl) ?_
    refine rPass 7 (some 28) rfl rfl (by kernel_rfl) ?_
    refine rPass 8 (some 29) rfl rfl (by kernel_rfl) ?_
    refine rPass 9 (some 30) rfl rfl (by kernel_rfl) ?_
    refine rPass 10 (some 31) rfl rfl (by kernel_rfl) ?_
    refine rPass 11 (some 32) rfl rfl (by kernel_rfl) ?_
    refine rPass 12 (some 33) rfl rfl (by kernel_rfl) ?_
    refine rPass 13 (some 34) rfl rfl (by kernel_rfl) ?_
    refine rPass 14 (some 35) rfl rfl (by kernel_rfl) ?_
    refine rP 15 36 (.bool false) rfl rfl ?_
    refine rEnd 16 rfl (nxt (wp_cond_false (by kernel_rfl) (wp_skip (nxt (wp_seq (wp_seq (reg ?_)))))))
    refine rP 0 37 (.slice PA pn pc) rfl rfl ?_
    refine rP 1 38 (.int .i64 ((pn : Nat) : Int)) rfl rfl ?_
    by_cases hx2 : ((pn : Nat) : Int) = (8 : Int)
    ·refine rQ 2 39 _ rfl rfl (qboolT (b := (((pn : Nat) : Int) == (8 : Int))) (beq_iff_eq.2 (by first | exact hx2 | omega))) ?_
     refine rEnd 3 rfl (nxt (wp_cond_true (by kernel_rfl) (wp_seq (reg ?_))))
     refine rP 0 8 (.bool false) rfl rfl ?_
     refine rEnd 1 rfl (nxt (wp_ret (thR ?_)))
     have kk18 := Chg.step kk1 ch2 trivial
     have kk19 := Chg.step kk18 ch3 trivial
     refine Wk.ret (.bool false) rfl (by kernel_rfl) ?_
     exact ⟨_, rfl, fun h_ => absurd h_ (Mur.badP_no hnb_ fun k_ => by omega), kk19⟩
    ·refine rQ 2 39 _ rfl rfl (qboolF (b := (((pn : Nat) : Int) == (8 : Int))) (beq_eq_false_iff_ne.2 (by first | exact hx2 | omega))) ?_
     refine rEnd 3 rfl (nxt (wp_cond_false (by kernel_rfl) (wp_skip (nxt (wp_seq (wp_seq (reg ?_)))))))
     refine rP 0 11 (.int .i64 0) rfl rfl ?_
     refine rEnd 1 rfl (nxt (wp_block ?_))
     refine Wk.loop (fun m_ a wr => ∃ (i : Nat), m_ = 16 - i ∧ a = ShnG_F2 a.tmps (.pointer (some ⟨g, 0, none⟩)) (.slice A n c) (.slice B m dd) (.slice PA pn pc) (.int .i64 ((i : Nat) : Int)) ∧ i ≤ 16 ∧ (∀ u : UInt8, u.toNat < i → ¬ Mur.BadP (p ++ [u]) L0 L1) ∧ Chg [] w wr) (16 - 0) ?_ ?_
     ·have kk20 := Chg.step kk1 ch2 trivial
      have kk21 := Chg.step kk20 ch3 trivial
      refine ⟨0, rfl, by kernel_rfl, Nat.zero_le _, (fun u_ h_ => by omega), kk21⟩
     ·rintro mm2 aa2 W15 ⟨i, hmm2, hF2, hi, hno, HB⟩
      generalize aa2.tmps = bb2 at hF2
      subst hF2
      have hzB := HB.size
      by_cases hlt : i < 16
      ·obtain ⟨u, rfl⟩ : ∃ u : UInt8, u.toNat = i := ⟨UInt8.ofNat i, by simp; omega⟩
       have hul := u.toNat_lt
       refine wp_seq (wp_seq (reg ?_))
       refine rP 0 40 (.int .i64 ((u.toNat : Nat) : Int)) rfl rfl ?_
       refine rQ 1 41 _ rfl rfl (qboolT (b := decide (((u.toNat : Nat) : Int) < (16 : Int))) (decide_eq_true (by omega))) ?_
       refine rEnd 2 rfl (nxt (wp_cond_true (by kernel_rfl) (wp_skip (nxt (wp_seq (wp_block (wp_seq (reg ?_))))))))
       refine rP 0 44 (.pointer (some ⟨g, 0, none⟩)) rfl rfl ?_
       refine rP 1 45 (.slice A n c) rfl rfl ?_
       refine rP 2 46 (.slice B m dd) rfl rfl ?_
       refine rX 3 47 rfl rfl (new_ex (.slice (some ⟨W15.heap.size, 0, none⟩) 0 0) #[] 5 (by kernel_rfl)) ?_
       rintro _ W16 ⟨rfl, hb3, ch13, sz3⟩
       have zz14 := ch13.size
       refine rP 4 48 (.slice PA pn pc) rfl rfl ?_
       have ow14 := Mur.own8_empty hb3 (Nat.le_refl _)
       have kk22 := Chg.step HB ch13 trivial
       refine rX 5 49 rfl rfl (Mur.append8 (.tmp 47) (.tmp 48) 38 5 rfl Tryd.underlying38 (by kernel_rfl) W15.heap.size (some ⟨W15.heap.size, 0, none⟩) 0 0 ([]) PA pn pc p (by kernel_rfl) (by kernel_rfl) ow14.own (Mur.byt_chg hb kk22 (fun g off e hl => trivial)) hnil (by omega) (by omega) pn (by omega) p rfl) ?_
       rintro _ W17 ⟨AA7, nn11, rfl, ow15, ch14, ha3⟩
       have zz15 := ch14.size
       have hq17 := ow15.nc
       have hq18 := ow15.cm
       refine rP 6 50 (.int .i64 ((u.toNat : Nat) : Int)) rfl rfl ?_
       refine rQ 7 51 (.int .u8 ((u.toNat : Nat) : Int)) rfl rfl (Mur.conv_int 3 5 (.tmp 50) rfl (by kernel_rfl) .u8 Tryd.underlying5 .i64 _ (by kernel_rfl) (show ((u.toNat : Nat) : Int) % 256 = _ by omega)) ?_
       refine rX 8 52 rfl rfl (new_ex (.slice (some ⟨W17.heap.size, 0, none⟩) 1 1) #[.int .u8 ((u.toNat : Nat) : Int)] 5 (by kernel_rfl)) ?_
       rintro _ W18 ⟨rfl, hb4, ch15, sz4⟩
       have zz16 := ch15.size
       have ow16 := Mur.own8 (own_chg ow15.own ch15 (fun q e _ _ => trivial))
       refine rX 9 53 rfl rfl (Mur.append8 (.tmp 49) (.tmp 52) 38 5 rfl Tryd.underlying38 (by kernel_rfl) W15.heap.size AA7 pn nn11 p (some ⟨W17.heap.size, 0, none⟩) 1 1 ([u]) (by kernel_rfl) (by kernel_rfl) ow16.own (Mur.byt_row [u] hb4) (fun h => by cases h) (by omega) (by omega) (pn + 1) (by omega) (p ++ ([u])) rfl) ?_
       rintro _ W19 ⟨AA8, nn12, rfl, ow17, ch16, ha4⟩
       have zz17 := ch16.size
       have hq19 := ow17.nc
       have hq20 := ow17.cm
       refine rC 10 54 35 [.tmp 44, .tmp 45, .tmp 46, .tmp 53] #[41, 50, 50, 38] [.pointer (some ⟨g, 0, none⟩), .slice A n c, .slice B m dd, .slice AA8 (pn + 1) nn12] rfl rfl rfl ?_
       have kk23 := Chg.step kk22 ch14 (newOr_blk (fun g hg => by have := ow14.lt g hg; omega))
       have kk24 := Chg.step kk23 ch15 trivial
       have kk25 := Chg.step kk24 ch16 (newOr_blk (fun g hg => by have := ow15.lt g hg; omega))
       refine (ih (d - 1) (by omega) (p ++ ([u])) AA8 (pn + 1) nn12 W19 (by rw [List.length_append, List.length_singleton]; omega) (Mur.pre_snoc hp (by omega) (by omega)) (Chg.hp kk25 hg trivial) (Mur.SlA.chg hA_ kk25 (fun g off e hl => trivial)) (Mur.SlA.chg hB_ kk25 (fun g off e hl => trivial)) ow17.byt ow17.nil).mono ?_
       rintro _ W20 ⟨rs2, rfl, hrs2, ch17⟩
       have zz18 := ch17.size
       cases rs2
       ·refine ⟨_, rfl, ?_⟩
        refine rEnd 11 rfl (nxt (wp_cond_false (by kernel_rfl) (wp_skip (inN (nxt (reg ?_))))))
        refine rP 0 42 (.int .i64 ((u.toNat : Nat) : Int)) rfl rfl ?_
        refine rQ 1 43 _ rfl rfl (qint64 (n := ((u.toNat : Nat) : Int) + 1) (z := ((u.toNat + 1 : Nat) : Int)) (by omega) (by omega) (by omega)) ?_
        refine rP 2 11 (.int .i64 ((u.toNat + 1 : Nat) : Int)) rfl rfl ?_
        refine rEnd 3 rfl (nxt ?_)
        have kk26 := Chg.step kk25 ch17 trivial
        refine ⟨_, ?_, u.toNat + 1, rfl, by kernel_rfl, (by omega), (fun v_ h_ => by rcases Mur.u8_lt_succ h_ with h1_ | h1_ <;> first | exact hno v_ h1_ | (subst h1_; exact fun h2_ => absurd (hrs2 h2_) (by decide))), kk26⟩
        ·omega
       ·refine ⟨_, rfl, ?_⟩
        refine rEnd 11 rfl (nxt (wp_cond_true (by kernel_rfl) (wp_seq (reg ?_))))
        refine rP 0 8 (.bool true) rfl rfl ?_
        refine rEnd 1 rfl (nxt (wp_ret (inR (thR (thR (inR (thR ?_)))))))
        have kk27 := Chg.step kk25 ch17 trivial
        refine Wk.ret (.bool true) rfl (by kernel_rfl) ?_
        exact ⟨_, rfl, fun _ => rfl, kk27⟩
      ·refine wp_seq (wp_seq (reg ?_))
       refine rP 0 40 (.int .i64 ((i : Nat) : Int)) rfl rfl ?_
       refine rQ 1 41 _ rfl rfl (qboolF (b := decide (((i : Nat) : Int) < (16 : Int))) (decide_eq_false (by omega))) ?_
       refine rEnd 2 rfl (nxt (wp_cond_false (by kernel_rfl) (wp_exit (thX (thX (inX (nxt (wp_seq (reg ?_)))))))))
       refine rP 0 8 (.bool false) rfl rfl ?_
       refine rEnd 1 rfl (nxt (wp_ret ?_))
       refine Wk.ret (.bool false) rfl (by kernel_rfl) ?_
       exact ⟨_, rfl, fun h_ => absurd h_ (Mur.badP_no hnb_ fun _ u_ hu_ => hno u_ (by omega)), HB⟩
end Go.Proofs.YtfhneademopciaaDoor
