/- What the row rests on, part 9. -/
import Derived.Test.YtgbadghjnpbiaaaDoorRA6
import Derived.Test.YtgbadghjnpbiaaaDoorRA7
namespace Go.Proofs.YtgbadghjnpbiaaaDoor
open Go.RowKit Wk
open Mur (b8s Byt Own8 Seg Segs flat cutA attC Att SlA OwnA rowA msgC run_str updC map_at take_sn attL attL_len b8s_length run_neq_dg)
set_option maxRecDepth 100000
set_option maxHeartbeats 4000000
def EqU_F1 (b : Array Value) (u0 : Value) (u1 : Value) (u12 : Value) (u13 : Value) : Act := ⟨#[u0, u1, gd b 2, gd b 3, gd b 4, gd b 5, gd b 6, gd b 7, gd b 8, gd b 9, gd b 10, gd b 11, u12, u13, gd b 14, gd b 15, gd b 16, gd b 17, gd b 18, gd b 19, gd b 20, gd b 21, gd b 22, gd b 23, gd b 24, gd b 25], []⟩
def EqA_F1 (b : Array Value) (u0 : Value) (u1 : Value) (u12 : Value) (u13 : Value) : Act := ⟨#[u0, u1, gd b 2, gd b 3, gd b 4, gd b 5, gd b 6, gd b 7, gd b 8, gd b 9, gd b 10, gd b 11, u12, u13, gd b 14, gd b 15, gd b 16, gd b 17, gd b 18, gd b 19, gd b 20, gd b 21, gd b 22, gd b 23, gd b 24, gd b 25], []⟩
def EqD_F1 (b : Array Value) (u0 : Value) (u1 : Value) (u12 : Value) (u13 : Value) : Act := ⟨#[u0, u1, gd b 2, gd b 3, gd b 4, gd b 5, gd b 6, gd b 7, gd b 8, gd b 9, gd b 10, gd b 11, u12, u13, gd b 14, gd b 15, gd b 16, gd b 17, gd b 18, gd b 19, gd b 20, gd b 21, gd b 22, gd b 23, gd b 24, gd b 25], []⟩
def IdxU_F1 (b : Array Value) (u0 : Value) (u1 : Value) (u7 : Value) (u8 : Value) : Act := ⟨#[u0, u1, gd b 2, gd b 3, gd b 4, gd b 5, gd b 6, u7, u8, gd b 9, gd b 10, gd b 11, gd b 12, gd b 13, gd b 14, gd b 15, gd b 16, gd b 17, gd b 18], []⟩
theorem Node_any (n : Int) (w : World) : Calls Tryd.prog 43 #[.int .i64 n] w fun e w' => e = .returned (.bool (decide (0 ≤ n ∧ n < 16))) ∧ Chg [] w w' := by
 refine calls_of_wp Tryd.func43 rfl ?_
 refine wp_seq (reg ?_)
 refine rP 0 2 (.bool false) ?_
 refine rEnd 1 rfl (nxt (wp_seq (reg ?_)))
 refine rP 0 3 (.int .i64 n) ?_
 by_cases hx1 : n ≥ (0 : Int)
 ·refine rQ 1 4 _ rfl rfl (qboolT (b := decide (n ≥ (0 : Int))) (decide_eq_true (by first | exact hx1 | omega))) ?_
  refine rP 2 5 (.bool true) ?_
  refine rP 3 6 (.int .i64 n) ?_
  by_cases hx2 : n < (16 : Int)
  ·refine rQ 4 7 _ rfl rfl (qboolT (b := decide (n < (16 : Int))) (decide_eq_true (by first | exact hx2 | omega))) ?_
   refine rP 5 8 (.bool true) ?_
   refine rP 6 2 (.bool true) ?_
   refine rEnd 7 rfl (nxt (wp_ret ?_))
   refine rt (.bool true) ?_
   exact ⟨by rw [decide_eq_true (by omega)], (Chg.refl _)⟩
  refine rQ 4 7 _ rfl rfl (qboolF (b := decide (n < (16 : Int))) (decide_eq_false (by first | exact hx2 | omega))) ?_
  refine rP 5 8 (.bool false) ?_
  refine rP 6 2 (.bool false) ?_
  refine rEnd 7 rfl (nxt (wp_ret ?_))
  refine rt (.bool false) ?_
  exact ⟨by rw [decide_eq_false (by omega)], (Chg.refl _)⟩
 refine rQ 1 4 _ rfl rfl (qboolF (b := decide (n ≥ (0 : Int))) (decide_eq_false (by first | exact hx1 | omega))) ?_
 refine rP 2 5 (.bool false) ?_
 refine rZ 3 6 ?_
 refine rZ 4 7 ?_
 refine rP 5 8 (.bool false) ?_
 refine rP 6 2 (.bool false) ?_
 refine rEnd 7 rfl (nxt (wp_ret ?_))
 refine rt (.bool false) ?_
 exact ⟨by rw [decide_eq_false (by omega)], (Chg.refl _)⟩
theorem Tagged_any (x : UInt8) (w : World) : Calls Tryd.prog 19 #[.int .u8 ((x.toNat : Nat) : Int)] w fun e w' => e = .returned (.bool (decide (x.toNat ≤ 4))) ∧ Chg [] w w' := by
 refine calls_of_wp Tryd.func19 rfl ?_
 refine wp_seq (reg ?_)
 refine rP 0 2 (.bool false) ?_
 refine rEnd 1 rfl (nxt (wp_seq (reg ?_)))
 refine rP 0 3 (.int .u8 ((x.toNat : Nat) : Int)) ?_
 by_cases hx1 : ((x.toNat : Nat) : Int) ≤ (4 : Int)
 ·refine rQ 1 4 _ rfl rfl (qboolT (b := decide (((x.toNat : Nat) : Int) ≤ (4 : Int))) (decide_eq_true (by first | exact hx1 | omega))) ?_
  refine rP 2 2 (.bool true) ?_
  refine rEnd 3 rfl (nxt (wp_ret ?_))
  refine rt (.bool true) ?_
  exact ⟨by rw [decide_eq_true (by omega)], (Chg.refl _)⟩
 refine rQ 1 4 _ rfl rfl (qboolF (b := decide (((x.toNat : Nat) : Int) ≤ (4 : Int))) (decide_eq_false (by first | exact hx1 | omega))) ?_
 refine rP 2 2 (.bool false) ?_
 refine rEnd 3 rfl (nxt (wp_ret ?_))
 refine rt (.bool false) ?_
 exact ⟨by rw [decide_eq_false (by omega)], (Chg.refl _)⟩
theorem BEqual_any (A : Option Addr) (n c : Nat) (B : Option Addr) (m d : Nat) (l x : List UInt8) (w : World) (hb : Byt w A n l) (hb2 : Byt w B m x) : Calls Tryd.prog 25 #[.slice A n c, .slice B m d] w fun e w' => e = .returned (.bool (decide (l = x))) ∧ Chg [] w w' := by
 refine calls_of_wp Tryd.func25 rfl ?_
 refine wp_seq (reg ?_)
 refine rP 0 4 (.bool false) ?_
 refine rEnd 1 rfl (nxt (wp_seq (reg ?_)))
 refine rP 0 5 (.slice A n c) ?_
 refine rQ 1 6 (.string (Mur.str l)) rfl rfl (run_str 22 9 (.tmp 5) 5 rfl Tryd.underlying22 Tryd.underlying5 Tryd.underlying9 A n c l (by kernel_rfl) hb) ?_
 refine rP 2 7 (.slice B m d) ?_
 refine rQ 3 8 (.string (Mur.str x)) rfl rfl (run_str 22 9 (.tmp 7) 5 rfl Tryd.underlying22 Tryd.underlying5 Tryd.underlying9 B m d x (by kernel_rfl) hb2) ?_
 by_cases hx1 : l = x
 ·refine rQ 4 9 _ rfl rfl (boolT (b := decide (l = x)) (decide_eq_true (hx1)) (Mur.streq 9 9 (.tmp 6) (.tmp 8) rfl l x (by kernel_rfl) (by kernel_rfl))) ?_
  refine rP 5 4 (.bool true) ?_
  refine rEnd 6 rfl (nxt (wp_ret ?_))
  refine rt (.bool true) ?_
  exact ⟨by rw [decide_eq_true hx1], (Chg.refl _)⟩
 refine rQ 4 9 _ rfl rfl (boolF (b := decide (l = x)) (decide_eq_false (hx1)) (Mur.streq 9 9 (.tmp 6) (.tmp 8) rfl l x (by kernel_rfl) (by kernel_rfl))) ?_
 refine rP 5 4 (.bool false) ?_
 refine rEnd 6 rfl (nxt (wp_ret ?_))
 refine rt (.bool false) ?_
 exact ⟨by rw [decide_eq_false hx1], (Chg.refl _)⟩
theorem EqualU_any (A : Option Addr) (n c : Nat) (B : Option Addr) (m d : Nat) (l l2 : List (Int × UInt8 × Nat)) (w : World) (hl : Mur.SlR w 3 A n (l.map updC)) (hl2 : Mur.SlR w 3 B m (l2.map updC)) (hq : ∀ x, x ∈ l → ((-9223372036854775808 ≤ x.1 ∧ x.1 ≤ 9223372036854775807) ∧ x.2.2 < 18446744073709551616)) (hq2 : ∀ x, x ∈ l2 → ((-9223372036854775808 ≤ x.1 ∧ x.1 ≤ 9223372036854775807) ∧ x.2.2 < 18446744073709551616)) (hn : n ≤ 9223372036854775807) : Calls Tryd.prog 24 #[.slice A n c, .slice B m d] w fun e w' => e = .returned (.bool (decide (l = l2))) ∧ Chg [] w w' := by
 have hll := hl.len
 have hll2 := hl2.len
 rw [List.length_map] at hll hll2
 refine calls_of_wp Tryd.func24 rfl ?_
 refine wp_seq (reg ?_)
 refine rP 0 4 (.bool false) ?_
 refine rEnd 1 rfl (nxt (wp_seq (wp_seq (reg ?_))))
 refine rP 0 6 (.slice A n c) ?_
 refine rP 1 7 (.int .i64 ((n : Nat) : Int)) ?_
 refine rP 2 8 (.slice B m d) ?_
 refine rP 3 9 (.int .i64 ((m : Nat) : Int)) ?_
 by_cases hx1 : ((n : Nat) : Int) ≠ ((m : Nat) : Int)
 ·refine rQ 4 10 _ rfl rfl (qboolT (b := (((n : Nat) : Int) != ((m : Nat) : Int))) (bne_iff_ne.2 (by first | exact hx1 | omega))) ?_
  refine rEnd 5 rfl (nxt (wp_cond_true (by kernel_rfl) (wp_seq (reg ?_))))
  refine rP 0 4 (.bool false) ?_
  refine rEnd 1 rfl (nxt (wp_ret (thR ?_)))
  refine rt (.bool false) ?_
  exact ⟨by rw [decide_eq_false (fun e_ => by have h_ := congrArg List.length e_; omega)], (Chg.refl _)⟩
 refine rQ 4 10 _ rfl rfl (qboolF (b := (((n : Nat) : Int) != ((m : Nat) : Int))) (bne_eq_false_iff_eq.2 (by first | exact hx1 | omega))) ?_
 refine rEnd 5 rfl (nxt (wp_cond_false (by kernel_rfl) (wp_skip (nxt (wp_seq (wp_seq (reg ?_)))))))
 refine rP 0 11 (.slice A n c) ?_
 refine rP 1 12 (.int .i64 ((n : Nat) : Int)) ?_
 refine rP 2 13 (.int .i64 0) ?_
 refine rEnd 3 rfl (nxt (wp_block ?_))
 refine Wk.loop (fun m_ a wr => ∃ (i : Nat), m_ = n - i ∧ a = EqU_F1 a.tmps (.slice A n c) (.slice B m d) (.int .i64 ((n : Nat) : Int)) (.int .i64 ((i : Nat) : Int)) ∧ i ≤ n ∧ l.take i = l2.take i ∧ Chg [] w wr) (n - 0) ?_ ?_
 ·refine ⟨0, rfl, by kernel_rfl, (by omega), rfl, (Chg.refl _)⟩
 rintro mm1 aa1 W1 ⟨i, hmm1, hF1, hi, htk, HB⟩
 generalize aa1.tmps = bb1 at hF1
 subst hF1
 have hzB := HB.size
 by_cases hlt : i < n
 ·obtain ⟨x, hx⟩ : ∃ x_, l[i]? = some x_ := ⟨_, List.getElem?_eq_getElem (by omega)⟩
  obtain ⟨g1, o1, hA_, hr1⟩ := hl.row (map_at updC hx) (by decide)
  subst hA_
  obtain ⟨y, hy⟩ : ∃ x_, l2[i]? = some x_ := ⟨_, List.getElem?_eq_getElem (by omega)⟩
  obtain ⟨g2, o2, hA_, hr2⟩ := hl2.row (map_at updC hy) (by decide)
  subst hA_
  refine wp_seq (reg ?_)
  refine rQ 0 14 _ rfl rfl (qboolT (b := decide (((i : Nat) : Int) < ((n : Nat) : Int))) (decide_eq_true (by omega))) ?_
  refine rEnd 1 rfl (nxt (wp_seq (wp_cond_true (by kernel_rfl) (wp_skip (nxt (wp_seq (wp_block (wp_seq (reg ?_)))))))))
  refine rP 0 15 (.int .i64 ((i : Nat) : Int)) ?_
  refine rP 1 5 (.int .i64 ((i : Nat) : Int)) ?_
  refine rEnd 2 rfl (nxt (wp_seq ?_))
  refine dReg ([]) (by kernel_rfl) ?_
  intro W2 ch1 sz1
  have zz1 := ch1.size
  have sS1 : Chg ([]) W2 W2 := (Chg.refl _).more (by simp)
  refine dW 0 16 (.slice (some ⟨g1, o1, none⟩) n c) sS1 ?_
  refine dW 1 17 (.int .i64 ((i : Nat) : Int)) sS1 ?_
  refine dV 2 18 (pt g1 (o1 + i * 3)) rfl rfl (fun w' hw' => (index_sl 25 66 (.tmp 16) (.tmp 17) rfl Tryd.underlying25 3 (by kernel_rfl) g1 o1 n c i .i64 (by kernel_rfl) (by kernel_rfl) (by omega))) sS1 ?_
  have kk1 := Chg.step HB ch1 trivial
  refine dV 3 19 (.agg ((updC x).toArray)) rfl rfl (fun w' hw' => (loadR 66 (.tmp 18) rfl _ Tryd.underlying66 rfl g1 (o1 + i * 3) (by kernel_rfl) (updC x) (by kernel_rfl) (Chg.range hw' (Chg.range kk1 hr1 trivial) trivial))) sS1 ?_
  refine dW 4 20 (.slice (some ⟨g2, o2, none⟩) m d) sS1 ?_
  refine dW 5 21 (.int .i64 ((i : Nat) : Int)) sS1 ?_
  refine dV 6 22 (pt g2 (o2 + i * 3)) rfl rfl (fun w' hw' => (index_sl 25 66 (.tmp 20) (.tmp 21) rfl Tryd.underlying25 3 (by kernel_rfl) g2 o2 m d i .i64 (by kernel_rfl) (by kernel_rfl) (by omega))) sS1 ?_
  refine dV 7 23 (.agg ((updC y).toArray)) rfl rfl (fun w' hw' => (loadR 66 (.tmp 22) rfl _ Tryd.underlying66 rfl g2 (o2 + i * 3) (by kernel_rfl) (updC y) (by kernel_rfl) (Chg.range hw' (Chg.range kk1 hr2 trivial) trivial))) sS1 ?_
  by_cases hxy : x = y
  ·refine dV 8 24 (.bool false) rfl rfl (fun w' hw' => (boolF (b := !decide (x = y)) (by rw [decide_eq_true (hxy)]; rfl) (run_neq_upd (.tmp 19) (.tmp 23) 66 rfl (wf64 (hq x (List.mem_of_getElem? hx)).1.1 (hq x (List.mem_of_getElem? hx)).1.2) (wf64 (hq2 y (List.mem_of_getElem? hy)).1.1 (hq2 y (List.mem_of_getElem? hy)).1.2) (hq x (List.mem_of_getElem? hx)).2 (hq2 y (List.mem_of_getElem? hy)).2 (by kernel_rfl) (by kernel_rfl)))) sS1 ?_
   refine dEnd (by kernel_rfl) (nxt (wp_cond_false (by kernel_rfl) (wp_skip (inN (nxt (reg ?_))))))
   refine rQ 0 25 _ rfl rfl (qint64 (n := ((i : Nat) : Int) + 1) (z := ((i + 1 : Nat) : Int)) (by omega) (by omega) (by omega)) ?_
   refine rP 1 13 (.int .i64 ((i + 1 : Nat) : Int)) ?_
   refine rEnd 2 rfl (nxt ?_)
   refine ⟨_, ?_, i + 1, rfl, by kernel_rfl, (by omega), (by rw [take_sn hx, take_sn hy, htk, hxy]), kk1⟩
   omega
  refine dV 8 24 (.bool true) rfl rfl (fun w' hw' => (boolT (b := !decide (x = y)) (by rw [decide_eq_false (hxy)]; rfl) (run_neq_upd (.tmp 19) (.tmp 23) 66 rfl (wf64 (hq x (List.mem_of_getElem? hx)).1.1 (hq x (List.mem_of_getElem? hx)).1.2) (wf64 (hq2 y (List.mem_of_getElem? hy)).1.1 (hq2 y (List.mem_of_getElem? hy)).1.2) (hq x (List.mem_of_getElem? hx)).2 (hq2 y (List.mem_of_getElem? hy)).2 (by kernel_rfl) (by kernel_rfl)))) sS1 ?_
  refine dEnd (by kernel_rfl) (nxt (wp_cond_true (by kernel_rfl) (wp_seq (reg ?_))))
  refine rP 0 4 (.bool false) ?_
  refine rEnd 1 rfl (nxt (wp_ret (inR (thR (thR (inR (thR ?_)))))))
  refine rt (.bool false) ?_
  exact ⟨by rw [decide_eq_false (fun e_ => hxy (Option.some.inj (by rw [← hx, ← hy, e_])))], kk1⟩
 rw [List.take_of_length_le (show l.length ≤ i by omega), List.take_of_length_le (show l2.length ≤ i by omega)] at htk
 refine wp_seq (reg ?_)
 refine rQ 0 14 _ rfl rfl (qboolF (b := decide (((i : Nat) : Int) < ((n : Nat) : Int))) (decide_eq_false (by omega))) ?_
 refine rEnd 1 rfl (nxt (wp_seq (wp_cond_false (by kernel_rfl) (wp_exit (thX (thX (inX (nxt (wp_seq (reg ?_))))))))))
 refine rP 0 4 (.bool true) ?_
 refine rEnd 1 rfl (nxt (wp_ret ?_))
 refine rt (.bool true) ?_
 exact ⟨by rw [decide_eq_true htk], HB⟩
theorem EqualA_any (A : Option Addr) (n c : Nat) (B : Option Addr) (m d : Nat) (l l2 : List (Att)) (w : World) (hl : Mur.SlR w 97 A n (l.map attL)) (hl2 : Mur.SlR w 97 B m (l2.map attL)) (_hq : ∀ x, x ∈ l → True) (_hq2 : ∀ x, x ∈ l2 → True) (hn : n ≤ 9223372036854775807) : Calls Tryd.prog 26 #[.slice A n c, .slice B m d] w fun e w' => e = .returned (.bool (decide (l = l2))) ∧ Chg [] w w' := by
 have hll := hl.len
 have hll2 := hl2.len
 rw [List.length_map] at hll hll2
 refine calls_of_wp Tryd.func26 rfl ?_
 refine wp_seq (reg ?_)
 refine rP 0 4 (.bool false) ?_
 refine rEnd 1 rfl (nxt (wp_seq (wp_seq (reg ?_))))
 refine rP 0 6 (.slice A n c) ?_
 refine rP 1 7 (.int .i64 ((n : Nat) : Int)) ?_
 refine rP 2 8 (.slice B m d) ?_
 refine rP 3 9 (.int .i64 ((m : Nat) : Int)) ?_
 by_cases hx1 : ((n : Nat) : Int) ≠ ((m : Nat) : Int)
 ·refine rQ 4 10 _ rfl rfl (qboolT (b := (((n : Nat) : Int) != ((m : Nat) : Int))) (bne_iff_ne.2 (by first | exact hx1 | omega))) ?_
  refine rEnd 5 rfl (nxt (wp_cond_true (by kernel_rfl) (wp_seq (reg ?_))))
  refine rP 0 4 (.bool false) ?_
  refine rEnd 1 rfl (nxt (wp_ret (thR ?_)))
  refine rt (.bool false) ?_
  exact ⟨by rw [decide_eq_false (fun e_ => by have h_ := congrArg List.length e_; omega)], (Chg.refl _)⟩
 refine rQ 4 10 _ rfl rfl (qboolF (b := (((n : Nat) : Int) != ((m : Nat) : Int))) (bne_eq_false_iff_eq.2 (by first | exact hx1 | omega))) ?_
 refine rEnd 5 rfl (nxt (wp_cond_false (by kernel_rfl) (wp_skip (nxt (wp_seq (wp_seq (reg ?_)))))))
 refine rP 0 11 (.slice A n c) ?_
 refine rP 1 12 (.int .i64 ((n : Nat) : Int)) ?_
 refine rP 2 13 (.int .i64 0) ?_
 refine rEnd 3 rfl (nxt (wp_block ?_))
 refine Wk.loop (fun m_ a wr => ∃ (i : Nat), m_ = n - i ∧ a = EqA_F1 a.tmps (.slice A n c) (.slice B m d) (.int .i64 ((n : Nat) : Int)) (.int .i64 ((i : Nat) : Int)) ∧ i ≤ n ∧ l.take i = l2.take i ∧ Chg [] w wr) (n - 0) ?_ ?_
 ·refine ⟨0, rfl, by kernel_rfl, (by omega), rfl, (Chg.refl _)⟩
 rintro mm1 aa1 W1 ⟨i, hmm1, hF1, hi, htk, HB⟩
 generalize aa1.tmps = bb1 at hF1
 subst hF1
 have hzB := HB.size
 by_cases hlt : i < n
 ·obtain ⟨x, hx⟩ : ∃ x_, l[i]? = some x_ := ⟨_, List.getElem?_eq_getElem (by omega)⟩
  obtain ⟨g1, o1, hA_, hr1⟩ := hl.row (map_at attL hx) (by decide)
  subst hA_
  obtain ⟨y, hy⟩ : ∃ x_, l2[i]? = some x_ := ⟨_, List.getElem?_eq_getElem (by omega)⟩
  obtain ⟨g2, o2, hA_, hr2⟩ := hl2.row (map_at attL hy) (by decide)
  subst hA_
  refine wp_seq (reg ?_)
  refine rQ 0 14 _ rfl rfl (qboolT (b := decide (((i : Nat) : Int) < ((n : Nat) : Int))) (decide_eq_true (by omega))) ?_
  refine rEnd 1 rfl (nxt (wp_seq (wp_cond_true (by kernel_rfl) (wp_skip (nxt (wp_seq (wp_block (wp_seq (reg ?_)))))))))
  refine rP 0 15 (.int .i64 ((i : Nat) : Int)) ?_
  refine rP 1 5 (.int .i64 ((i : Nat) : Int)) ?_
  refine rEnd 2 rfl (nxt (wp_seq ?_))
  refine dReg ([]) (by kernel_rfl) ?_
  intro W2 ch1 sz1
  have zz1 := ch1.size
  have sS1 : Chg ([]) W2 W2 := (Chg.refl _).more (by simp)
  refine dW 0 16 (.slice (some ⟨g1, o1, none⟩) n c) sS1 ?_
  refine dW 1 17 (.int .i64 ((i : Nat) : Int)) sS1 ?_
  refine dV 2 18 (pt g1 (o1 + i * 97)) rfl rfl (fun w' hw' => (index_sl 30 36 (.tmp 16) (.tmp 17) rfl Tryd.underlying30 97 (by kernel_rfl) g1 o1 n c i .i64 (by kernel_rfl) (by kernel_rfl) (by omega))) sS1 ?_
  have kk1 := Chg.step HB ch1 trivial
  refine dV 3 19 (.agg ((attL x).toArray)) rfl rfl (fun w' hw' => (loadR 36 (.tmp 18) rfl _ Tryd.underlying36 rfl g1 (o1 + i * 97) (by kernel_rfl) (attL x) (by rw [attL_len x]; kernel_rfl) (Chg.range hw' (Chg.range kk1 hr1 trivial) trivial))) sS1 ?_
  refine dW 4 20 (.slice (some ⟨g2, o2, none⟩) m d) sS1 ?_
  refine dW 5 21 (.int .i64 ((i : Nat) : Int)) sS1 ?_
  refine dV 6 22 (pt g2 (o2 + i * 97)) rfl rfl (fun w' hw' => (index_sl 30 36 (.tmp 20) (.tmp 21) rfl Tryd.underlying30 97 (by kernel_rfl) g2 o2 m d i .i64 (by kernel_rfl) (by kernel_rfl) (by omega))) sS1 ?_
  refine dV 7 23 (.agg ((attL y).toArray)) rfl rfl (fun w' hw' => (loadR 36 (.tmp 22) rfl _ Tryd.underlying36 rfl g2 (o2 + i * 97) (by kernel_rfl) (attL y) (by rw [attL_len y]; kernel_rfl) (Chg.range hw' (Chg.range kk1 hr2 trivial) trivial))) sS1 ?_
  by_cases hxy : x = y
  ·refine dV 8 24 (.bool false) rfl rfl (fun w' hw' => (boolF (b := !decide (x.k = y.k ∧ x.r = y.r ∧ x.n = y.n ∧ x.t = y.t)) (by rw [decide_eq_true ((Mur.Att.eq_iff x y).1 hxy)]; rfl) (run_neq_att (.tmp 19) (.tmp 23) 36 rfl x.hk x.hr x.ht y.hk y.hr y.ht x.hn y.hn (by kernel_rfl) (by kernel_rfl)))) sS1 ?_
   refine dEnd (by kernel_rfl) (nxt (wp_cond_false (by kernel_rfl) (wp_skip (inN (nxt (reg ?_))))))
   refine rQ 0 25 _ rfl rfl (qint64 (n := ((i : Nat) : Int) + 1) (z := ((i + 1 : Nat) : Int)) (by omega) (by omega) (by omega)) ?_
   refine rP 1 13 (.int .i64 ((i + 1 : Nat) : Int)) ?_
   refine rEnd 2 rfl (nxt ?_)
   refine ⟨_, ?_, i + 1, rfl, by kernel_rfl, (by omega), (by rw [take_sn hx, take_sn hy, htk, hxy]), kk1⟩
   omega
  refine dV 8 24 (.bool true) rfl rfl (fun w' hw' => (boolT (b := !decide (x.k = y.k ∧ x.r = y.r ∧ x.n = y.n ∧ x.t = y.t)) (by rw [decide_eq_false (fun q_ => hxy ((Mur.Att.eq_iff x y).2 q_))]; rfl) (run_neq_att (.tmp 19) (.tmp 23) 36 rfl x.hk x.hr x.ht y.hk y.hr y.ht x.hn y.hn (by kernel_rfl) (by kernel_rfl)))) sS1 ?_
  refine dEnd (by kernel_rfl) (nxt (wp_cond_true (by kernel_rfl) (wp_seq (reg ?_))))
  refine rP 0 4 (.bool false) ?_
  refine rEnd 1 rfl (nxt (wp_ret (inR (thR (thR (inR (thR ?_)))))))
  refine rt (.bool false) ?_
  exact ⟨by rw [decide_eq_false (fun e_ => hxy (Option.some.inj (by rw [← hx, ← hy, e_])))], kk1⟩
 rw [List.take_of_length_le (show l.length ≤ i by omega), List.take_of_length_le (show l2.length ≤ i by omega)] at htk
 refine wp_seq (reg ?_)
 refine rQ 0 14 _ rfl rfl (qboolF (b := decide (((i : Nat) : Int) < ((n : Nat) : Int))) (decide_eq_false (by omega))) ?_
 refine rEnd 1 rfl (nxt (wp_seq (wp_cond_false (by kernel_rfl) (wp_exit (thX (thX (inX (nxt (wp_seq (reg ?_))))))))))
 refine rP 0 4 (.bool true) ?_
 refine rEnd 1 rfl (nxt (wp_ret ?_))
 refine rt (.bool true) ?_
 exact ⟨by rw [decide_eq_true htk], HB⟩
theorem EqualD_any (A : Option Addr) (n c : Nat) (B : Option Addr) (m d : Nat) (l l2 : List (List UInt8)) (w : World) (hl : Mur.SlR w 32 A n (l.map b8s)) (hl2 : Mur.SlR w 32 B m (l2.map b8s)) (hq : ∀ x, x ∈ l → x.length = 32) (hq2 : ∀ x, x ∈ l2 → x.length = 32) (hn : n ≤ 9223372036854775807) : Calls Tryd.prog 27 #[.slice A n c, .slice B m d] w fun e w' => e = .returned (.bool (decide (l = l2))) ∧ Chg [] w w' := by
 have hll := hl.len
 have hll2 := hl2.len
 rw [List.length_map] at hll hll2
 refine calls_of_wp Tryd.func27 rfl ?_
 refine wp_seq (reg ?_)
 refine rP 0 4 (.bool false) ?_
 refine rEnd 1 rfl (nxt (wp_seq (wp_seq (reg ?_))))
 refine rP 0 6 (.slice A n c) ?_
 refine rP 1 7 (.int .i64 ((n : Nat) : Int)) ?_
 refine rP 2 8 (.slice B m d) ?_
 refine rP 3 9 (.int .i64 ((m : Nat) : Int)) ?_
 by_cases hx1 : ((n : Nat) : Int) ≠ ((m : Nat) : Int)
 ·refine rQ 4 10 _ rfl rfl (qboolT (b := (((n : Nat) : Int) != ((m : Nat) : Int))) (bne_iff_ne.2 (by first | exact hx1 | omega))) ?_
  refine rEnd 5 rfl (nxt (wp_cond_true (by kernel_rfl) (wp_seq (reg ?_))))
  refine rP 0 4 (.bool false) ?_
  refine rEnd 1 rfl (nxt (wp_ret (thR ?_)))
  refine rt (.bool false) ?_
  exact ⟨by rw [decide_eq_false (fun e_ => by have h_ := congrArg List.length e_; omega)], (Chg.refl _)⟩
 refine rQ 4 10 _ rfl rfl (qboolF (b := (((n : Nat) : Int) != ((m : Nat) : Int))) (bne_eq_false_iff_eq.2 (by first | exact hx1 | omega))) ?_
 refine rEnd 5 rfl (nxt (wp_cond_false (by kernel_rfl) (wp_skip (nxt (wp_seq (wp_seq (reg ?_)))))))
 refine rP 0 11 (.slice A n c) ?_
 refine rP 1 12 (.int .i64 ((n : Nat) : Int)) ?_
 refine rP 2 13 (.int .i64 0) ?_
 refine rEnd 3 rfl (nxt (wp_block ?_))
 refine Wk.loop (fun m_ a wr => ∃ (i : Nat), m_ = n - i ∧ a = EqD_F1 a.tmps (.slice A n c) (.slice B m d) (.int .i64 ((n : Nat) : Int)) (.int .i64 ((i : Nat) : Int)) ∧ i ≤ n ∧ l.take i = l2.take i ∧ Chg [] w wr) (n - 0) ?_ ?_
 ·refine ⟨0, rfl, by kernel_rfl, (by omega), rfl, (Chg.refl _)⟩
 rintro mm1 aa1 W1 ⟨i, hmm1, hF1, hi, htk, HB⟩
 generalize aa1.tmps = bb1 at hF1
 subst hF1
 have hzB := HB.size
 by_cases hlt : i < n
 ·obtain ⟨x, hx⟩ : ∃ x_, l[i]? = some x_ := ⟨_, List.getElem?_eq_getElem (by omega)⟩
  obtain ⟨g1, o1, hA_, hr1⟩ := hl.row (map_at b8s hx) (by decide)
  subst hA_
  obtain ⟨y, hy⟩ : ∃ x_, l2[i]? = some x_ := ⟨_, List.getElem?_eq_getElem (by omega)⟩
  obtain ⟨g2, o2, hA_, hr2⟩ := hl2.row (map_at b8s hy) (by decide)
  subst hA_
  refine wp_seq (reg ?_)
  refine rQ 0 14 _ rfl rfl (qboolT (b := decide (((i : Nat) : Int) < ((n : Nat) : Int))) (decide_eq_true (by omega))) ?_
  refine rEnd 1 rfl (nxt (wp_seq (wp_cond_true (by kernel_rfl) (wp_skip (nxt (wp_seq (wp_block (wp_seq (reg ?_)))))))))
  refine rP 0 15 (.int .i64 ((i : Nat) : Int)) ?_
  refine rP 1 5 (.int .i64 ((i : Nat) : Int)) ?_
  refine rEnd 2 rfl (nxt (wp_seq ?_))
  refine dReg ([]) (by kernel_rfl) ?_
  intro W2 ch1 sz1
  have zz1 := ch1.size
  have sS1 : Chg ([]) W2 W2 := (Chg.refl _).more (by simp)
  refine dW 0 16 (.slice (some ⟨g1, o1, none⟩) n c) sS1 ?_
  refine dW 1 17 (.int .i64 ((i : Nat) : Int)) sS1 ?_
  refine dV 2 18 (pt g1 (o1 + i * 32)) rfl rfl (fun w' hw' => (index_sl 37 29 (.tmp 16) (.tmp 17) rfl Tryd.underlying37 32 (by kernel_rfl) g1 o1 n c i .i64 (by kernel_rfl) (by kernel_rfl) (by omega))) sS1 ?_
  have kk1 := Chg.step HB ch1 trivial
  refine dV 3 19 (.agg ((b8s x).toArray)) rfl rfl (fun w' hw' => (loadR 29 (.tmp 18) rfl _ Tryd.underlying29 rfl g1 (o1 + i * 32) (by kernel_rfl) (b8s x) (by rw [b8s_length, hq x (List.mem_of_getElem? hx)]; kernel_rfl) (Chg.range hw' (Chg.range kk1 hr1 trivial) trivial))) sS1 ?_
  refine dW 4 20 (.slice (some ⟨g2, o2, none⟩) m d) sS1 ?_
  refine dW 5 21 (.int .i64 ((i : Nat) : Int)) sS1 ?_
  refine dV 6 22 (pt g2 (o2 + i * 32)) rfl rfl (fun w' hw' => (index_sl 37 29 (.tmp 20) (.tmp 21) rfl Tryd.underlying37 32 (by kernel_rfl) g2 o2 m d i .i64 (by kernel_rfl) (by kernel_rfl) (by omega))) sS1 ?_
  refine dV 7 23 (.agg ((b8s y).toArray)) rfl rfl (fun w' hw' => (loadR 29 (.tmp 22) rfl _ Tryd.underlying29 rfl g2 (o2 + i * 32) (by kernel_rfl) (b8s y) (by rw [b8s_length, hq2 y (List.mem_of_getElem? hy)]; kernel_rfl) (Chg.range hw' (Chg.range kk1 hr2 trivial) trivial))) sS1 ?_
  by_cases hxy : x = y
  ·refine dV 8 24 (.bool false) rfl rfl (fun w' hw' => (boolF (b := !decide (x = y)) (by rw [decide_eq_true (hxy)]; rfl) (run_neq_dg digT x y (hq x (List.mem_of_getElem? hx)) (hq2 y (List.mem_of_getElem? hy)) _ (.tmp 19) (.tmp 23) 29 rfl (by kernel_rfl) (by kernel_rfl)))) sS1 ?_
   refine dEnd (by kernel_rfl) (nxt (wp_cond_false (by kernel_rfl) (wp_skip (inN (nxt (reg ?_))))))
   refine rQ 0 25 _ rfl rfl (qint64 (n := ((i : Nat) : Int) + 1) (z := ((i + 1 : Nat) : Int)) (by omega) (by omega) (by omega)) ?_
   refine rP 1 13 (.int .i64 ((i + 1 : Nat) : Int)) ?_
   refine rEnd 2 rfl (nxt ?_)
   refine ⟨_, ?_, i + 1, rfl, by kernel_rfl, (by omega), (by rw [take_sn hx, take_sn hy, htk, hxy]), kk1⟩
   omega
  refine dV 8 24 (.bool true) rfl rfl (fun w' hw' => (boolT (b := !decide (x = y)) (by rw [decide_eq_false (hxy)]; rfl) (run_neq_dg digT x y (hq x (List.mem_of_getElem? hx)) (hq2 y (List.mem_of_getElem? hy)) _ (.tmp 19) (.tmp 23) 29 rfl (by kernel_rfl) (by kernel_rfl)))) sS1 ?_
  refine dEnd (by kernel_rfl) (nxt (wp_cond_true (by kernel_rfl) (wp_seq (reg ?_))))
  refine rP 0 4 (.bool false) ?_
  refine rEnd 1 rfl (nxt (wp_ret (inR (thR (thR (inR (thR ?_)))))))
  refine rt (.bool false) ?_
  exact ⟨by rw [decide_eq_false (fun e_ => hxy (Option.some.inj (by rw [← hx, ← hy, e_])))], kk1⟩
 rw [List.take_of_length_le (show l.length ≤ i by omega), List.take_of_length_le (show l2.length ≤ i by omega)] at htk
 refine wp_seq (reg ?_)
 refine rQ 0 14 _ rfl rfl (qboolF (b := decide (((i : Nat) : Int) < ((n : Nat) : Int))) (decide_eq_false (by omega))) ?_
 refine rEnd 1 rfl (nxt (wp_seq (wp_cond_false (by kernel_rfl) (wp_exit (thX (thX (inX (nxt (wp_seq (reg ?_))))))))))
 refine rP 0 4 (.bool true) ?_
 refine rEnd 1 rfl (nxt (wp_ret ?_))
 refine rt (.bool true) ?_
 exact ⟨by rw [decide_eq_true htk], HB⟩
theorem Prb1_any (u : Int × UInt8 × Nat) (w : World) : Calls Tryd.prog 69 #[.agg (updC u).toArray] w fun e w' => ∃ v, e = .returned (.bool v) ∧ (v = true ↔ ¬ Mur.goodU u) ∧ Chg [] w w' := by
 have hu8_ := u.2.1.toNat_lt
 refine calls_of_wp Tryd.func69 rfl ?_
 refine wp_seq (reg ?_)
 refine rX 0 1 rfl rfl (new_ex (pt w.heap.size 0) #[.int .i64 u.1, .int .u8 ((u.2.1.toNat : Nat) : Int), .int .u64 ((u.2.2 : Nat) : Int)] 66 (by kernel_rfl)) ?_
 rintro _ W1 ⟨rfl, hb1, ch1, sz1⟩
 have zz1 := ch1.size
 refine rP 1 2 (.bool false) ?_
 refine rEnd 2 rfl (nxt (wp_seq (reg ?_)))
 refine rP 0 3 (pt w.heap.size 0) ?_
 refine rQ 1 4 _ rfl rfl (ld 3 3 w.heap.size 0 (.int .i64 u.1) ((cell_of_row _ _ 0 _ _ _ hb1).trans rfl)) ?_
 refine rC 2 5 43 [.tmp 4] #[3] [.int .i64 u.1] ?_
 refine (Node_any u.1 W1).mono ?_
 by_cases hpr1 : (0 : Int) ≤ u.1 ∧ u.1 < (16 : Int)
 ·rw [decide_eq_true hpr1]
  rintro _ W2 ⟨rfl, ch2⟩
  have zz2 := ch2.size
  refine ⟨_, rfl, ?_⟩
  refine rP 3 6 (.bool false) ?_
  refine rP 4 7 (.bool false) ?_
  refine rP 5 8 (pt w.heap.size 1) ?_
  refine rQ 6 9 _ rfl rfl (ld 5 8 w.heap.size 1 (.int .u8 ((u.2.1.toNat : Nat) : Int)) ((cell_of_row _ _ 1 _ _ _ (Chg.hp ch2 hb1 trivial)).trans rfl)) ?_
  by_cases hx1 : ((u.2.1.toNat : Nat) : Int) < (1 : Int)
  ·refine rQ 7 10 _ rfl rfl (qboolT (b := decide (((u.2.1.toNat : Nat) : Int) < (1 : Int))) (decide_eq_true (by first | exact hx1 | omega))) ?_
   refine rP 8 11 (.bool true) ?_
   refine rP 9 12 (.bool true) ?_
   refine rZ 10 13 ?_
   refine rZ 11 14 ?_
   refine rZ 12 15 ?_
   refine rP 13 16 (.bool true) ?_
   refine rP 14 17 (.bool true) ?_
   refine rZ 15 18 ?_
   refine rZ 16 19 ?_
   refine rZ 17 20 ?_
   refine rP 18 21 (.bool true) ?_
   refine rP 19 2 (.bool true) ?_
   refine rEnd 20 rfl (nxt (wp_ret ?_))
   have kk1 : Chg [] w W1 := Chg.step ((Chg.refl _).more (by simp)) ch1 trivial
   have kk2 := Chg.step kk1 ch2 trivial
   refine rt (.bool true) ?_
   exact ⟨_, rfl, ⟨fun _ h_ => (by unfold Mur.goodU at h_; omega), fun _ => rfl⟩, kk2⟩
  refine rQ 7 10 _ rfl rfl (qboolF (b := decide (((u.2.1.toNat : Nat) : Int) < (1 : Int))) (decide_eq_false (by first | exact hx1 | omega))) ?_
  refine rP 8 11 (.bool false) ?_
  refine rP 9 12 (.bool false) ?_
  refine rP 10 13 (pt w.heap.size 1) ?_
  refine rQ 11 14 _ rfl rfl (ld 5 13 w.heap.size 1 (.int .u8 ((u.2.1.toNat : Nat) : Int)) ((cell_of_row _ _ 1 _ _ _ (Chg.hp ch2 hb1 trivial)).trans rfl)) ?_
  by_cases hx2 : ((u.2.1.toNat : Nat) : Int) > (3 : Int)
  ·refine rQ 12 15 _ rfl rfl (qboolT (b := decide (((u.2.1.toNat : Nat) : Int) > (3 : Int))) (decide_eq_true (by first | exact hx2 | omega))) ?_
   refine rP 13 16 (.bool true) ?_
   refine rP 14 17 (.bool true) ?_
   refine rZ 15 18 ?_
   refine rZ 16 19 ?_
   refine rZ 17 20 ?_
   refine rP 18 21 (.bool true) ?_
   refine rP 19 2 (.bool true) ?_
   refine rEnd 20 rfl (nxt (wp_ret ?_))
   have kk3 : Chg [] w W1 := Chg.step ((Chg.refl _).more (by simp)) ch1 trivial
   have kk4 := Chg.step kk3 ch2 trivial
   refine rt (.bool true) ?_
   exact ⟨_, rfl, ⟨fun _ h_ => (by unfold Mur.goodU at h_; omega), fun _ => rfl⟩, kk4⟩
  refine rQ 12 15 _ rfl rfl (qboolF (b := decide (((u.2.1.toNat : Nat) : Int) > (3 : Int))) (decide_eq_false (by first | exact hx2 | omega))) ?_
  refine rP 13 16 (.bool false) ?_
  refine rP 14 17 (.bool false) ?_
  refine rP 15 18 (pt w.heap.size 2) ?_
  refine rQ 16 19 _ rfl rfl (ld 24 18 w.heap.size 2 (.int .u64 ((u.2.2 : Nat) : Int)) ((cell_of_row _ _ 2 _ _ _ (Chg.hp ch2 hb1 trivial)).trans rfl)) ?_
  by_cases hx3 : ((u.2.2 : Nat) : Int) > (1099511627776 : Int)
  ·refine rQ 17 20 _ rfl rfl (qboolT (b := decide (((u.2.2 : Nat) : Int) > (1099511627776 : Int))) (decide_eq_true (by first | exact hx3 | omega))) ?_
   refine rP 18 21 (.bool true) ?_
   refine rP 19 2 (.bool true) ?_
   refine rEnd 20 rfl (nxt (wp_ret ?_))
   have kk5 : Chg [] w W1 := Chg.step ((Chg.refl _).more (by simp)) ch1 trivial
   have kk6 := Chg.step kk5 ch2 trivial
   refine rt (.bool true) ?_
   exact ⟨_, rfl, ⟨fun _ h_ => (by unfold Mur.goodU at h_; omega), fun _ => rfl⟩, kk6⟩
  refine rQ 17 20 _ rfl rfl (qboolF (b := decide (((u.2.2 : Nat) : Int) > (1099511627776 : Int))) (decide_eq_false (by first | exact hx3 | omega))) ?_
  refine rP 18 21 (.bool false) ?_
  refine rP 19 2 (.bool false) ?_
  refine rEnd 20 rfl (nxt (wp_ret ?_))
  have kk7 : Chg [] w W1 := Chg.step ((Chg.refl _).more (by simp)) ch1 trivial
  have kk8 := Chg.step kk7 ch2 trivial
  refine rt (.bool false) ?_
  exact ⟨_, rfl, ⟨fun h_ => (by cases h_), fun h_ => absurd (show Mur.goodU u by unfold Mur.goodU; omega) h_⟩, kk8⟩
 rw [decide_eq_false hpr1]
 rintro _ W3 ⟨rfl, ch3⟩
 have zz3 := ch3.size
 refine ⟨_, rfl, ?_⟩
 refine rP 3 6 (.bool true) ?_
 refine rP 4 7 (.bool true) ?_
 refine rZ 5 8 ?_
 refine rZ 6 9 ?_
 refine rZ 7 10 ?_
 refine rP 8 11 (.bool true) ?_
 refine rP 9 12 (.bool true) ?_
 refine rZ 10 13 ?_
 refine rZ 11 14 ?_
 refine rZ 12 15 ?_
 refine rP 13 16 (.bool true) ?_
 refine rP 14 17 (.bool true) ?_
 refine rZ 15 18 ?_
 refine rZ 16 19 ?_
 refine rZ 17 20 ?_
 refine rP 18 21 (.bool true) ?_
 refine rP 19 2 (.bool true) ?_
 refine rEnd 20 rfl (nxt (wp_ret ?_))
 have kk9 : Chg [] w W1 := Chg.step ((Chg.refl _).more (by simp)) ch1 trivial
 have kk10 := Chg.step kk9 ch3 trivial
 refine rt (.bool true) ?_
 exact ⟨_, rfl, ⟨fun _ h_ => (by unfold Mur.goodU at h_; omega), fun _ => rfl⟩, kk10⟩
theorem IndexU_any (A : Option Addr) (n c : Nat) (l : List (Int × UInt8 × Nat)) (w : World) (hl : Mur.SlR w 3 A n (l.map updC)) (hn : n ≤ 9223372036854775807) : Calls Tryd.prog 87 #[.slice A n c, .func (.func 69) #[] #[]] w fun e w' => ∃ r : Int, e = .returned (.int .i64 r) ∧ (0 ≤ r ↔ ∃ y, y ∈ l ∧ ¬ Mur.goodU y) ∧ Chg [] w w' := by
 have hll := hl.len
 rw [List.length_map] at hll
 refine calls_of_wp Tryd.func87 rfl ?_
 refine wp_seq (reg ?_)
 refine rP 0 4 (.int .i64 0) ?_
 refine rEnd 1 rfl (nxt (wp_seq (wp_seq (reg ?_))))
 refine rP 0 6 (.slice A n c) ?_
 refine rP 1 7 (.int .i64 ((n : Nat) : Int)) ?_
 refine rP 2 8 (.int .i64 0) ?_
 refine rEnd 3 rfl (nxt (wp_block ?_))
 refine Wk.loop (fun m_ a wr => ∃ (i : Nat), m_ = n - i ∧ a = IdxU_F1 a.tmps (.slice A n c) (.func (.func 69) #[] #[]) (.int .i64 ((n : Nat) : Int)) (.int .i64 ((i : Nat) : Int)) ∧ i ≤ n ∧ (∀ y, y ∈ l.take i → Mur.goodU y) ∧ Chg [] w wr) (n - 0) ?_ ?_
 ·refine ⟨0, rfl, by kernel_rfl, (by omega), (by simp), (Chg.refl _)⟩
 rintro mm1 aa1 W1 ⟨i, hmm1, hF1, hi, hall, HB⟩
 generalize aa1.tmps = bb1 at hF1
 subst hF1
 have hzB := HB.size
 by_cases hlt : i < n
 ·obtain ⟨x, hx⟩ : ∃ x_, l[i]? = some x_ := ⟨_, List.getElem?_eq_getElem (by omega)⟩
  obtain ⟨g1, o1, hA_, hr1⟩ := hl.row (map_at updC hx) (by decide)
  subst hA_
  refine wp_seq (reg ?_)
  refine rQ 0 9 _ rfl rfl (qboolT (b := decide (((i : Nat) : Int) < ((n : Nat) : Int))) (decide_eq_true (by omega))) ?_
  refine rEnd 1 rfl (nxt (wp_seq (wp_cond_true (by kernel_rfl) (wp_skip (nxt (wp_seq (wp_block (wp_seq (reg ?_)))))))))
  refine rP 0 10 (.int .i64 ((i : Nat) : Int)) ?_
  refine rP 1 5 (.int .i64 ((i : Nat) : Int)) ?_
  refine rEnd 2 rfl (nxt (wp_seq (reg ?_)))
  refine rP 0 11 (.func (.func 69) #[] #[]) ?_
  refine rP 1 12 (.slice (some ⟨g1, o1, none⟩) n c) ?_
  refine rP 2 13 (.int .i64 ((i : Nat) : Int)) ?_
  refine rQ 3 14 (pt g1 (o1 + i * 3)) rfl rfl (index_sl 25 66 (.tmp 12) (.tmp 13) rfl Tryd.underlying25 3 (by kernel_rfl) g1 o1 n c i .i64 (by kernel_rfl) (by kernel_rfl) (by omega)) ?_
  refine rQ 4 15 (.agg ((updC x).toArray)) rfl rfl (loadR 66 (.tmp 14) rfl _ Tryd.underlying66 rfl g1 (o1 + i * 3) (by kernel_rfl) (updC x) (by kernel_rfl) (Chg.range HB hr1 trivial)) ?_
  refine Wk.rCallV 5 (some 16) (.tmp 11) 69 #[] [.tmp 15] #[66] [.agg ((updC x).toArray)] rfl rfl (by kernel_rfl) rfl (by kernel_rfl) (by kernel_rfl) (by kernel_rfl) ?_
  refine (Prb1_any x W1).mono ?_
  rintro _ W2 ⟨bv1, rfl, hif1, ch1⟩
  have zz1 := ch1.size
  cases bv1
  ·refine ⟨_, rfl, ?_⟩
   refine rEnd 6 rfl (nxt (wp_cond_false (by kernel_rfl) (wp_skip (inN (nxt (reg ?_))))))
   refine rQ 0 18 _ rfl rfl (qint64 (n := ((i : Nat) : Int) + 1) (z := ((i + 1 : Nat) : Int)) (by omega) (by omega) (by omega)) ?_
   refine rP 1 8 (.int .i64 ((i + 1 : Nat) : Int)) ?_
   refine rEnd 2 rfl (nxt ?_)
   have kk1 := Chg.step HB ch1 trivial
   refine ⟨_, ?_, i + 1, rfl, by kernel_rfl, (by omega), (fun y_ hy_ => by rw [take_sn hx] at hy_; rcases List.mem_append.1 hy_ with h1_ | h1_ <;> first | exact hall y_ h1_ | (rw [List.mem_singleton.1 h1_]; exact Classical.not_not.1 (fun q_ => Bool.noConfusion (hif1.2 q_)))), kk1⟩
   omega
  refine ⟨_, rfl, ?_⟩
  refine rEnd 6 rfl (nxt (wp_cond_true (by kernel_rfl) (wp_seq (reg ?_))))
  refine rP 0 17 (.int .i64 ((i : Nat) : Int)) ?_
  refine rP 1 4 (.int .i64 ((i : Nat) : Int)) ?_
  refine rEnd 2 rfl (nxt (wp_ret (inR (thR (thR (inR (thR ?_)))))))
  have kk2 := Chg.step HB ch1 trivial
  refine rt (.int .i64 ((i : Nat) : Int)) ?_
  exact ⟨_, rfl, ⟨fun _ => ⟨x, List.mem_of_getElem? hx, (hif1.1 rfl)⟩, fun _ => by omega⟩, kk2⟩
 rw [List.take_of_length_le (show l.length ≤ i by omega)] at hall
 refine wp_seq (reg ?_)
 refine rQ 0 9 _ rfl rfl (qboolF (b := decide (((i : Nat) : Int) < ((n : Nat) : Int))) (decide_eq_false (by omega))) ?_
 refine rEnd 1 rfl (nxt (wp_seq (wp_cond_false (by kernel_rfl) (wp_exit (thX (thX (inX (nxt (wp_seq (reg ?_))))))))))
 refine rP 0 4 (.int .i64 (-1)) ?_
 refine rEnd 1 rfl (nxt (wp_ret ?_))
 refine rt (.int .i64 (-1)) ?_
 exact ⟨-1, rfl, ⟨fun h_ => absurd h_ (by decide), fun h_ => (by obtain ⟨y_, h1_, h2_⟩ := h_; exact absurd (hall y_ h1_) h2_)⟩, HB⟩
theorem ContU_any (A : Option Addr) (n c : Nat) (l : List (Int × UInt8 × Nat)) (w : World) (hl : Mur.SlR w 3 A n (l.map updC)) (hn : n ≤ 9223372036854775807) : Calls Tryd.prog 70 #[.slice A n c, .func (.func 69) #[] #[]] w fun e w' => ∃ v, e = .returned (.bool v) ∧ (v = true ↔ ∃ y, y ∈ l ∧ ¬ Mur.goodU y) ∧ Chg [] w w' := by
 have hll := hl.len
 rw [List.length_map] at hll
 refine calls_of_wp Tryd.func70 rfl ?_
 refine wp_seq (reg ?_)
 refine rP 0 4 (.bool false) ?_
 refine rEnd 1 rfl (nxt (wp_seq (reg ?_)))
 refine rP 0 5 (.slice A n c) ?_
 refine rP 1 6 (.func (.func 69) #[] #[]) ?_
 refine rC 2 7 87 [.tmp 5, .tmp 6] #[25, 121] [.slice A n c, .func (.func 69) #[] #[]] ?_
 refine (IndexU_any A n c l w hl hn).mono ?_
 rintro _ W1 ⟨ri1, rfl, hri1, ch1⟩
 have zz1 := ch1.size
 refine ⟨_, rfl, ?_⟩
 by_cases hx1 : ri1 ≥ (0 : Int)
 ·refine rQ 3 8 _ rfl rfl (qboolT (b := decide (ri1 ≥ (0 : Int))) (decide_eq_true (by first | exact hx1 | omega))) ?_
  refine rP 4 4 (.bool true) ?_
  refine rEnd 5 rfl (nxt (wp_ret ?_))
  have kk1 : Chg [] w W1 := Chg.step ((Chg.refl _).more (by simp)) ch1 trivial
  refine rt (.bool true) ?_
  exact ⟨_, rfl, ⟨fun _ => hri1.1 (by omega), fun _ => rfl⟩, kk1⟩
 refine rQ 3 8 _ rfl rfl (qboolF (b := decide (ri1 ≥ (0 : Int))) (decide_eq_false (by first | exact hx1 | omega))) ?_
 refine rP 4 4 (.bool false) ?_
 refine rEnd 5 rfl (nxt (wp_ret ?_))
 have kk2 : Chg [] w W1 := Chg.step ((Chg.refl _).more (by simp)) ch1 trivial
 refine rt (.bool false) ?_
 exact ⟨_, rfl, ⟨fun h_ => (by cases h_), fun h_ => absurd (hri1.2 h_) (by omega)⟩, kk2⟩
end Go.Proofs.YtgbadghjnpbiaaaDoor
