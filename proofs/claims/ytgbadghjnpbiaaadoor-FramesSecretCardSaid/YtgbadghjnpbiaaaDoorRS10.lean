/- What the row rests on, part 10. -/
import Derived.Test.YtgbadghjnpbiaaaDoorRS7
import Derived.Test.YtgbadghjnpbiaaaDoorRS8
import Derived.Test.YtgbadghjnpbiaaaDoorRS9
import Derived.Test.YtgbadghjnpbiaaaDoorRS6
namespace Go.Proofs.YtgbadghjnpbiaaaDoor
open Go.RowKit Wk
open Mur (b8s Byt Own8 Seg Segs flat cutA attC Att SlA OwnA rowA msgC run_str updC map_at take_sn attL attL_len b8s_length run_neq_dg)
set_option maxRecDepth 100000
set_option maxHeartbeats 4000000
def EqU_F1 (b : Array Value) (u0 : Value) (u1 : Value) (u12 : Value) (u13 : Value) : Act := ⟨#[u0, u1, gd b 2, gd b 3, gd b 4, gd b 5, gd b 6, gd b 7, gd b 8, gd b 9, gd b 10, gd b 11, u12, u13, gd b 14, gd b 15, gd b 16, gd b 17, gd b 18, gd b 19, gd b 20, gd b 21, gd b 22, gd b 23, gd b 24, gd b 25], []⟩
def EqA_F1 (b : Array Value) (u0 : Value) (u1 : Value) (u12 : Value) (u13 : Value) : Act := ⟨#[u0, u1, gd b 2, gd b 3, gd b 4, gd b 5, gd b 6, gd b 7, gd b 8, gd b 9, gd b 10, gd b 11, u12, u13, gd b 14, gd b 15, gd b 16, gd b 17, gd b 18, gd b 19, gd b 20, gd b 21, gd b 22, gd b 23, gd b 24, gd b 25], []⟩
def EqD_F1 (b : Array Value) (u0 : Value) (u1 : Value) (u12 : Value) (u13 : Value) : Act := ⟨#[u0, u1, gd b 2, gd b 3, gd b 4, gd b 5, gd b 6, gd b 7, gd b 8, gd b 9, gd b 10, gd b 11, u12, u13, gd b 14, gd b 15, gd b 16, gd b 17, gd b 18, gd b 19, gd b 20, gd b 21, gd b 22, gd b 23, gd b 24, gd b 25], []⟩
def IdxU_F1 (b : Array Value) (u0 : Value) (u1 : Value) (u7 : Value) (u8 : Value) : Act := ⟨#[u0, u1, gd b 2, gd b 3, gd b 4, gd b 5, gd b 6, u7, u8, gd b 9, gd b 10, gd b 11, gd b 12, gd b 13, gd b 14, gd b 15, gd b 16, gd b 17, gd b 18], []⟩
theorem Node_any (n : Int) (w : World) : Calls Tryd.prog 43 #[.int .i64 n] w fun e w' => e = .returned (.bool (decide (0 ≤ n ∧ n < 16))) ∧ Chg [] w w' := by
 refine calls_of_wp Tryd.func43 rfl ?_
 refine sR<|rP 0 2 (.bool false)<|eN<|sR<|rP 0 3 (.int .i64 n) ?_
 by_cases hx1 : n ≥ (0 : Int)
 ·refine bT 1 4 (n ≥ (0 : Int))<|rP 2 5 (.bool true)<|rP 3 6 (.int .i64 n) ?_
  by_cases hx2 : n < (16 : Int)
  ·refine bT 4 7 (n < (16 : Int))<|rP 5 8 (.bool true)<|rP 6 2 (.bool true)<|eN<|wp_ret<|rt (.bool true) ?_
   exact ⟨by rw [decide_eq_true (by omega)], (Chg.refl _)⟩
  refine bF 4 7 (n < (16 : Int))<|rP 5 8 (.bool false)<|rP 6 2 (.bool false)<|eN<|wp_ret<|rt (.bool false) ?_
  exact ⟨by rw [decide_eq_false (by omega)], (Chg.refl _)⟩
 refine bF 1 4 (n ≥ (0 : Int))<|rP 2 5 (.bool false)<|rZ 3 6<|rZ 4 7<|rP 5 8 (.bool false)<|rP 6 2 (.bool false)<|eN<|wp_ret<|rt (.bool false) ?_
 exact ⟨by rw [decide_eq_false (by omega)], (Chg.refl _)⟩
theorem Tagged_any (x : UInt8) (w : World) : Calls Tryd.prog 19 #[.int .u8 x.toNat] w fun e w' => e = .returned (.bool (decide (x.toNat ≤ 4))) ∧ Chg [] w w' := by
 refine calls_of_wp Tryd.func19 rfl ?_
 refine sR<|rP 0 2 (.bool false)<|eN<|sR<|rP 0 3 (.int .u8 x.toNat) ?_
 by_cases hx1 : (x.toNat : Int) ≤ (4 : Int)
 ·refine bT 1 4 ((x.toNat : Int) ≤ (4 : Int))<|rP 2 2 (.bool true)<|eN<|wp_ret<|rt (.bool true) ?_
  exact ⟨by rw [decide_eq_true (by omega)], (Chg.refl _)⟩
 refine bF 1 4 ((x.toNat : Int) ≤ (4 : Int))<|rP 2 2 (.bool false)<|eN<|wp_ret<|rt (.bool false) ?_
 exact ⟨by rw [decide_eq_false (by omega)], (Chg.refl _)⟩
theorem BEqual_any (A : Option Addr) (n c : Nat) (B : Option Addr) (m d : Nat) (l x : List UInt8) (w : World) (hb : Byt w A n l) (hb2 : Byt w B m x) : Calls Tryd.prog 25 #[.slice A n c, .slice B m d] w fun e w' => e = .returned (.bool (decide (l = x))) ∧ Chg [] w w' := by
 refine calls_of_wp Tryd.func25 rfl ?_
 refine sR<|rP 0 4 (.bool false)<|eN<|sR<|rP 0 5 (.slice A n c)<|rq 1 6 (.string (Mur.str l)) rfl (run_str 22 9 (.tmp 5) 5 rfl Tryd.underlying22 Tryd.underlying5 Tryd.underlying9 A n c l (by kernel_rfl) hb)<|rP 2 7 (.slice B m d)<|rq 3 8 (.string (Mur.str x)) rfl (run_str 22 9 (.tmp 7) 5 rfl Tryd.underlying22 Tryd.underlying5 Tryd.underlying9 B m d x (by kernel_rfl) hb2) ?_
 by_cases hx1 : l = x
 ·refine rq 4 9 _ rfl (boolT (b := decide (l = x)) (decide_eq_true (hx1)) (Mur.streq 9 9 (.tmp 6) (.tmp 8) rfl l x (by kernel_rfl) (by kernel_rfl)))<|rP 5 4 (.bool true)<|eN<|wp_ret<|rt (.bool true) ?_
  exact ⟨by rw [decide_eq_true hx1], (Chg.refl _)⟩
 refine rq 4 9 _ rfl (boolF (b := decide (l = x)) (decide_eq_false (hx1)) (Mur.streq 9 9 (.tmp 6) (.tmp 8) rfl l x (by kernel_rfl) (by kernel_rfl)))<|rP 5 4 (.bool false)<|eN<|wp_ret<|rt (.bool false) ?_
 exact ⟨by rw [decide_eq_false hx1], (Chg.refl _)⟩
theorem EqualU_any (A : Option Addr) (n c : Nat) (B : Option Addr) (m d : Nat) (l l2 : List (Int × UInt8 × Nat)) (w : World) (hl : Mur.SlR w 3 A n (l.map updC)) (hl2 : Mur.SlR w 3 B m (l2.map updC)) (hq : ∀ x, x ∈ l → ((-9223372036854775808 ≤ x.1 ∧ x.1 ≤ 9223372036854775807) ∧ x.2.2 < 18446744073709551616)) (hq2 : ∀ x, x ∈ l2 → ((-9223372036854775808 ≤ x.1 ∧ x.1 ≤ 9223372036854775807) ∧ x.2.2 < 18446744073709551616)) (hn : n ≤ 9223372036854775807) : Calls Tryd.prog 24 #[.slice A n c, .slice B m d] w fun e w' => e = .returned (.bool (decide (l = l2))) ∧ Chg [] w w' := by
 have hll := hl.len
 have hll2 := hl2.len
 rw [List.length_map] at hll hll2
 refine calls_of_wp Tryd.func24 rfl ?_
 refine sR<|rP 0 4 (.bool false)<|eN<|wp_seq<|sR<|rP 0 6 (.slice A n c)<|rP 1 7 (.int .i64 n)<|rP 2 8 (.slice B m d)<|rP 3 9 (.int .i64 m) ?_
 by_cases hx1 : (n : Int) ≠ (m : Int)
 ·refine nT 4 10 (n : Int) (m : Int)<|eN<|cT<|sR<|rP 0 4 (.bool false)<|eN<|tR<|rt (.bool false) ?_
  exact ⟨by rw [decide_eq_false (fun e_ => by have h_ := congrArg List.length e_; omega)], (Chg.refl _)⟩
 refine nF 4 10 (n : Int) (m : Int)<|eN<|cF<|wp_skip<|nxt<|wp_seq<|sR<|rP 0 11 (.slice A n c)<|rP 1 12 (.int .i64 n)<|rP 2 13 (.int .i64 0)<|eN<|wp_block<|?_
 refine Wk.loop (fun m_ a wr => ∃ (i : Nat), m_ = n - i ∧ a = EqU_F1 a.tmps (.slice A n c) (.slice B m d) (.int .i64 n) (.int .i64 i) ∧ i ≤ n ∧ l.take i = l2.take i ∧ Chg [] w wr) (n - 0) ?_ ?_
 ·refine ⟨0, rfl, by kernel_rfl, (by omega), rfl, (Chg.refl _)⟩
 rintro mm1 aa1 W1 ⟨i, hmm1, hF1, hi, htk, HB⟩
 generalize aa1.tmps = bb1 at hF1
 subst hF1
 have hzB := HB.size
 by_cases hlt : i < n
 ·obtain ⟨x, hx⟩ : ∃ x_, l[i]? = some x_ := ⟨_, List.getElem?_eq_getElem (by omega)⟩
  obtain ⟨g1, o1, hA_, hr1⟩ := hl.row (map_at updC hx) (by decide)
  subst hA_
  obtain ⟨y, hy⟩ : ∃ x_, l2[i]? = some x_ := ⟨_, List.getElem?_eq_getElem (by omega)⟩
  obtain ⟨g2, o2, hA_, hr2⟩ := hl2.row (map_at updC hy) (by decide)
  subst hA_
  refine sR<|bT 0 14 ((i : Int) < (n : Int))<|eN<|wp_seq<|cT<|wp_skip<|nxt<|wp_seq<|wp_block<|sR<|rP 0 15 (.int .i64 i)<|rP 1 5 (.int .i64 i)<|eN<|wp_seq<|?_
  refine dReg ([]) (by kernel_rfl) ?_
  intro W2 ch1 sz1
  have zz1 := ch1.size
  have sS1 : Chg ([]) W2 W2 := (Chg.refl _).more (by simp)
  refine dW 0 16 (.slice (some ⟨g1, o1, none⟩) n c) sS1<|dW 1 17 (.int .i64 i) sS1 ?_
  refine dV 2 18 (pt g1 (o1 + i * 3)) rfl rfl (fun w' hw' => iS 3 g1 o1 n c i) sS1 ?_
  have kk1 := kA HB ch1
  refine dV 3 19 (.agg ((updC x).toArray)) rfl rfl (fun w' hw' => lR (o1 + i * 3) (updC x) (Chg.range hw' (Chg.range kk1 hr1 trivial) trivial)) sS1 ?_
  refine dW 4 20 (.slice (some ⟨g2, o2, none⟩) m d) sS1<|dW 5 21 (.int .i64 i) sS1 ?_
  refine dV 6 22 (pt g2 (o2 + i * 3)) rfl rfl (fun w' hw' => iS 3 g2 o2 m d i) sS1 ?_
  refine dV 7 23 (.agg ((updC y).toArray)) rfl rfl (fun w' hw' => lR (o2 + i * 3) (updC y) (Chg.range hw' (Chg.range kk1 hr2 trivial) trivial)) sS1 ?_
  by_cases hxy : x = y
  ·refine dV 8 24 (.bool false) rfl rfl (fun w' hw' => boolF (b := !decide (x = y)) (by rw [decide_eq_true (hxy)]; rfl) (run_neq_upd (.tmp 19) (.tmp 23) 66 rfl (wf64 (hq x (List.mem_of_getElem? hx)).1.1 (hq x (List.mem_of_getElem? hx)).1.2) (wf64 (hq2 y (List.mem_of_getElem? hy)).1.1 (hq2 y (List.mem_of_getElem? hy)).1.2) (hq x (List.mem_of_getElem? hx)).2 (hq2 y (List.mem_of_getElem? hy)).2 (by kernel_rfl) (by kernel_rfl))) sS1 ?_
   refine dN<|cF<|wp_skip<|inN<|nxt<|reg<|?_
   refine rI 0 25 ((i : Int) + 1) (((i + 1 : Nat) : Int))<|rP 1 13 (.int .i64 (i + 1 : Nat))<|eN<|?_
   refine ⟨_, ?_, i + 1, rfl, by kernel_rfl, (by omega), (by rw [take_sn hx, take_sn hy, htk, hxy]), kk1⟩
   omega
  refine dV 8 24 (.bool true) rfl rfl (fun w' hw' => boolT (b := !decide (x = y)) (by rw [decide_eq_false (hxy)]; rfl) (run_neq_upd (.tmp 19) (.tmp 23) 66 rfl (wf64 (hq x (List.mem_of_getElem? hx)).1.1 (hq x (List.mem_of_getElem? hx)).1.2) (wf64 (hq2 y (List.mem_of_getElem? hy)).1.1 (hq2 y (List.mem_of_getElem? hy)).1.2) (hq x (List.mem_of_getElem? hx)).2 (hq2 y (List.mem_of_getElem? hy)).2 (by kernel_rfl) (by kernel_rfl))) sS1 ?_
  refine dN<|cT<|sR<|?_
  refine rP 0 4 (.bool false)<|eN<|tI<|thR<|inR<|thR<|rt (.bool false) ?_
  exact ⟨by rw [decide_eq_false (fun e_ => hxy (Option.some.inj (by rw [← hx, ← hy, e_])))], kk1⟩
 rw [List.take_of_length_le (show l.length ≤ i by omega), List.take_of_length_le (show l2.length ≤ i by omega)] at htk
 refine sR<|bF 0 14 ((i : Int) < (n : Int))<|eN<|wp_seq<|cF<|xX<|nxt<|sR<|rP 0 4 (.bool true)<|eN<|wp_ret<|rt (.bool true) ?_
 exact ⟨by rw [decide_eq_true htk], HB⟩
theorem EqualA_any (A : Option Addr) (n c : Nat) (B : Option Addr) (m d : Nat) (l l2 : List (Att)) (w : World) (hl : Mur.SlR w 97 A n (l.map attL)) (hl2 : Mur.SlR w 97 B m (l2.map attL)) (_hq : ∀ x, x ∈ l → True) (_hq2 : ∀ x, x ∈ l2 → True) (hn : n ≤ 9223372036854775807) : Calls Tryd.prog 26 #[.slice A n c, .slice B m d] w fun e w' => e = .returned (.bool (decide (l = l2))) ∧ Chg [] w w' := by
 have hll := hl.len
 have hll2 := hl2.len
 rw [List.length_map] at hll hll2
 refine calls_of_wp Tryd.func26 rfl ?_
 refine sR<|rP 0 4 (.bool false)<|eN<|wp_seq<|sR<|rP 0 6 (.slice A n c)<|rP 1 7 (.int .i64 n)<|rP 2 8 (.slice B m d)<|rP 3 9 (.int .i64 m) ?_
 by_cases hx1 : (n : Int) ≠ (m : Int)
 ·refine nT 4 10 (n : Int) (m : Int)<|eN<|cT<|sR<|rP 0 4 (.bool false)<|eN<|tR<|rt (.bool false) ?_
  exact ⟨by rw [decide_eq_false (fun e_ => by have h_ := congrArg List.length e_; omega)], (Chg.refl _)⟩
 refine nF 4 10 (n : Int) (m : Int)<|eN<|cF<|wp_skip<|nxt<|wp_seq<|sR<|rP 0 11 (.slice A n c)<|rP 1 12 (.int .i64 n)<|rP 2 13 (.int .i64 0)<|eN<|wp_block<|?_
 refine Wk.loop (fun m_ a wr => ∃ (i : Nat), m_ = n - i ∧ a = EqA_F1 a.tmps (.slice A n c) (.slice B m d) (.int .i64 n) (.int .i64 i) ∧ i ≤ n ∧ l.take i = l2.take i ∧ Chg [] w wr) (n - 0) ?_ ?_
 ·refine ⟨0, rfl, by kernel_rfl, (by omega), rfl, (Chg.refl _)⟩
 rintro mm1 aa1 W1 ⟨i, hmm1, hF1, hi, htk, HB⟩
 generalize aa1.tmps = bb1 at hF1
 subst hF1
 have hzB := HB.size
 by_cases hlt : i < n
 ·obtain ⟨x, hx⟩ : ∃ x_, l[i]? = some x_ := ⟨_, List.getElem?_eq_getElem (by omega)⟩
  obtain ⟨g1, o1, hA_, hr1⟩ := hl.row (map_at attL hx) (by decide)
  subst hA_
  obtain ⟨y, hy⟩ : ∃ x_, l2[i]? = some x_ := ⟨_, List.getElem?_eq_getElem (by omega)⟩
  obtain ⟨g2, o2, hA_, hr2⟩ := hl2.row (map_at attL hy) (by decide)
  subst hA_
  refine sR<|bT 0 14 ((i : Int) < (n : Int))<|eN<|wp_seq<|cT<|wp_skip<|nxt<|wp_seq<|wp_block<|sR<|rP 0 15 (.int .i64 i)<|rP 1 5 (.int .i64 i)<|eN<|wp_seq<|?_
  refine dReg ([]) (by kernel_rfl) ?_
  intro W2 ch1 sz1
  have zz1 := ch1.size
  have sS1 : Chg ([]) W2 W2 := (Chg.refl _).more (by simp)
  refine dW 0 16 (.slice (some ⟨g1, o1, none⟩) n c) sS1<|dW 1 17 (.int .i64 i) sS1 ?_
  refine dV 2 18 (pt g1 (o1 + i * 97)) rfl rfl (fun w' hw' => iS 97 g1 o1 n c i) sS1 ?_
  have kk1 := kA HB ch1
  refine dV 3 19 (.agg ((attL x).toArray)) rfl rfl (fun w' hw' => lR (o1 + i * 97) (attL x) (Chg.range hw' (Chg.range kk1 hr1 trivial) trivial) (by rw [attL_len x]; kernel_rfl)) sS1 ?_
  refine dW 4 20 (.slice (some ⟨g2, o2, none⟩) m d) sS1<|dW 5 21 (.int .i64 i) sS1 ?_
  refine dV 6 22 (pt g2 (o2 + i * 97)) rfl rfl (fun w' hw' => iS 97 g2 o2 m d i) sS1 ?_
  refine dV 7 23 (.agg ((attL y).toArray)) rfl rfl (fun w' hw' => lR (o2 + i * 97) (attL y) (Chg.range hw' (Chg.range kk1 hr2 trivial) trivial) (by rw [attL_len y]; kernel_rfl)) sS1 ?_
  by_cases hxy : x = y
  ·refine dV 8 24 (.bool false) rfl rfl (fun w' hw' => boolF (b := !decide (x.k = y.k ∧ x.r = y.r ∧ x.n = y.n ∧ x.t = y.t)) (by rw [decide_eq_true ((Mur.Att.eq_iff x y).1 hxy)]; rfl) (run_neq_att (.tmp 19) (.tmp 23) 36 rfl x.hk x.hr x.ht y.hk y.hr y.ht x.hn y.hn (by kernel_rfl) (by kernel_rfl))) sS1 ?_
   refine dN<|cF<|wp_skip<|inN<|nxt<|reg<|?_
   refine rI 0 25 ((i : Int) + 1) (((i + 1 : Nat) : Int))<|rP 1 13 (.int .i64 (i + 1 : Nat))<|eN<|?_
   refine ⟨_, ?_, i + 1, rfl, by kernel_rfl, (by omega), (by rw [take_sn hx, take_sn hy, htk, hxy]), kk1⟩
   omega
  refine dV 8 24 (.bool true) rfl rfl (fun w' hw' => boolT (b := !decide (x.k = y.k ∧ x.r = y.r ∧ x.n = y.n ∧ x.t = y.t)) (by rw [decide_eq_false (fun q_ => hxy ((Mur.Att.eq_iff x y).2 q_))]; rfl) (run_neq_att (.tmp 19) (.tmp 23) 36 rfl x.hk x.hr x.ht y.hk y.hr y.ht x.hn y.hn (by kernel_rfl) (by kernel_rfl))) sS1 ?_
  refine dN<|cT<|sR<|?_
  refine rP 0 4 (.bool false)<|eN<|tI<|thR<|inR<|thR<|rt (.bool false) ?_
  exact ⟨by rw [decide_eq_false (fun e_ => hxy (Option.some.inj (by rw [← hx, ← hy, e_])))], kk1⟩
 rw [List.take_of_length_le (show l.length ≤ i by omega), List.take_of_length_le (show l2.length ≤ i by omega)] at htk
 refine sR<|bF 0 14 ((i : Int) < (n : Int))<|eN<|wp_seq<|cF<|xX<|nxt<|sR<|rP 0 4 (.bool true)<|eN<|wp_ret<|rt (.bool true) ?_
 exact ⟨by rw [decide_eq_true htk], HB⟩
theorem EqualD_any (A : Option Addr) (n c : Nat) (B : Option Addr) (m d : Nat) (l l2 : List (List UInt8)) (w : World) (hl : Mur.SlR w 32 A n (l.map b8s)) (hl2 : Mur.SlR w 32 B m (l2.map b8s)) (hq : ∀ x, x ∈ l → x.length = 32) (hq2 : ∀ x, x ∈ l2 → x.length = 32) (hn : n ≤ 9223372036854775807) : Calls Tryd.prog 27 #[.slice A n c, .slice B m d] w fun e w' => e = .returned (.bool (decide (l = l2))) ∧ Chg [] w w' := by
 have hll := hl.len
 have hll2 := hl2.len
 rw [List.length_map] at hll hll2
 refine calls_of_wp Tryd.func27 rfl ?_
 refine sR<|rP 0 4 (.bool false)<|eN<|wp_seq<|sR<|rP 0 6 (.slice A n c)<|rP 1 7 (.int .i64 n)<|rP 2 8 (.slice B m d)<|rP 3 9 (.int .i64 m) ?_
 by_cases hx1 : (n : Int) ≠ (m : Int)
 ·refine nT 4 10 (n : Int) (m : Int)<|eN<|cT<|sR<|rP 0 4 (.bool false)<|eN<|tR<|rt (.bool false) ?_
  exact ⟨by rw [decide_eq_false (fun e_ => by have h_ := congrArg List.length e_; omega)], (Chg.refl _)⟩
 refine nF 4 10 (n : Int) (m : Int)<|eN<|cF<|wp_skip<|nxt<|wp_seq<|sR<|rP 0 11 (.slice A n c)<|rP 1 12 (.int .i64 n)<|rP 2 13 (.int .i64 0)<|eN<|wp_block<|?_
 refine Wk.loop (fun m_ a wr => ∃ (i : Nat), m_ = n - i ∧ a = EqD_F1 a.tmps (.slice A n c) (.slice B m d) (.int .i64 n) (.int .i64 i) ∧ i ≤ n ∧ l.take i = l2.take i ∧ Chg [] w wr) (n - 0) ?_ ?_
 ·refine ⟨0, rfl, by kernel_rfl, (by omega), rfl, (Chg.refl _)⟩
 rintro mm1 aa1 W1 ⟨i, hmm1, hF1, hi, htk, HB⟩
 generalize aa1.tmps = bb1 at hF1
 subst hF1
 have hzB := HB.size
 by_cases hlt : i < n
 ·obtain ⟨x, hx⟩ : ∃ x_, l[i]? = some x_ := ⟨_, List.getElem?_eq_getElem (by omega)⟩
  obtain ⟨g1, o1, hA_, hr1⟩ := hl.row (map_at b8s hx) (by decide)
  subst hA_
  obtain ⟨y, hy⟩ : ∃ x_, l2[i]? = some x_ := ⟨_, List.getElem?_eq_getElem (by omega)⟩
  obtain ⟨g2, o2, hA_, hr2⟩ := hl2.row (map_at b8s hy) (by decide)
  subst hA_
  refine sR<|bT 0 14 ((i : Int) < (n : Int))<|eN<|wp_seq<|cT<|wp_skip<|nxt<|wp_seq<|wp_block<|sR<|rP 0 15 (.int .i64 i)<|rP 1 5 (.int .i64 i)<|eN<|wp_seq<|?_
  refine dReg ([]) (by kernel_rfl) ?_
  intro W2 ch1 sz1
  have zz1 := ch1.size
  have sS1 : Chg ([]) W2 W2 := (Chg.refl _).more (by simp)
  refine dW 0 16 (.slice (some ⟨g1, o1, none⟩) n c) sS1<|dW 1 17 (.int .i64 i) sS1 ?_
  refine dV 2 18 (pt g1 (o1 + i * 32)) rfl rfl (fun w' hw' => iS 32 g1 o1 n c i) sS1 ?_
  have kk1 := kA HB ch1
  refine dV 3 19 (.agg ((b8s x).toArray)) rfl rfl (fun w' hw' => lR (o1 + i * 32) (b8s x) (Chg.range hw' (Chg.range kk1 hr1 trivial) trivial) (by rw [b8s_length, hq x (List.mem_of_getElem? hx)]; kernel_rfl)) sS1 ?_
  refine dW 4 20 (.slice (some ⟨g2, o2, none⟩) m d) sS1<|dW 5 21 (.int .i64 i) sS1 ?_
  refine dV 6 22 (pt g2 (o2 + i * 32)) rfl rfl (fun w' hw' => iS 32 g2 o2 m d i) sS1 ?_
  refine dV 7 23 (.agg ((b8s y).toArray)) rfl rfl (fun w' hw' => lR (o2 + i * 32) (b8s y) (Chg.range hw' (Chg.range kk1 hr2 trivial) trivial) (by rw [b8s_length, hq2 y (List.mem_of_getElem? hy)]; kernel_rfl)) sS1 ?_
  by_cases hxy : x = y
  ·refine dV 8 24 (.bool false) rfl rfl (fun w' hw' => boolF (b := !decide (x = y)) (by rw [decide_eq_true (hxy)]; rfl) (run_neq_dg digT x y (hq x (List.mem_of_getElem? hx)) (hq2 y (List.mem_of_getElem? hy)) _ (.tmp 19) (.tmp 23) 29 rfl (by kernel_rfl) (by kernel_rfl))) sS1 ?_
   refine dN<|cF<|wp_skip<|inN<|nxt<|reg<|?_
   refine rI 0 25 ((i : Int) + 1) (((i + 1 : Nat) : Int))<|rP 1 13 (.int .i64 (i + 1 : Nat))<|eN<|?_
   refine ⟨_, ?_, i + 1, rfl, by kernel_rfl, (by omega), (by rw [take_sn hx, take_sn hy, htk, hxy]), kk1⟩
   omega
  refine dV 8 24 (.bool true) rfl rfl (fun w' hw' => boolT (b := !decide (x = y)) (by rw [decide_eq_false (hxy)]; rfl) (run_neq_dg digT x y (hq x (List.mem_of_getElem? hx)) (hq2 y (List.mem_of_getElem? hy)) _ (.tmp 19) (.tmp 23) 29 rfl (by kernel_rfl) (by kernel_rfl))) sS1 ?_
  refine dN<|cT<|sR<|?_
  refine rP 0 4 (.bool false)<|eN<|tI<|thR<|inR<|thR<|rt (.bool false) ?_
  exact ⟨by rw [decide_eq_false (fun e_ => hxy (Option.some.inj (by rw [← hx, ← hy, e_])))], kk1⟩
 rw [List.take_of_length_le (show l.length ≤ i by omega), List.take_of_length_le (show l2.length ≤ i by omega)] at htk
 refine sR<|bF 0 14 ((i : Int) < (n : Int))<|eN<|wp_seq<|cF<|xX<|nxt<|sR<|rP 0 4 (.bool true)<|eN<|wp_ret<|rt (.bool true) ?_
 exact ⟨by rw [decide_eq_true htk], HB⟩
theorem Prb1_any (u : Int × UInt8 × Nat) (w : World) : Calls Tryd.prog 69 #[.agg (updC u).toArray] w fun e w' => ∃ v, e = .returned (.bool v) ∧ (v = true ↔ ¬ Mur.goodU u) ∧ Chg [] w w' := by
 have hu8_ := u.2.1.toNat_lt
 refine calls_of_wp Tryd.func69 rfl ?_
 refine sR<|nW 0 1 #[.int .i64 u.1, .int .u8 u.2.1.toNat, .int .u64 u.2.2] 66 fun W1 hb1 ch1 sz1 => rP 1 2 (.bool false)<|eN<|sR<|rP 0 3 (pt w.heap.size 0)<|rL 1 4 0 (.int .i64 u.1) hb1<|rK 2 5 (Node_any u.1 W1) ?_
 by_cases hpr1 : (0 : Int) ≤ u.1 ∧ u.1 < (16 : Int)
 ·rw [decide_eq_true hpr1]
  rintro _ W2 ⟨rfl, ch2⟩
  have zz2 := ch2.size
  refine rP 3 6 (.bool false)<|rP 4 7 (.bool false)<|rP 5 8 (pt w.heap.size 1)<|rL 6 9 1 (.int .u8 u.2.1.toNat) (qT ch2 hb1) ?_
  by_cases hx1 : (u.2.1.toNat : Int) < (1 : Int)
  ·refine bT 7 10 ((u.2.1.toNat : Int) < (1 : Int))<|rP 8 11 (.bool true)<|rP 9 12 (.bool true)<|rZ 10 13<|rZ 11 14<|rZ 12 15<|rP 13 16 (.bool true)<|rP 14 17 (.bool true)<|rZ 15 18<|rZ 16 19<|rZ 17 20<|rP 18 21 (.bool true)<|rP 19 2 (.bool true)<|eN<|wp_ret<|?_
   have kk1 : Chg [] w W1 := zA ch1
   have kk2 := kA kk1 ch2
   refine rt (.bool true) ?_
   exact ⟨_, rfl, ⟨fun _ h_ => (by unfold Mur.goodU at h_; omega), fun _ => rfl⟩, kk2⟩
  refine bF 7 10 ((u.2.1.toNat : Int) < (1 : Int))<|rP 8 11 (.bool false)<|rP 9 12 (.bool false)<|rP 10 13 (pt w.heap.size 1)<|rL 11 14 1 (.int .u8 u.2.1.toNat) (qT ch2 hb1) ?_
  by_cases hx2 : (u.2.1.toNat : Int) > (3 : Int)
  ·refine bT 12 15 ((u.2.1.toNat : Int) > (3 : Int))<|rP 13 16 (.bool true)<|rP 14 17 (.bool true)<|rZ 15 18<|rZ 16 19<|rZ 17 20<|rP 18 21 (.bool true)<|rP 19 2 (.bool true)<|eN<|wp_ret<|?_
   have kk3 : Chg [] w W1 := zA ch1
   have kk4 := kA kk3 ch2
   refine rt (.bool true) ?_
   exact ⟨_, rfl, ⟨fun _ h_ => (by unfold Mur.goodU at h_; omega), fun _ => rfl⟩, kk4⟩
  refine bF 12 15 ((u.2.1.toNat : Int) > (3 : Int))<|rP 13 16 (.bool false)<|rP 14 17 (.bool false)<|rP 15 18 (pt w.heap.size 2)<|rL 16 19 2 (.int .u64 u.2.2) (qT ch2 hb1) ?_
  by_cases hx3 : (u.2.2 : Int) > (1099511627776 : Int)
  ·refine bT 17 20 ((u.2.2 : Int) > (1099511627776 : Int))<|rP 18 21 (.bool true)<|rP 19 2 (.bool true)<|eN<|wp_ret<|?_
   have kk5 : Chg [] w W1 := zA ch1
   have kk6 := kA kk5 ch2
   refine rt (.bool true) ?_
   exact ⟨_, rfl, ⟨fun _ h_ => (by unfold Mur.goodU at h_; omega), fun _ => rfl⟩, kk6⟩
  refine bF 17 20 ((u.2.2 : Int) > (1099511627776 : Int))<|rP 18 21 (.bool false)<|rP 19 2 (.bool false)<|eN<|wp_ret<|?_
  have kk7 : Chg [] w W1 := zA ch1
  have kk8 := kA kk7 ch2
  refine rt (.bool false) ?_
  exact ⟨_, rfl, ⟨fun h_ => (by cases h_), fun h_ => absurd (show Mur.goodU u by unfold Mur.goodU; omega) h_⟩, kk8⟩
 rw [decide_eq_false hpr1]
 rintro _ W3 ⟨rfl, ch3⟩
 have zz3 := ch3.size
 refine rP 3 6 (.bool true)<|rP 4 7 (.bool true)<|rZ 5 8<|rZ 6 9<|rZ 7 10<|rP 8 11 (.bool true)<|rP 9 12 (.bool true)<|rZ 10 13<|rZ 11 14<|rZ 12 15<|rP 13 16 (.bool true)<|rP 14 17 (.bool true)<|rZ 15 18<|rZ 16 19<|rZ 17 20<|rP 18 21 (.bool true)<|rP 19 2 (.bool true)<|eN<|wp_ret<|?_
 have kk9 : Chg [] w W1 := zA ch1
 have kk10 := kA kk9 ch3
 refine rt (.bool true) ?_
 exact ⟨_, rfl, ⟨fun _ h_ => (by unfold Mur.goodU at h_; omega), fun _ => rfl⟩, kk10⟩
theorem IndexU_any (A : Option Addr) (n c : Nat) (l : List (Int × UInt8 × Nat)) (w : World) (hl : Mur.SlR w 3 A n (l.map updC)) (hn : n ≤ 9223372036854775807) : Calls Tryd.prog 87 #[.slice A n c, .func (.func 69) #[] #[]] w fun e w' => ∃ r : Int, e = .returned (.int .i64 r) ∧ (0 ≤ r ↔ ∃ y, y ∈ l ∧ ¬ Mur.goodU y) ∧ Chg [] w w' := by
 have hll := hl.len
 rw [List.length_map] at hll
 refine calls_of_wp Tryd.func87 rfl ?_
 refine sR<|rP 0 4 (.int .i64 0)<|eN<|wp_seq<|sR<|rP 0 6 (.slice A n c)<|rP 1 7 (.int .i64 n)<|rP 2 8 (.int .i64 0)<|eN<|wp_block<|?_
 refine Wk.loop (fun m_ a wr => ∃ (i : Nat), m_ = n - i ∧ a = IdxU_F1 a.tmps (.slice A n c) (.func (.func 69) #[] #[]) (.int .i64 n) (.int .i64 i) ∧ i ≤ n ∧ (∀ y, y ∈ l.take i → Mur.goodU y) ∧ Chg [] w wr) (n - 0) ?_ ?_
 ·refine ⟨0, rfl, by kernel_rfl, (by omega), (by simp), (Chg.refl _)⟩
 rintro mm1 aa1 W1 ⟨i, hmm1, hF1, hi, hall, HB⟩
 generalize aa1.tmps = bb1 at hF1
 subst hF1
 have hzB := HB.size
 by_cases hlt : i < n
 ·obtain ⟨x, hx⟩ : ∃ x_, l[i]? = some x_ := ⟨_, List.getElem?_eq_getElem (by omega)⟩
  obtain ⟨g1, o1, hA_, hr1⟩ := hl.row (map_at updC hx) (by decide)
  subst hA_
  refine sR<|bT 0 9 ((i : Int) < (n : Int))<|eN<|wp_seq<|cT<|wp_skip<|nxt<|wp_seq<|wp_block<|sR<|rP 0 10 (.int .i64 i)<|rP 1 5 (.int .i64 i)<|eN<|sR<|rP 0 11 (.func (.func 69) #[] #[])<|rP 1 12 (.slice (some ⟨g1, o1, none⟩) n c)<|rP 2 13 (.int .i64 i)<|rq 3 14 (pt g1 (o1 + i * 3)) rfl (iS 3 g1 o1 n c i)<|rq 4 15 (.agg ((updC x).toArray)) rfl (lR (o1 + i * 3) (updC x) (Chg.range HB hr1 trivial)) ?_
  refine Wk.rCallV 5 (some 16) (.tmp 11) 69 #[] [.tmp 15] #[66] [.agg ((updC x).toArray)] rfl rfl (by kernel_rfl) rfl (by kernel_rfl) (by kernel_rfl) (by kernel_rfl) ?_
  refine (Prb1_any x W1).mono ?_
  rintro _ W2 ⟨bv1, rfl, hif1, ch1⟩
  have zz1 := ch1.size
  cases bv1
  ·refine ⟨_, rfl, ?_⟩
   refine eN<|cF<|wp_skip<|inN<|nxt<|reg<|rI 0 18 ((i : Int) + 1) (((i + 1 : Nat) : Int))<|rP 1 8 (.int .i64 (i + 1 : Nat))<|eN<|?_
   have kk1 := kA HB ch1
   refine ⟨_, ?_, i + 1, rfl, by kernel_rfl, (by omega), (fun y_ hy_ => by rw [take_sn hx] at hy_; rcases List.mem_append.1 hy_ with h1_ | h1_ <;> first | exact hall y_ h1_ | (rw [List.mem_singleton.1 h1_]; exact Classical.not_not.1 (fun q_ => Bool.noConfusion (hif1.2 q_)))), kk1⟩
   omega
  refine ⟨_, rfl, ?_⟩
  refine eN<|cT<|sR<|rP 0 17 (.int .i64 i)<|rP 1 4 (.int .i64 i)<|eN<|tI<|thR<|inR<|thR<|?_
  have kk2 := kA HB ch1
  refine rt (.int .i64 i) ?_
  exact ⟨_, rfl, ⟨fun _ => ⟨x, List.mem_of_getElem? hx, (hif1.1 rfl)⟩, fun _ => by omega⟩, kk2⟩
 rw [List.take_of_length_le (show l.length ≤ i by omega)] at hall
 refine sR<|bF 0 9 ((i : Int) < (n : Int))<|eN<|wp_seq<|cF<|xX<|nxt<|sR<|rP 0 4 (.int .i64 (-1))<|eN<|wp_ret<|rt (.int .i64 (-1)) ?_
 exact ⟨-1, rfl, ⟨fun h_ => absurd h_ (by decide), fun h_ => (by obtain ⟨y_, h1_, h2_⟩ := h_; exact absurd (hall y_ h1_) h2_)⟩, HB⟩
theorem ContU_any (A : Option Addr) (n c : Nat) (l : List (Int × UInt8 × Nat)) (w : World) (hl : Mur.SlR w 3 A n (l.map updC)) (hn : n ≤ 9223372036854775807) : Calls Tryd.prog 70 #[.slice A n c, .func (.func 69) #[] #[]] w fun e w' => ∃ v, e = .returned (.bool v) ∧ (v = true ↔ ∃ y, y ∈ l ∧ ¬ Mur.goodU y) ∧ Chg [] w w' := by
 have hll := hl.len
 rw [List.length_map] at hll
 refine calls_of_wp Tryd.func70 rfl ?_
 refine sR<|rP 0 4 (.bool false)<|eN<|sR<|rP 0 5 (.slice A n c)<|rP 1 6 (.func (.func 69) #[] #[])<|rK 2 7 (IndexU_any A n c l w hl hn) ?_
 rintro _ W1 ⟨ri1, rfl, hri1, ch1⟩
 have zz1 := ch1.size
 by_cases hx1 : ri1 ≥ (0 : Int)
 ·refine bT 3 8 (ri1 ≥ (0 : Int))<|rP 4 4 (.bool true)<|eN<|wp_ret<|?_
  have kk1 : Chg [] w W1 := zA ch1
  refine rt (.bool true) ?_
  exact ⟨_, rfl, ⟨fun _ => hri1.1 (by omega), fun _ => rfl⟩, kk1⟩
 refine bF 3 8 (ri1 ≥ (0 : Int))<|rP 4 4 (.bool false)<|eN<|wp_ret<|?_
 have kk2 : Chg [] w W1 := zA ch1
 refine rt (.bool false) ?_
 exact ⟨_, rfl, ⟨fun h_ => (by cases h_), fun h_ => absurd (hri1.2 h_) (by omega)⟩, kk2⟩
end Go.Proofs.YtgbadghjnpbiaaaDoor
namespace Go.Proofs.YtgbadghjnpbiaaaDoor
open Go.RowKit Wk
open Mur (b8s Byt Own8 Seg Segs flat cutA attC Att SlA OwnA rowA msgC Frm Zs FrmIn frmP segs_cell frmL_sz frmL_size frmL_all segs_rng store_segs frmL sl0 z32 bareM_1 bareZ_1 msgC_length bareM_2 bareZ_2 claimC_length bareM_3 bareZ_3 attC_length frmL_att bareM_4 bareZ_4 b8s_length segs_row b8s_one store_seg1 bareM_5 bareZ_5 bareM_6 bareZ_6 bareM_0 bareZ_0 LiesF msgC_size msgC_all msg_kind msg_pre byt_chg msg_sum run_eql_yes msg_cnt msg_items msg_ans run_eql_no)
set_option maxRecDepth 100000
set_option maxHeartbeats 4000000
def SameF_J1_1 (b : Array Value) (u2 : Value) (u3 : Value) (u5 : Value) (u6 : Value) : Act := ⟨#[gd b 0, gd b 1, u2, u3, gd b 4, u5, u6, gd b 7, gd b 8, gd b 9, gd b 10, gd b 11, gd b 12, gd b 13, gd b 14, gd b 15, gd b 16, gd b 17, gd b 18, gd b 19, gd b 20, gd b 21, gd b 22, gd b 23, gd b 24, gd b 25, gd b 26, gd b 27, gd b 28, gd b 29, gd b 30, gd b 31, gd b 32, gd b 33, gd b 34, gd b 35, gd b 36, gd b 37, gd b 38, gd b 39, gd b 40, gd b 41, gd b 42, gd b 43, gd b 44, gd b 45, gd b 46, gd b 47, gd b 48, gd b 49, gd b 50, gd b 51, gd b 52, gd b 53, gd b 54, gd b 55, gd b 56, gd b 57, gd b 58, gd b 59, gd b 60, gd b 61, gd b 62, gd b 63, gd b 64, gd b 65, gd b 66, gd b 67, gd b 68, gd b 69, gd b 70, gd b 71, gd b 72, gd b 73, gd b 74, gd b 75, gd b 76, gd b 77, gd b 78, gd b 79, gd b 80, gd b 81, gd b 82, gd b 83, gd b 84, gd b 85, gd b 86, gd b 87, gd b 88, gd b 89, gd b 90, gd b 91, gd b 92, gd b 93, gd b 94, gd b 95, gd b 96, gd b 97, gd b 98, gd b 99, gd b 100, gd b 101, gd b 102, gd b 103, gd b 104, gd b 105, gd b 106, gd b 107, gd b 108, gd b 109, gd b 110, gd b 111, gd b 112, gd b 113, gd b 114, gd b 115, gd b 116, gd b 117, gd b 118, gd b 119, gd b 120, gd b 121, gd b 122, gd b 123, gd b 124, gd b 125, gd b 126, gd b 127, gd b 128, gd b 129, gd b 130, gd b 131, gd b 132, gd b 133, gd b 134, gd b 135, gd b 136, gd b 137, gd b 138, gd b 139, gd b 140, gd b 141, gd b 142, gd b 143, gd b 144, gd b 145, gd b 146, gd b 147, gd b 148, gd b 149, gd b 150, gd b 151, gd b 152, gd b 153, gd b 154], []⟩
def SameF_J2_2 (b : Array Value) (u2 : Value) (u3 : Value) (u5 : Value) (u6 : Value) (u7 : Value) (u8 : Value) : Act := ⟨#[gd b 0, gd b 1, u2, u3, gd b 4, u5, u6, u7, u8, gd b 9, gd b 10, gd b 11, gd b 12, gd b 13, gd b 14, gd b 15, gd b 16, gd b 17, gd b 18, gd b 19, gd b 20, gd b 21, gd b 22, gd b 23, gd b 24, gd b 25, gd b 26, gd b 27, gd b 28, gd b 29, gd b 30, gd b 31, gd b 32, gd b 33, gd b 34, gd b 35, gd b 36, gd b 37, gd b 38, gd b 39, gd b 40, gd b 41, gd b 42, gd b 43, gd b 44, gd b 45, gd b 46, gd b 47, gd b 48, gd b 49, gd b 50, gd b 51, gd b 52, gd b 53, gd b 54, gd b 55, gd b 56, gd b 57, gd b 58, gd b 59, gd b 60, gd b 61, gd b 62, gd b 63, gd b 64, gd b 65, gd b 66, gd b 67, gd b 68, gd b 69, gd b 70, gd b 71, gd b 72, gd b 73, gd b 74, gd b 75, gd b 76, gd b 77, gd b 78, gd b 79, gd b 80, gd b 81, gd b 82, gd b 83, gd b 84, gd b 85, gd b 86, gd b 87, gd b 88, gd b 89, gd b 90, gd b 91, gd b 92, gd b 93, gd b 94, gd b 95, gd b 96, gd b 97, gd b 98, gd b 99, gd b 100, gd b 101, gd b 102, gd b 103, gd b 104, gd b 105, gd b 106, gd b 107, gd b 108, gd b 109, gd b 110, gd b 111, gd b 112, gd b 113, gd b 114, gd b 115, gd b 116, gd b 117, gd b 118, gd b 119, gd b 120, gd b 121, gd b 122, gd b 123, gd b 124, gd b 125, gd b 126, gd b 127, gd b 128, gd b 129, gd b 130, gd b 131, gd b 132, gd b 133, gd b 134, gd b 135, gd b 136, gd b 137, gd b 138, gd b 139, gd b 140, gd b 141, gd b 142, gd b 143, gd b 144, gd b 145, gd b 146, gd b 147, gd b 148, gd b 149, gd b 150, gd b 151, gd b 152, gd b 153, gd b 154], []⟩
theorem Bare_any (f : Frm) (z : Zs) (w : World) (hI : FrmIn f) : Calls Tryd.prog 44 #[.agg (frmP f z).flatten.toArray] w fun e w' => e = .returned (.agg (frmP (Mur.bareM f) (Mur.bareZ f z)).flatten.toArray) ∧ Chg [] w w' := by
 refine calls_of_wp Tryd.func44 rfl ?_
 refine sR<|nW 0 1 ((frmP f z).flatten.toArray) 39 fun W1 hb1 ch1 sz1 => nW 1 2 ((frmh 0 0 0).flatten.toArray) 39 fun W2 hb2 ch2 sz2 => eN<|sR<|rP 0 4 (pt w.heap.size 0)<|rF 1 5 0 (.int .u8 f.kind.toNat) hI.sz (qT ch2 hb1) 0<|rP 2 6 (pt w.heap.size 1)<|rF 3 7 1 (.int .i64 f.frm) hI.sz (qT ch2 hb1) 1<|rP 4 8 (pt w.heap.size 2)<|rF 5 9 2 (.int .i64 f.dst) hI.sz (qT ch2 hb1) 2<|rq 6 10 (.agg ((frmh f.kind f.frm f.dst).flatten.toArray)) rfl (Mur.run_built 39 _ rfl [(0, .int .u8 f.kind.toNat), (1, .int .i64 f.frm), (2, .int .i64 f.dst)] (by kernel_rfl) _ (built_head3 f.kind f.frm f.dst))<|nW 7 3 ((frmh 0 0 0).flatten.toArray) 39 fun W3 hb3 ch3 sz3 => rU 8 rfl (sA (frmh f.kind f.frm f.dst).flatten.toArray (frmL_size (frmL_sz rfl rfl rfl rfl rfl rfl)) hb3 (frmL_size (frmL_sz rfl rfl rfl rfl rfl rfl))) fun W4 hb4 ch4 zz4 => eN<|wp_seq<|sR<|rP 0 11 (pt w.heap.size 0)<|rF 1 12 0 (.int .u8 f.kind.toNat) hI.sz (qO ch4 (qT ch3 (qT ch2 hb1))) 0<|eN<|wp_block<|sR<|?_
 by_cases hx1 : (f.kind.toNat : Int) = (1 : Int)
 ·refine eT 0 14 (f.kind.toNat : Int) (1 : Int)<|rP 1 13 (.bool true)<|eN<|cT<|reg<|rP 0 15 (pt w.heap.size 3)<|rq 1 16 (.agg #[.int .i64 f.pTo, .int .u8 f.pKind.toNat, .int .u64 f.pSeq, .int .i64 f.pAbout, .slice z.u.A z.u.n z.u.c]) rfl (lR 3 [.int .i64 f.pTo, .int .u8 f.pKind.toNat, .int .u64 f.pSeq, .int .i64 f.pAbout, .slice z.u.A z.u.n z.u.c] (show World.rangeAt _ _ (0 + 3) _ from segs_rng hI.sz (range_row (qO ch4 (qT ch3 (qT ch2 hb1)))) 3 5 rfl rfl))<|rP 2 17 (pt W2.heap.size 3)<|rU 3 rfl (store_segs 27 (.tmp 17) (.tmp 16) rfl 3 (by kernel_rfl) [.int .i64 f.pTo, .int .u8 f.pKind.toNat, .int .u64 f.pSeq, .int .i64 f.pAbout, .slice z.u.A z.u.n z.u.c] (by kernel_rfl) (by kernel_rfl) (by intro v hv; simp only [List.mem_cons, List.not_mem_nil, or_false] at hv; rcases hv with h | h | h | h | h <;> (subst h; rfl)) 39 (frmL_sz rfl rfl rfl rfl rfl rfl) hb4 3 [[.int .i64 f.pTo], [.int .u8 f.pKind.toNat], [.int .u64 f.pSeq], [.int .i64 f.pAbout], [.slice z.u.A z.u.n z.u.c]] rfl rfl rfl (frmL f.kind f.frm f.dst f.pTo f.pKind f.pSeq f.pAbout z.u 0 sl0 z32 0 sl0 false z32 0 0 0 false z32 z32 0 z32 z32 0 sl0 sl0) rfl) fun W5 hb5 ch5 zz5 => rE<|inN<|nxt<|sR<|rq 0 55 (.agg ((frmL f.kind f.frm f.dst f.pTo f.pKind f.pSeq f.pAbout z.u 0 sl0 z32 0 sl0 false z32 0 0 0 false z32 z32 0 z32 z32 0 sl0 sl0).flatten.toArray)) rfl (lA hb5 (frmL_size (frmL_sz rfl rfl rfl rfl rfl rfl)))<|rU 1 rfl (sA (frmL f.kind f.frm f.dst f.pTo f.pKind f.pSeq f.pAbout z.u 0 sl0 z32 0 sl0 false z32 0 0 0 false z32 z32 0 z32 z32 0 sl0 sl0).flatten.toArray (frmL_size (frmL_sz rfl rfl rfl rfl rfl rfl)) (qO ch5 (qO ch4 (qT ch3 hb2))) (frmL_size (frmL_sz rfl rfl rfl rfl rfl rfl))) fun W6 hb6 ch6 zz6 => ?_
  refine eN<|wp_ret<|?_
  have hk_ : f.kind = 1 := UInt8.toNat_inj.1 (by have h_ : (1 : UInt8).toNat = 1 := rfl; omega)
  have kk1 : Chg [] w W1 := zA ch1
  have kk2 := kA kk1 ch2
  have kk3 := kA kk2 ch3
  have kk4 := kB kk3 ch4
  have kk5 := kB kk4 ch5
  have kk6 := kB kk5 ch6
  refine Wk.ret (.agg (frmL f.kind f.frm f.dst f.pTo f.pKind f.pSeq f.pAbout z.u 0 sl0 z32 0 sl0 false z32 0 0 0 false z32 z32 0 z32 z32 0 sl0 sl0).flatten.toArray) rfl (results_cell_row rfl _ _ W1.heap.size 39 (frmL f.kind f.frm f.dst f.pTo f.pKind f.pSeq f.pAbout z.u 0 sl0 z32 0 sl0 false z32 0 0 0 false z32 z32 0 z32 z32 0 sl0 sl0).flatten.toArray (0, 0) _ (by kernel_rfl) hb6 Tryd.underlying39 rfl (by rw [(frmL_size (frmL_sz rfl rfl rfl rfl rfl rfl))]; kernel_rfl)) ?_
  exact ⟨(by first | (rw [bareM_1 hk_, bareZ_1 hk_]; done) | (rw [bareM_1 hk_, bareZ_1 hk_]; rfl)), kk6⟩
 refine eF 0 14 (f.kind.toNat : Int) (1 : Int)<|rP 1 13 (.bool false)<|eN<|cF<|sR<|?_
 by_cases hx2 : (f.kind.toNat : Int) = (2 : Int)
 ·refine eT 0 19 (f.kind.toNat : Int) (2 : Int)<|rP 1 18 (.bool true)<|eN<|cT<|reg<|rP 0 20 (pt w.heap.size 8)<|rq 1 21 (.agg ((Mur.msgC f.gos.kind z.p.A z.p.n z.p.c f.gos.sum f.gos.cnt z.i.A z.i.n z.i.c f.gos.ans).toArray)) rfl (lR 8 (Mur.msgC f.gos.kind z.p.A z.p.n z.p.c f.gos.sum f.gos.cnt z.i.A z.i.n z.i.c f.gos.ans) (show World.rangeAt _ _ (0 + 8) _ from segs_rng hI.sz (range_row (qO ch4 (qT ch3 (qT ch2 hb1)))) 8 6 rfl rfl) (by rw [msgC_length hI.ok.sum]; kernel_rfl))<|rP 2 22 (pt W2.heap.size 8)<|rU 3 rfl (store_segs 32 (.tmp 22) (.tmp 21) rfl 8 (by kernel_rfl) (Mur.msgC f.gos.kind z.p.A z.p.n z.p.c f.gos.sum f.gos.cnt z.i.A z.i.n z.i.c f.gos.ans) (by kernel_rfl) (by rw [msgC_length hI.ok.sum]; kernel_rfl) Mur.msgC_one 39 (frmL_sz rfl rfl rfl rfl rfl rfl) hb4 8 [[.int .u8 f.gos.kind.toNat], [.slice z.p.A z.p.n z.p.c], b8s f.gos.sum, [.int .i64 f.gos.cnt], [.slice z.i.A z.i.n z.i.c], [.bool f.gos.ans]] rfl rfl (by rw [msgC_length hI.ok.sum]; rfl) (frmL f.kind f.frm f.dst 0 0 0 0 sl0 f.gos.kind z.p f.gos.sum f.gos.cnt z.i f.gos.ans z32 0 0 0 false z32 z32 0 z32 z32 0 sl0 sl0) rfl) fun W7 hb7 ch7 zz7 => rE<|inN<|nxt<|sR<|rq 0 55 (.agg ((frmL f.kind f.frm f.dst 0 0 0 0 sl0 f.gos.kind z.p f.gos.sum f.gos.cnt z.i f.gos.ans z32 0 0 0 false z32 z32 0 z32 z32 0 sl0 sl0).flatten.toArray)) rfl (lA hb7 (frmL_size (frmL_sz hI.ok.sum rfl rfl rfl rfl rfl)))<|rU 1 rfl (sA (frmL f.kind f.frm f.dst 0 0 0 0 sl0 f.gos.kind z.p f.gos.sum f.gos.cnt z.i f.gos.ans z32 0 0 0 false z32 z32 0 z32 z32 0 sl0 sl0).flatten.toArray (frmL_size (frmL_sz hI.ok.sum rfl rfl rfl rfl rfl)) (qO ch7 (qO ch4 (qT ch3 hb2))) (frmL_size (frmL_sz rfl rfl rfl rfl rfl rfl))) fun W8 hb8 ch8 zz8 => ?_
  refine eN<|wp_ret<|?_
  have hk_ : f.kind = 2 := UInt8.toNat_inj.1 (by have h_ : (2 : UInt8).toNat = 2 := rfl; omega)
  have kk7 : Chg [] w W1 := zA ch1
  have kk8 := kA kk7 ch2
  have kk9 := kA kk8 ch3
  have kk10 := kB kk9 ch4
  have kk11 := kB kk10 ch7
  have kk12 := kB kk11 ch8
  refine Wk.ret (.agg (frmL f.kind f.frm f.dst 0 0 0 0 sl0 f.gos.kind z.p f.gos.sum f.gos.cnt z.i f.gos.ans z32 0 0 0 false z32 z32 0 z32 z32 0 sl0 sl0).flatten.toArray) rfl (results_cell_row rfl _ _ W1.heap.size 39 (frmL f.kind f.frm f.dst 0 0 0 0 sl0 f.gos.kind z.p f.gos.sum f.gos.cnt z.i f.gos.ans z32 0 0 0 false z32 z32 0 z32 z32 0 sl0 sl0).flatten.toArray (0, 0) _ (by kernel_rfl) hb8 Tryd.underlying39 rfl (by rw [(frmL_size (frmL_sz hI.ok.sum rfl rfl rfl rfl rfl))]; kernel_rfl)) ?_
  exact ⟨(by first | (rw [bareM_2 hk_, bareZ_2 hk_]; done) | (rw [bareM_2 hk_, bareZ_2 hk_]; rfl)), kk12⟩
 refine eF 0 19 (f.kind.toNat : Int) (2 : Int)<|rP 1 18 (.bool false)<|eN<|cF<|sR<|?_
 by_cases hx3 : (f.kind.toNat : Int) = (3 : Int)
 ·refine eT 0 24 (f.kind.toNat : Int) (3 : Int)<|rP 1 23 (.bool true)<|eN<|cT<|reg<|rP 0 25 (pt w.heap.size 45)<|rq 1 26 (.agg ((Mur.claimC f.cKey f.cNode f.cInc f.cCnt f.cGone).toArray)) rfl (lR 45 (Mur.claimC f.cKey f.cNode f.cInc f.cCnt f.cGone) (show World.rangeAt _ _ (0 + 45) _ from segs_rng hI.sz (range_row (qO ch4 (qT ch3 (qT ch2 hb1)))) 14 5 rfl rfl) (by rw [claimC_length hI.ok.key]; kernel_rfl))<|rP 2 27 (pt W2.heap.size 45)<|rU 3 rfl (store_segs 34 (.tmp 27) (.tmp 26) rfl 45 (by kernel_rfl) (Mur.claimC f.cKey f.cNode f.cInc f.cCnt f.cGone) (by kernel_rfl) (by rw [claimC_length hI.ok.key]; kernel_rfl) Mur.claimC_one 39 (frmL_sz rfl rfl rfl rfl rfl rfl) hb4 14 [b8s f.cKey, [.int .i64 f.cNode], [.int .u64 f.cInc], [.int .u64 f.cCnt], [.bool f.cGone]] rfl rfl (by rw [claimC_length hI.ok.key]; rfl) (frmL f.kind f.frm f.dst 0 0 0 0 sl0 0 sl0 z32 0 sl0 false f.cKey f.cNode f.cInc f.cCnt f.cGone z32 z32 0 z32 z32 0 sl0 sl0) rfl) fun W10 hb9 ch9 zz9 => rE<|inN<|nxt<|sR<|rq 0 55 (.agg ((frmL f.kind f.frm f.dst 0 0 0 0 sl0 0 sl0 z32 0 sl0 false f.cKey f.cNode f.cInc f.cCnt f.cGone z32 z32 0 z32 z32 0 sl0 sl0).flatten.toArray)) rfl (lA hb9 (frmL_size (frmL_sz rfl hI.ok.key rfl rfl rfl rfl)))<|rU 1 rfl (sA (frmL f.kind f.frm f.dst 0 0 0 0 sl0 0 sl0 z32 0 sl0 false f.cKey f.cNode f.cInc f.cCnt f.cGone z32 z32 0 z32 z32 0 sl0 sl0).flatten.toArray (frmL_size (frmL_sz rfl hI.ok.key rfl rfl rfl rfl)) (qO ch9 (qO ch4 (qT ch3 hb2))) (frmL_size (frmL_sz rfl rfl rfl rfl rfl rfl))) fun W11 hb10 ch10 zz10 => ?_
  refine eN<|wp_ret<|?_
  have hk_ : f.kind = 3 := UInt8.toNat_inj.1 (by have h_ : (3 : UInt8).toNat = 3 := rfl; omega)
  have kk13 : Chg [] w W1 := zA ch1
  have kk14 := kA kk13 ch2
  have kk15 := kA kk14 ch3
  have kk16 := kB kk15 ch4
  have kk17 := kB kk16 ch9
  have kk18 := kB kk17 ch10
  refine Wk.ret (.agg (frmL f.kind f.frm f.dst 0 0 0 0 sl0 0 sl0 z32 0 sl0 false f.cKey f.cNode f.cInc f.cCnt f.cGone z32 z32 0 z32 z32 0 sl0 sl0).flatten.toArray) rfl (results_cell_row rfl _ _ W1.heap.size 39 (frmL f.kind f.frm f.dst 0 0 0 0 sl0 0 sl0 z32 0 sl0 false f.cKey f.cNode f.cInc f.cCnt f.cGone z32 z32 0 z32 z32 0 sl0 sl0).flatten.toArray (0, 0) _ (by kernel_rfl) hb10 Tryd.underlying39 rfl (by rw [(frmL_size (frmL_sz rfl hI.ok.key rfl rfl rfl rfl))]; kernel_rfl)) ?_
  exact ⟨(by first | (rw [bareM_3 hk_, bareZ_3 hk_]; done) | (rw [bareM_3 hk_, bareZ_3 hk_]; rfl)), kk18⟩
 refine eF 0 24 (f.kind.toNat : Int) (3 : Int)<|rP 1 23 (.bool false)<|eN<|cF<|sR<|?_
 by_cases hx4 : (f.kind.toNat : Int) = (4 : Int)
 ·refine eT 0 29 (f.kind.toNat : Int) (4 : Int)<|rP 1 28 (.bool true)<|eN<|cT<|reg<|rP 0 30 (pt w.heap.size 81)<|rq 1 31 (.agg ((Mur.attC f.att.k f.att.r f.att.n f.att.t).toArray)) rfl (lR 81 (Mur.attC f.att.k f.att.r f.att.n f.att.t) (show World.rangeAt _ _ (0 + 81) _ from segs_rng hI.sz (range_row (qO ch4 (qT ch3 (qT ch2 hb1)))) 19 4 frmL_att rfl) (by rw [attC_length f.att.hk f.att.hr f.att.ht]; kernel_rfl))<|rP 2 32 (pt W2.heap.size 81)<|rU 3 rfl (store_segs 36 (.tmp 32) (.tmp 31) rfl 81 (by kernel_rfl) (Mur.attC f.att.k f.att.r f.att.n f.att.t) (by kernel_rfl) (by rw [attC_length f.att.hk f.att.hr f.att.ht]; kernel_rfl) Mur.attC_one 39 (frmL_sz rfl rfl rfl rfl rfl rfl) hb4 19 [b8s f.att.k, b8s f.att.r, [.int .i64 f.att.n], b8s f.att.t] (Mur.att_parts _ _ _ _) rfl (by rw [attC_length f.att.hk f.att.hr f.att.ht]; rfl) (frmL f.kind f.frm f.dst 0 0 0 0 sl0 0 sl0 z32 0 sl0 false z32 0 0 0 false f.att.k f.att.r f.att.n f.att.t z32 0 sl0 sl0) rfl) fun W12 hb11 ch11 zz11 => rE<|inN<|nxt<|sR<|rq 0 55 (.agg ((frmL f.kind f.frm f.dst 0 0 0 0 sl0 0 sl0 z32 0 sl0 false z32 0 0 0 false f.att.k f.att.r f.att.n f.att.t z32 0 sl0 sl0).flatten.toArray)) rfl (lA hb11 (frmL_size (frmL_sz rfl rfl f.att.hk f.att.hr f.att.ht rfl)))<|rU 1 rfl (sA (frmL f.kind f.frm f.dst 0 0 0 0 sl0 0 sl0 z32 0 sl0 false z32 0 0 0 false f.att.k f.att.r f.att.n f.att.t z32 0 sl0 sl0).flatten.toArray (frmL_size (frmL_sz rfl rfl f.att.hk f.att.hr f.att.ht rfl)) (qO ch11 (qO ch4 (qT ch3 hb2))) (frmL_size (frmL_sz rfl rfl rfl rfl rfl rfl))) fun W13 hb12 ch12 zz12 => ?_
  refine eN<|wp_ret<|?_
  have hk_ : f.kind = 4 := UInt8.toNat_inj.1 (by have h_ : (4 : UInt8).toNat = 4 := rfl; omega)
  have kk19 : Chg [] w W1 := zA ch1
  have kk20 := kA kk19 ch2
  have kk21 := kA kk20 ch3
  have kk22 := kB kk21 ch4
  have kk23 := kB kk22 ch11
  have kk24 := kB kk23 ch12
  refine Wk.ret (.agg (frmL f.kind f.frm f.dst 0 0 0 0 sl0 0 sl0 z32 0 sl0 false z32 0 0 0 false f.att.k f.att.r f.att.n f.att.t z32 0 sl0 sl0).flatten.toArray) rfl (results_cell_row rfl _ _ W1.heap.size 39 (frmL f.kind f.frm f.dst 0 0 0 0 sl0 0 sl0 z32 0 sl0 false z32 0 0 0 false f.att.k f.att.r f.att.n f.att.t z32 0 sl0 sl0).flatten.toArray (0, 0) _ (by kernel_rfl) hb12 Tryd.underlying39 rfl (by rw [(frmL_size (frmL_sz rfl rfl f.att.hk f.att.hr f.att.ht rfl))]; kernel_rfl)) ?_
  exact ⟨(by first | (rw [bareM_4 hk_, bareZ_4 hk_]; done) | (rw [bareM_4 hk_, bareZ_4 hk_]; rfl)), kk24⟩
 refine eF 0 29 (f.kind.toNat : Int) (4 : Int)<|rP 1 28 (.bool false)<|eN<|cF<|sR<|?_
 by_cases hx5 : (f.kind.toNat : Int) = (5 : Int)
 ·refine eT 0 34 (f.kind.toNat : Int) (5 : Int)<|rP 1 33 (.bool true)<|eN<|cT<|?_
  refine dReg ([W2.heap.size]) (by kernel_rfl) ?_
  intro W14 ch13 sz4
  have zz13 := ch13.size
  have sS1 : Chg ([W2.heap.size]) W14 W14 := (Chg.refl _).more (by simp)
  refine dW 0 35 (pt w.heap.size 178) sS1 ?_
  refine dV 1 36 (.agg ((b8s f.root).toArray)) rfl rfl (fun w' hw' => lR 178 (b8s f.root) (show World.rangeAt _ _ (0 + 178) _ from segs_row hI.sz (range_row (qO hw' (qT ch13 (qO ch4 (qT ch3 (qT ch2 hb1)))))) 23 rfl rfl) (by rw [b8s_length, hI.ok.root]; kernel_rfl)) sS1 ?_
  refine dW 2 37 (pt w.heap.size 210) sS1 ?_
  refine dV 3 38 (.int .i64 f.chunk) rfl rfl (fun w' hw' => fl 3 37 w.heap.size 210 (.int .i64 f.chunk) hI.sz (qO hw' (qT ch13 (qO ch4 (qT ch3 (qT ch2 hb1))))) 24) sS1 ?_
  refine dW 4 39 (pt W2.heap.size 178) sS1 ?_
  refine dOp 5 (by kernel_rfl) ?_
  refine oU rfl (store_segs 29 (.tmp 39) (.tmp 36) rfl 178 (by kernel_rfl) (b8s f.root) (by kernel_rfl) (by rw [b8s_length, hI.ok.root]; kernel_rfl) (b8s_one f.root) 39 (frmL_sz rfl rfl rfl rfl rfl rfl) (qT ch13 hb4) 23 [b8s f.root] (by simp) rfl (by rw [b8s_length, hI.ok.root]; rfl) (frmL f.kind f.frm f.dst 0 0 0 0 sl0 0 sl0 z32 0 sl0 false z32 0 0 0 false z32 z32 0 z32 f.root 0 sl0 sl0) rfl) fun W15 hb13 ch14 zz14 => ?_
  have sS2 := kC sS1 ch14
  refine ⟨sS2, ?_⟩
  refine dW 6 40 (pt W2.heap.size 210) sS2 ?_
  refine dOp 7 (by kernel_rfl) ?_
  refine oU rfl (sG 210 (.int .i64 f.chunk) (frmL_sz rfl rfl rfl rfl rfl hI.ok.root) hb13 24 (frmL f.kind f.frm f.dst 0 0 0 0 sl0 0 sl0 z32 0 sl0 false z32 0 0 0 false z32 z32 0 z32 f.root f.chunk sl0 sl0)) fun W16 hb14 ch15 zz15 => ?_
  have sS3 := kC sS2 ch15
  refine ⟨sS3, ?_⟩
  refine dE<|inN<|nxt<|sR<|?_
  refine rq 0 55 (.agg ((frmL f.kind f.frm f.dst 0 0 0 0 sl0 0 sl0 z32 0 sl0 false z32 0 0 0 false z32 z32 0 z32 f.root f.chunk sl0 sl0).flatten.toArray)) rfl (lA hb14 (frmL_size (frmL_sz rfl rfl rfl rfl rfl hI.ok.root)))<|rU 1 rfl (sA (frmL f.kind f.frm f.dst 0 0 0 0 sl0 0 sl0 z32 0 sl0 false z32 0 0 0 false z32 z32 0 z32 f.root f.chunk sl0 sl0).flatten.toArray (frmL_size (frmL_sz rfl rfl rfl rfl rfl hI.ok.root)) (qO ch15 (qO ch14 (qT ch13 (qO ch4 (qT ch3 hb2))))) (frmL_size (frmL_sz rfl rfl rfl rfl rfl rfl))) fun W17 hb15 ch16 zz16 => eN<|wp_ret<|?_
  have hk_ : f.kind = 5 := UInt8.toNat_inj.1 (by have h_ : (5 : UInt8).toNat = 5 := rfl; omega)
  have kk25 : Chg [] w W1 := zA ch1
  have kk26 := kA kk25 ch2
  have kk27 := kA kk26 ch3
  have kk28 := kB kk27 ch4
  have kk29 := kA kk28 ch13
  have kk30 := kB kk29 ch14
  have kk31 := kB kk30 ch15
  have kk32 := kB kk31 ch16
  refine Wk.ret (.agg (frmL f.kind f.frm f.dst 0 0 0 0 sl0 0 sl0 z32 0 sl0 false z32 0 0 0 false z32 z32 0 z32 f.root f.chunk sl0 sl0).flatten.toArray) rfl (results_cell_row rfl _ _ W1.heap.size 39 (frmL f.kind f.frm f.dst 0 0 0 0 sl0 0 sl0 z32 0 sl0 false z32 0 0 0 false z32 z32 0 z32 f.root f.chunk sl0 sl0).flatten.toArray (0, 0) _ (by kernel_rfl) hb15 Tryd.underlying39 rfl (by rw [(frmL_size (frmL_sz rfl rfl rfl rfl rfl hI.ok.root))]; kernel_rfl)) ?_
  exact ⟨(by first | (rw [bareM_5 hk_, bareZ_5 hk_]; done) | (rw [bareM_5 hk_, bareZ_5 hk_]; rfl)), kk32⟩
 refine eF 0 34 (f.kind.toNat : Int) (5 : Int)<|rP 1 33 (.bool false)<|eN<|cF<|sR<|?_
 by_cases hx6 : (f.kind.toNat : Int) = (6 : Int)
 ·refine eT 0 42 (f.kind.toNat : Int) (6 : Int)<|rP 1 41 (.bool true)<|eN<|cT<|?_
  refine dReg ([W2.heap.size]) (by kernel_rfl) ?_
  intro W18 ch17 sz5
  have zz17 := ch17.size
  have sS4 : Chg ([W2.heap.size]) W18 W18 := (Chg.refl _).more (by simp)
  refine dW 0 43 (pt w.heap.size 178) sS4 ?_
  refine dV 1 44 (.agg ((b8s f.root).toArray)) rfl rfl (fun w' hw' => lR 178 (b8s f.root) (show World.rangeAt _ _ (0 + 178) _ from segs_row hI.sz (range_row (qO hw' (qT ch17 (qO ch4 (qT ch3 (qT ch2 hb1)))))) 23 rfl rfl) (by rw [b8s_length, hI.ok.root]; kernel_rfl)) sS4 ?_
  refine dW 2 45 (pt w.heap.size 210) sS4 ?_
  refine dV 3 46 (.int .i64 f.chunk) rfl rfl (fun w' hw' => fl 3 45 w.heap.size 210 (.int .i64 f.chunk) hI.sz (qO hw' (qT ch17 (qO ch4 (qT ch3 (qT ch2 hb1))))) 24) sS4 ?_
  refine dW 4 47 (pt w.heap.size 211) sS4 ?_
  refine dV 5 48 (.slice z.y.A z.y.n z.y.c) rfl rfl (fun w' hw' => fl 22 47 w.heap.size 211 (.slice z.y.A z.y.n z.y.c) hI.sz (qO hw' (qT ch17 (qO ch4 (qT ch3 (qT ch2 hb1))))) 25) sS4 ?_
  refine dW 6 49 (pt w.heap.size 212) sS4 ?_
  refine dV 7 50 (.slice z.f.A z.f.n z.f.c) rfl rfl (fun w' hw' => fl 37 49 w.heap.size 212 (.slice z.f.A z.f.n z.f.c) hI.sz (qO hw' (qT ch17 (qO ch4 (qT ch3 (qT ch2 hb1))))) 26) sS4 ?_
  refine dW 8 51 (pt W2.heap.size 178) sS4 ?_
  refine dOp 9 (by kernel_rfl) ?_
  refine oU rfl (store_segs 29 (.tmp 51) (.tmp 44) rfl 178 (by kernel_rfl) (b8s f.root) (by kernel_rfl) (by rw [b8s_length, hI.ok.root]; kernel_rfl) (b8s_one f.root) 39 (frmL_sz rfl rfl rfl rfl rfl rfl) (qT ch17 hb4) 23 [b8s f.root] (by simp) rfl (by rw [b8s_length, hI.ok.root]; rfl) (frmL f.kind f.frm f.dst 0 0 0 0 sl0 0 sl0 z32 0 sl0 false z32 0 0 0 false z32 z32 0 z32 f.root 0 sl0 sl0) rfl) fun W19 hb16 ch18 zz18 => ?_
  have sS5 := kC sS4 ch18
  refine ⟨sS5, ?_⟩
  refine dW 10 52 (pt W2.heap.size 210) sS5 ?_
  refine dOp 11 (by kernel_rfl) ?_
  refine oU rfl (sG 210 (.int .i64 f.chunk) (frmL_sz rfl rfl rfl rfl rfl hI.ok.root) hb16 24 (frmL f.kind f.frm f.dst 0 0 0 0 sl0 0 sl0 z32 0 sl0 false z32 0 0 0 false z32 z32 0 z32 f.root f.chunk sl0 sl0)) fun W20 hb17 ch19 zz19 => ?_
  have sS6 := kC sS5 ch19
  refine ⟨sS6, ?_⟩
  refine dW 12 53 (pt W2.heap.size 211) sS6 ?_
  refine dOp 13 (by kernel_rfl) ?_
  refine oU rfl (sG 211 (.slice z.y.A z.y.n z.y.c) (frmL_sz rfl rfl rfl rfl rfl hI.ok.root) hb17 25 (frmL f.kind f.frm f.dst 0 0 0 0 sl0 0 sl0 z32 0 sl0 false z32 0 0 0 false z32 z32 0 z32 f.root f.chunk z.y sl0)) fun W21 hb18 ch20 zz20 => ?_
  have sS7 := kC sS6 ch20
  refine ⟨sS7, ?_⟩
  refine dW 14 54 (pt W2.heap.size 212) sS7 ?_
  refine dOp 15 (by kernel_rfl) ?_
  refine oU rfl (sG 212 (.slice z.f.A z.f.n z.f.c) (frmL_sz rfl rfl rfl rfl rfl hI.ok.root) hb18 26 (frmL f.kind f.frm f.dst 0 0 0 0 sl0 0 sl0 z32 0 sl0 false z32 0 0 0 false z32 z32 0 z32 f.root f.chunk z.y z.f)) fun W22 hb19 ch21 zz21 => ?_
  have sS8 := kC sS7 ch21
  refine ⟨sS8, ?_⟩
  refine dE<|inN<|nxt<|sR<|?_
  refine rq 0 55 (.agg ((frmL f.kind f.frm f.dst 0 0 0 0 sl0 0 sl0 z32 0 sl0 false z32 0 0 0 false z32 z32 0 z32 f.root f.chunk z.y z.f).flatten.toArray)) rfl (lA hb19 (frmL_size (frmL_sz rfl rfl rfl rfl rfl hI.ok.root)))<|rU 1 rfl (sA (frmL f.kind f.frm f.dst 0 0 0 0 sl0 0 sl0 z32 0 sl0 false z32 0 0 0 false z32 z32 0 z32 f.root f.chunk z.y z.f).flatten.toArray (frmL_size (frmL_sz rfl rfl rfl rfl rfl hI.ok.root)) (qO ch21 (qO ch20 (qO ch19 (qO ch18 (qT ch17 (qO ch4 (qT ch3 hb2))))))) (frmL_size (frmL_sz rfl rfl rfl rfl rfl rfl))) fun W23 hb20 ch22 zz22 => eN<|wp_ret<|?_
  have hk_ : f.kind = 6 := UInt8.toNat_inj.1 (by have h_ : (6 : UInt8).toNat = 6 := rfl; omega)
  have kk33 : Chg [] w W1 := zA ch1
  have kk34 := kA kk33 ch2
  have kk35 := kA kk34 ch3
  have kk36 := kB kk35 ch4
  have kk37 := kA kk36 ch17
  have kk38 := kB kk37 ch18
  have kk39 := kB kk38 ch19
  have kk40 := kB kk39 ch20
  have kk41 := kB kk40 ch21
  have kk42 := kB kk41 ch22
  refine Wk.ret (.agg (frmL f.kind f.frm f.dst 0 0 0 0 sl0 0 sl0 z32 0 sl0 false z32 0 0 0 false z32 z32 0 z32 f.root f.chunk z.y z.f).flatten.toArray) rfl (results_cell_row rfl _ _ W1.heap.size 39 (frmL f.kind f.frm f.dst 0 0 0 0 sl0 0 sl0 z32 0 sl0 false z32 0 0 0 false z32 z32 0 z32 f.root f.chunk z.y z.f).flatten.toArray (0, 0) _ (by kernel_rfl) hb20 Tryd.underlying39 rfl (by rw [(frmL_size (frmL_sz rfl rfl rfl rfl rfl hI.ok.root))]; kernel_rfl)) ?_
  exact ⟨(by first | (rw [bareM_6 hk_, bareZ_6 hk_]; done) | (rw [bareM_6 hk_, bareZ_6 hk_]; rfl)), kk42⟩
 refine eF 0 42 (f.kind.toNat : Int) (6 : Int)<|rP 1 41 (.bool false)<|eN<|cF<|wp_skip<|inN<|nxt<|sR<|rq 0 55 (.agg ((frmh f.kind f.frm f.dst).flatten.toArray)) rfl (lA hb4 (frmL_size (frmL_sz rfl rfl rfl rfl rfl rfl)))<|rU 1 rfl (sA (frmh f.kind f.frm f.dst).flatten.toArray (frmL_size (frmL_sz rfl rfl rfl rfl rfl rfl)) (qO ch4 (qT ch3 hb2)) (frmL_size (frmL_sz rfl rfl rfl rfl rfl rfl))) fun W24 hb21 ch23 zz23 => eN<|wp_ret<|?_
 have kk43 : Chg [] w W1 := zA ch1
 have kk44 := kA kk43 ch2
 have kk45 := kA kk44 ch3
 have kk46 := kB kk45 ch4
 have kk47 := kB kk46 ch23
 refine Wk.ret (.agg (frmh f.kind f.frm f.dst).flatten.toArray) rfl (results_cell_row rfl _ _ W1.heap.size 39 (frmh f.kind f.frm f.dst).flatten.toArray (0, 0) _ (by kernel_rfl) hb21 Tryd.underlying39 rfl (by rw [(frmL_size (frmL_sz rfl rfl rfl rfl rfl rfl))]; kernel_rfl)) ?_
 exact ⟨(by first | (rw [bareM_0 (fun e_ => by have h_ : f.kind.toNat = 1 := congrArg UInt8.toNat e_; omega) (fun e_ => by have h_ : f.kind.toNat = 2 := congrArg UInt8.toNat e_; omega) (fun e_ => by have h_ : f.kind.toNat = 3 := congrArg UInt8.toNat e_; omega) (fun e_ => by have h_ : f.kind.toNat = 4 := congrArg UInt8.toNat e_; omega) (fun e_ => by have h_ : f.kind.toNat = 5 := congrArg UInt8.toNat e_; omega) (fun e_ => by have h_ : f.kind.toNat = 6 := congrArg UInt8.toNat e_; omega), bareZ_0 (fun e_ => by have h_ : f.kind.toNat = 1 := congrArg UInt8.toNat e_; omega) (fun e_ => by have h_ : f.kind.toNat = 2 := congrArg UInt8.toNat e_; omega) (fun e_ => by have h_ : f.kind.toNat = 6 := congrArg UInt8.toNat e_; omega)]; done) | (rw [bareM_0 (fun e_ => by have h_ : f.kind.toNat = 1 := congrArg UInt8.toNat e_; omega) (fun e_ => by have h_ : f.kind.toNat = 2 := congrArg UInt8.toNat e_; omega) (fun e_ => by have h_ : f.kind.toNat = 3 := congrArg UInt8.toNat e_; omega) (fun e_ => by have h_ : f.kind.toNat = 4 := congrArg UInt8.toNat e_; omega) (fun e_ => by have h_ : f.kind.toNat = 5 := congrArg UInt8.toNat e_; omega) (fun e_ => by have h_ : f.kind.toNat = 6 := congrArg UInt8.toNat e_; omega), bareZ_0 (fun e_ => by have h_ : f.kind.toNat = 1 := congrArg UInt8.toNat e_; omega) (fun e_ => by have h_ : f.kind.toNat = 2 := congrArg UInt8.toNat e_; omega) (fun e_ => by have h_ : f.kind.toNat = 6 := congrArg UInt8.toNat e_; omega)]; rfl)), kk47⟩
theorem Same_any (f : Frm) (z : Zs) (g : Frm) (y : Zs) (w : World) (hL : LiesF w z f) (hI : FrmIn f) (hM : LiesF w y g) (hJ : FrmIn g) : Calls Tryd.prog 10 #[.agg (frmP f z).flatten.toArray, .agg (frmP g y).flatten.toArray] w fun e w' => ∃ v, e = .returned (.bool v) ∧ (v = true ↔ f = g) ∧ Chg [] w w' := by
 have hLin_ : z.In fun g => g < w.heap.size → Wk.Off g [] := ⟨fun _ _ _ _ => trivial, fun _ _ _ _ => trivial, fun _ _ _ _ => trivial, fun _ _ _ _ => trivial, fun _ _ _ _ => trivial⟩
 have hLunc_ := hL.nu.nc
 have hLucm_ := hL.nu.cm
 have hLpnc_ := hL.np.nc
 have hLpcm_ := hL.np.cm
 have hLinc_ := hL.ni.nc
 have hLicm_ := hL.ni.cm
 have hLync_ := hL.ny.nc
 have hLycm_ := hL.ny.cm
 have hLfnc_ := hL.nf.nc
 have hLfcm_ := hL.nf.cm
 have hMin_ : y.In fun g => g < w.heap.size → Wk.Off g [] := ⟨fun _ _ _ _ => trivial, fun _ _ _ _ => trivial, fun _ _ _ _ => trivial, fun _ _ _ _ => trivial, fun _ _ _ _ => trivial⟩
 have hMunc_ := hM.nu.nc
 have hMucm_ := hM.nu.cm
 have hMpnc_ := hM.np.nc
 have hMpcm_ := hM.np.cm
 have hMinc_ := hM.ni.nc
 have hMicm_ := hM.ni.cm
 have hMync_ := hM.ny.nc
 have hMycm_ := hM.ny.cm
 have hMfnc_ := hM.nf.nc
 have hMfcm_ := hM.nf.cm
 refine calls_of_wp Tryd.func10 rfl ?_
 refine sR<|nW 0 2 ((frmP f z).flatten.toArray) 39 fun W1 hb1 ch1 sz1 => nW 1 3 ((frmP g y).flatten.toArray) 39 fun W2 hb2 ch2 sz2 => rP 2 4 (.bool false)<|eN<|wp_seq<|?_
 refine Wk.cut (fun a wj => ∃ (q5 : Nat) (q6 : Nat), a = SameF_J1_1 a.tmps (pt w.heap.size 0) (pt W1.heap.size 0) (pt q5 0) (pt q6 0) ∧ Chg [] W2 wj ∧ wj.heap[q5]? = some (.cells #[.int .i64 f.pTo, .int .u8 f.pKind.toNat, .int .u64 f.pSeq, .int .i64 f.pAbout, .slice z.u.A z.u.n z.u.c] 27 (0, 0)) ∧ wj.heap[q6]? = some (.cells #[.int .i64 g.pTo, .int .u8 g.pKind.toNat, .int .u64 g.pSeq, .int .i64 g.pAbout, .slice y.u.A y.u.n y.u.c] 27 (0, 0))) ?_ ?_
 ·refine dReg ([]) (by kernel_rfl) ?_
  intro W3 ch3 sz3
  have zz3 := ch3.size
  have sS1 : Chg ([]) W3 W3 := (Chg.refl _).more (by simp)
  refine dW 0 9 (pt w.heap.size 3) sS1 ?_
  refine dV 1 10 (.agg #[.int .i64 f.pTo, .int .u8 f.pKind.toNat, .int .u64 f.pSeq, .int .i64 f.pAbout, .slice z.u.A z.u.n z.u.c]) rfl rfl (fun w' hw' => lR 3 [.int .i64 f.pTo, .int .u8 f.pKind.toNat, .int .u64 f.pSeq, .int .i64 f.pAbout, .slice z.u.A z.u.n z.u.c] (show World.rangeAt _ _ (0 + 3) _ from segs_rng hI.sz (range_row (qT hw' (qT ch3 (qT ch2 hb1)))) 3 5 rfl rfl)) sS1 ?_
  refine dW 2 11 (pt W1.heap.size 3) sS1 ?_
  refine dV 3 12 (.agg #[.int .i64 g.pTo, .int .u8 g.pKind.toNat, .int .u64 g.pSeq, .int .i64 g.pAbout, .slice y.u.A y.u.n y.u.c]) rfl rfl (fun w' hw' => lR 3 [.int .i64 g.pTo, .int .u8 g.pKind.toNat, .int .u64 g.pSeq, .int .i64 g.pAbout, .slice y.u.A y.u.n y.u.c] (show World.rangeAt _ _ (0 + 3) _ from segs_rng hJ.sz (range_row (qT hw' (qT ch3 hb2))) 3 5 rfl rfl)) sS1 ?_
  refine dOp2 4 5 (by kernel_rfl) ?_ ?_
  ·refine oN 5 #[.int .i64 0, .int .u8 0, .int .u64 0, .int .i64 0, .slice none 0 0] 27 fun W4 hb3 ch4 sz4 => ?_
   have sS2 := kA sS1 ch4
   refine ⟨sS2, ?_⟩
   refine dOp 5 (by kernel_rfl) ?_
   refine oN 6 #[.int .i64 0, .int .u8 0, .int .u64 0, .int .i64 0, .slice none 0 0] 27 fun W5 hb4 ch5 sz5 => ?_
   have sS3 := kA sS2 ch5
   refine ⟨sS3, ?_⟩
   refine dOp 6 (by kernel_rfl) ?_
   refine oU rfl (Wk.storeR 27 (.tmp 5) (.tmp 10) rfl W3.heap.size 0 (by kernel_rfl) ([.int .i64 f.pTo, .int .u8 f.pKind.toNat, .int .u64 f.pSeq, .int .i64 f.pAbout, .slice z.u.A z.u.n z.u.c]) (by kernel_rfl) (by kernel_rfl) (by intro v hv; simp at hv; rcases hv with h | h | h | h | h <;> (subst h; rfl)) 27 ([.int .i64 0, .int .u8 0, .int .u64 0, .int .i64 0, .slice none 0 0]) (qT ch5 hb3) (by simp)) fun W6 hb5 ch6 _ => ?_
   replace hb5 : W6.heap[W3.heap.size]? = some (.cells #[.int .i64 f.pTo, .int .u8 f.pKind.toNat, .int .u64 f.pSeq, .int .i64 f.pAbout, .slice z.u.A z.u.n z.u.c] 27 (0, 0)) := hb5
   have zz6 := ch6.size
   have sS4 := kB sS3 ch6
   refine ⟨sS4, ?_⟩
   refine dOp 7 (by kernel_rfl) ?_
   refine oU rfl (Wk.storeR 27 (.tmp 6) (.tmp 12) rfl W4.heap.size 0 (by kernel_rfl) ([.int .i64 g.pTo, .int .u8 g.pKind.toNat, .int .u64 g.pSeq, .int .i64 g.pAbout, .slice y.u.A y.u.n y.u.c]) (by kernel_rfl) (by kernel_rfl) (by intro v hv; simp at hv; rcases hv with h | h | h | h | h <;> (subst h; rfl)) 27 ([.int .i64 0, .int .u8 0, .int .u64 0, .int .i64 0, .slice none 0 0]) (qO ch6 hb4) (by simp)) fun W7 hb6 ch7 _ => ?_
   replace hb6 : W7.heap[W4.heap.size]? = some (.cells #[.int .i64 g.pTo, .int .u8 g.pKind.toNat, .int .u64 g.pSeq, .int .i64 g.pAbout, .slice y.u.A y.u.n y.u.c] 27 (0, 0)) := hb6
   have zz7 := ch7.size
   have sS5 := kB sS4 ch7
   refine ⟨sS5, ?_⟩
   refine dN<|?_
   exact ⟨W3.heap.size, W4.heap.size, by kernel_rfl, (Chg.step (Chg.step (Chg.step (Chg.step (Chg.step ((Chg.refl _).more (by simp) : Chg [] W2 W2) ch3 trivial) ch4 trivial) ch5 trivial) ch6 ⟨.inr (by omega), trivial⟩) ch7 ⟨.inr (by omega), trivial⟩), (qO ch7 hb5), hb6⟩
  refine oN 6 #[.int .i64 0, .int .u8 0, .int .u64 0, .int .i64 0, .slice none 0 0] 27 fun W8 hb7 ch8 sz6 => ?_
  have sS6 := kA sS1 ch8
  refine ⟨sS6, ?_⟩
  refine dOp 4 (by kernel_rfl) ?_
  refine oN 5 #[.int .i64 0, .int .u8 0, .int .u64 0, .int .i64 0, .slice none 0 0] 27 fun W10 hb8 ch9 sz7 => ?_
  have sS7 := kA sS6 ch9
  refine ⟨sS7, ?_⟩
  refine dOp 6 (by kernel_rfl) ?_
  refine oU rfl (Wk.storeR 27 (.tmp 5) (.tmp 10) rfl W8.heap.size 0 (by kernel_rfl) ([.int .i64 f.pTo, .int .u8 f.pKind.toNat, .int .u64 f.pSeq, .int .i64 f.pAbout, .slice z.u.A z.u.n z.u.c]) (by kernel_rfl) (by kernel_rfl) (by intro v hv; simp at hv; rcases hv with h | h | h | h | h <;> (subst h; rfl)) 27 ([.int .i64 0, .int .u8 0, .int .u64 0, .int .i64 0, .slice none 0 0]) hb8 (by simp)) fun W11 hb9 ch10 _ => ?_
  replace hb9 : W11.heap[W8.heap.size]? = some (.cells #[.int .i64 f.pTo, .int .u8 f.pKind.toNat, .int .u64 f.pSeq, .int .i64 f.pAbout, .slice z.u.A z.u.n z.u.c] 27 (0, 0)) := hb9
  have zz10 := ch10.size
  have sS8 := kB sS7 ch10
  refine ⟨sS8, ?_⟩
  refine dOp 7 (by kernel_rfl) ?_
  refine oU rfl (Wk.storeR 27 (.tmp 6) (.tmp 12) rfl W3.heap.size 0 (by kernel_rfl) ([.int .i64 g.pTo, .int .u8 g.pKind.toNat, .int .u64 g.pSeq, .int .i64 g.pAbout, .slice y.u.A y.u.n y.u.c]) (by kernel_rfl) (by kernel_rfl) (by intro v hv; simp at hv; rcases hv with h | h | h | h | h <;> (subst h; rfl)) 27 ([.int .i64 0, .int .u8 0, .int .u64 0, .int .i64 0, .slice none 0 0]) (qO ch10 (qT ch9 hb7)) (by simp)) fun W12 hb10 ch11 _ => ?_
  replace hb10 : W12.heap[W3.heap.size]? = some (.cells #[.int .i64 g.pTo, .int .u8 g.pKind.toNat, .int .u64 g.pSeq, .int .i64 g.pAbout, .slice y.u.A y.u.n y.u.c] 27 (0, 0)) := hb10
  have zz11 := ch11.size
  have sS9 := kB sS8 ch11
  refine ⟨sS9, ?_⟩
  refine dN<|?_
  exact ⟨W8.heap.size, W3.heap.size, by kernel_rfl, (Chg.step (Chg.step (Chg.step (Chg.step (Chg.step ((Chg.refl _).more (by simp) : Chg [] W2 W2) ch3 trivial) ch8 trivial) ch9 trivial) ch10 ⟨.inr (by omega), trivial⟩) ch11 ⟨.inr (by omega), trivial⟩), (qO ch11 hb9), hb10⟩
 rintro aa1 W13 ⟨q5, q6, hF1, ch12, hq5, hq6⟩
 have zz12 := ch12.size
 generalize aa1.tmps = bb1 at hF1
 subst hF1
 refine nxt<|wp_seq<|?_
 refine Wk.cut (fun a wj => ∃ (q7 : Nat) (q8 : Nat), a = SameF_J2_2 a.tmps (pt w.heap.size 0) (pt W1.heap.size 0) (pt q5 0) (pt q6 0) (pt q7 0) (pt q8 0) ∧ Chg [] W13 wj ∧ wj.heap[q7]? = some (.cells (Mur.msgC f.gos.kind z.p.A z.p.n z.p.c f.gos.sum f.gos.cnt z.i.A z.i.n z.i.c f.gos.ans).toArray 32 (0, 0)) ∧ wj.heap[q8]? = some (.cells (Mur.msgC g.gos.kind y.p.A y.p.n y.p.c g.gos.sum g.gos.cnt y.i.A y.i.n y.i.c g.gos.ans).toArray 32 (0, 0))) ?_ ?_
 ·refine dReg ([]) (by kernel_rfl) ?_
  intro W14 ch13 sz8
  have zz13 := ch13.size
  have sS10 : Chg ([]) W14 W14 := (Chg.refl _).more (by simp)
  refine dW 0 13 (pt w.heap.size 8) sS10 ?_
  refine dV 1 14 (.agg ((Mur.msgC f.gos.kind z.p.A z.p.n z.p.c f.gos.sum f.gos.cnt z.i.A z.i.n z.i.c f.gos.ans).toArray)) rfl rfl (fun w' hw' => lR 8 (Mur.msgC f.gos.kind z.p.A z.p.n z.p.c f.gos.sum f.gos.cnt z.i.A z.i.n z.i.c f.gos.ans) (show World.rangeAt _ _ (0 + 8) _ from segs_rng hI.sz (range_row (qT hw' (qT ch13 (qT ch12 (qT ch2 hb1))))) 8 6 rfl rfl) (by rw [msgC_length hI.ok.sum]; kernel_rfl)) sS10 ?_
  refine dW 2 15 (pt W1.heap.size 8) sS10 ?_
  refine dV 3 16 (.agg ((Mur.msgC g.gos.kind y.p.A y.p.n y.p.c g.gos.sum g.gos.cnt y.i.A y.i.n y.i.c g.gos.ans).toArray)) rfl rfl (fun w' hw' => lR 8 (Mur.msgC g.gos.kind y.p.A y.p.n y.p.c g.gos.sum g.gos.cnt y.i.A y.i.n y.i.c g.gos.ans) (show World.rangeAt _ _ (0 + 8) _ from segs_rng hJ.sz (range_row (qT hw' (qT ch13 (qT ch12 hb2)))) 8 6 rfl rfl) (by rw [msgC_length hJ.ok.sum]; kernel_rfl)) sS10 ?_
  refine dOp2 4 5 (by kernel_rfl) ?_ ?_
  ·refine oN 7 ZM 32 fun W15 hb11 ch14 sz9 => ?_
   have sS11 := kA sS10 ch14
   refine ⟨sS11, ?_⟩
   refine dOp 5 (by kernel_rfl) ?_
   refine oN 8 ZM 32 fun W16 hb12 ch15 sz10 => ?_
   have sS12 := kA sS11 ch15
   refine ⟨sS12, ?_⟩
   refine dOp 6 (by kernel_rfl) ?_
   refine oU rfl (sB (Mur.msgC f.gos.kind z.p.A z.p.n z.p.c f.gos.sum f.gos.cnt z.i.A z.i.n z.i.c f.gos.ans).toArray (msgC_size hI.ok.sum) msgC_all (qT ch15 hb11) (by kernel_rfl)) fun W17 hb13 ch16 zz16 => ?_
   have sS13 := kB sS12 ch16
   refine ⟨sS13, ?_⟩
   refine dOp 7 (by kernel_rfl) ?_
   refine oU rfl (sB (Mur.msgC g.gos.kind y.p.A y.p.n y.p.c g.gos.sum g.gos.cnt y.i.A y.i.n y.i.c g.gos.ans).toArray (msgC_size hJ.ok.sum) msgC_all (qO ch16 hb12) (by kernel_rfl)) fun W18 hb14 ch17 zz17 => ?_
   have sS14 := kB sS13 ch17
   refine ⟨sS14, ?_⟩
   refine dN<|?_
   exact ⟨W14.heap.size, W15.heap.size, by kernel_rfl, (Chg.step (Chg.step (Chg.step (Chg.step (Chg.step ((Chg.refl _).more (by simp) : Chg [] W13 W13) ch13 trivial) ch14 trivial) ch15 trivial) ch16 ⟨.inr (by omega), trivial⟩) ch17 ⟨.inr (by omega), trivial⟩), (qO ch17 hb13), hb14⟩
  refine oN 8 ZM 32 fun W19 hb15 ch18 sz11 => ?_
  have sS15 := kA sS10 ch18
  refine ⟨sS15, ?_⟩
  refine dOp 4 (by kernel_rfl) ?_
  refine oN 7 ZM 32 fun W20 hb16 ch19 sz12 => ?_
  have sS16 := kA sS15 ch19
  refine ⟨sS16, ?_⟩
  refine dOp 6 (by kernel_rfl) ?_
  refine oU rfl (sB (Mur.msgC f.gos.kind z.p.A z.p.n z.p.c f.gos.sum f.gos.cnt z.i.A z.i.n z.i.c f.gos.ans).toArray (msgC_size hI.ok.sum) msgC_all hb16 (by kernel_rfl)) fun W21 hb17 ch20 zz20 => ?_
  have sS17 := kB sS16 ch20
  refine ⟨sS17, ?_⟩
  refine dOp 7 (by kernel_rfl) ?_
  refine oU rfl (sB (Mur.msgC g.gos.kind y.p.A y.p.n y.p.c g.gos.sum g.gos.cnt y.i.A y.i.n y.i.c g.gos.ans).toArray (msgC_size hJ.ok.sum) msgC_all (qO ch20 (qT ch19 hb15)) (by kernel_rfl)) fun W22 hb18 ch21 zz21 => ?_
  have sS18 := kB sS17 ch21
  refine ⟨sS18, ?_⟩
  refine dN<|?_
  exact ⟨W19.heap.size, W14.heap.size, by kernel_rfl, (Chg.step (Chg.step (Chg.step (Chg.step (Chg.step ((Chg.refl _).more (by simp) : Chg [] W13 W13) ch13 trivial) ch18 trivial) ch19 trivial) ch20 ⟨.inr (by omega), trivial⟩) ch21 ⟨.inr (by omega), trivial⟩), (qO ch21 hb17), hb18⟩
 rintro aa2 W23 ⟨q7, q8, hF2, ch22, hq7, hq8⟩
 have zz22 := ch22.size
 generalize aa2.tmps = bb2 at hF2
 subst hF2
 refine nxt<|sR<|rP 0 17 (pt w.heap.size 0)<|rF 1 18 0 (.int .u8 f.kind.toNat) hI.sz (qT ch22 (qT ch12 (qT ch2 hb1))) 0<|rP 2 19 (pt W1.heap.size 0)<|rF 3 20 0 (.int .u8 g.kind.toNat) hJ.sz (qT ch22 (qT ch12 hb2)) 0 ?_
 by_cases hx1 : (f.kind.toNat : Int) = (g.kind.toNat : Int)
 ·refine eT 4 21 (f.kind.toNat : Int) (g.kind.toNat : Int)<|rP 5 22 (.bool true)<|rP 6 23 (pt w.heap.size 1)<|rF 7 24 1 (.int .i64 f.frm) hI.sz (qT ch22 (qT ch12 (qT ch2 hb1))) 1<|rP 8 25 (pt W1.heap.size 1)<|rF 9 26 1 (.int .i64 g.frm) hJ.sz (qT ch22 (qT ch12 hb2)) 1 ?_
  by_cases hx2 : f.frm = g.frm
  ·refine eT 10 27 f.frm g.frm<|rP 11 28 (.bool true)<|rP 12 29 (.bool true)<|rP 13 30 (pt w.heap.size 2) ?_
   refine Wk.norm 155 [(2, pt w.heap.size 0), (3, pt W1.heap.size 0), (5, pt q5 0), (6, pt q6 0), (7, pt q7 0), (8, pt q8 0), (29, .bool true), (30, pt w.heap.size 2)] (by kernel_rfl) (by kernel_rfl) (by kernel_rfl) ?_
   intro bb3
   refine rF 14 31 2 (.int .i64 f.dst) hI.sz (qT ch22 (qT ch12 (qT ch2 hb1))) 2<|rP 15 32 (pt W1.heap.size 2)<|rF 16 33 2 (.int .i64 g.dst) hJ.sz (qT ch22 (qT ch12 hb2)) 2 ?_
   by_cases hx3 : f.dst = g.dst
   ·refine eT 17 34 f.dst g.dst<|rP 18 35 (.bool true)<|rP 19 36 (.bool true)<|rP 20 37 (pt q5 0)<|rL 21 38 0 (.int .i64 f.pTo) (qT ch22 hq5)<|rP 22 39 (pt q6 0)<|rL 23 40 0 (.int .i64 g.pTo) (qT ch22 hq6) ?_
    by_cases hx4 : f.pTo = g.pTo
    ·refine eT 24 41 f.pTo g.pTo<|rP 25 42 (.bool true)<|rP 26 43 (.bool true)<|rP 27 44 (pt q5 1) ?_
     refine Wk.norm 155 [(2, pt w.heap.size 0), (3, pt W1.heap.size 0), (5, pt q5 0), (6, pt q6 0), (7, pt q7 0), (8, pt q8 0), (43, .bool true), (44, pt q5 1)] (by kernel_rfl) (by kernel_rfl) (by kernel_rfl) ?_
     intro bb4
     refine rL 28 45 1 (.int .u8 f.pKind.toNat) (qT ch22 hq5)<|rP 29 46 (pt q6 1)<|rL 30 47 1 (.int .u8 g.pKind.toNat) (qT ch22 hq6) ?_
     by_cases hx5 : (f.pKind.toNat : Int) = (g.pKind.toNat : Int)
     ·refine eT 31 48 (f.pKind.toNat : Int) (g.pKind.toNat : Int)<|rP 32 49 (.bool true)<|rP 33 50 (.bool true)<|rP 34 51 (pt q5 2)<|rL 35 52 2 (.int .u64 f.pSeq) (qT ch22 hq5)<|rP 36 53 (pt q6 2)<|rL 37 54 2 (.int .u64 g.pSeq) (qT ch22 hq6) ?_
      by_cases hx6 : (f.pSeq : Int) = (g.pSeq : Int)
      ·refine eT 38 55 (f.pSeq : Int) (g.pSeq : Int)<|rP 39 56 (.bool true)<|rP 40 57 (.bool true)<|rP 41 58 (pt q5 3) ?_
       refine Wk.norm 155 [(2, pt w.heap.size 0), (3, pt W1.heap.size 0), (5, pt q5 0), (6, pt q6 0), (7, pt q7 0), (8, pt q8 0), (57, .bool true), (58, pt q5 3)] (by kernel_rfl) (by kernel_rfl) (by kernel_rfl) ?_
       intro bb5
       refine rL 42 59 3 (.int .i64 f.pAbout) (qT ch22 hq5)<|rP 43 60 (pt q6 3)<|rL 44 61 3 (.int .i64 g.pAbout) (qT ch22 hq6) ?_
       by_cases hx7 : f.pAbout = g.pAbout
       ·refine eT 45 62 f.pAbout g.pAbout<|rP 46 63 (.bool true)<|rP 47 64 (.bool true)<|rP 48 65 (pt q5 4)<|rL 49 66 4 (.slice z.u.A z.u.n z.u.c) (qT ch22 hq5)<|rP 50 67 (pt q6 4)<|rL 51 68 4 (.slice y.u.A y.u.n y.u.c) (qT ch22 hq6) ?_
        have kk1 : Chg [] w W1 := zA ch1
        have kk2 := kA kk1 ch2
        have kk3 := kA kk2 ch12
        have kk4 := kA kk3 ch22
        refine rK 52 69 (EqualU_any z.u.A z.u.n z.u.c y.u.A y.u.n y.u.c f.pUpd g.pUpd W23 (LiesF.chg hL kk4 hLin_).upd (LiesF.chg hM kk4 hMin_).upd (fun x_ h_ => ⟨hI.upd x_ h_, hI.ok.upd x_ h_⟩) (fun x_ h_ => ⟨hJ.upd x_ h_, hJ.ok.upd x_ h_⟩) (by omega)) ?_
        by_cases hpr1 : f.pUpd = g.pUpd
        ·rw [decide_eq_true hpr1]
         rintro _ W24 ⟨rfl, ch23⟩
         have zz23 := ch23.size
         refine rP 53 70 (.bool true)<|rP 54 71 (.bool true)<|rP 55 72 (pt q7 0) ?_
         refine Wk.norm 155 [(2, pt w.heap.size 0), (3, pt W1.heap.size 0), (7, pt q7 0), (8, pt q8 0), (71, .bool true), (72, pt q7 0)] (by kernel_rfl) (by kernel_rfl) (by kernel_rfl) ?_
         intro bb6
         refine rq 56 73 _ rfl (ld 5 72 q7 0 (.int .u8 f.gos.kind.toNat) (show World.cell? _ ⟨_, 0 + 0, _⟩ = _ from msg_kind (range_row (qT ch23 hq7))))<|rP 57 74 (pt q8 0)<|rq 58 75 _ rfl (ld 5 74 q8 0 (.int .u8 g.gos.kind.toNat) (show World.cell? _ ⟨_, 0 + 0, _⟩ = _ from msg_kind (range_row (qT ch23 hq8)))) ?_
         by_cases hx8 : (f.gos.kind.toNat : Int) = (g.gos.kind.toNat : Int)
         ·refine eT 59 76 (f.gos.kind.toNat : Int) (g.gos.kind.toNat : Int)<|rP 60 77 (.bool true)<|rP 61 78 (.bool true)<|rP 62 79 (pt q7 1)<|rq 63 80 _ rfl (ld 22 79 q7 1 (.slice z.p.A z.p.n z.p.c) (show World.cell? _ ⟨_, 0 + 1, _⟩ = _ from msg_pre (range_row (qT ch23 hq7))))<|rP 64 81 (pt q8 1)<|rq 65 82 _ rfl (ld 22 81 q8 1 (.slice y.p.A y.p.n y.p.c) (show World.cell? _ ⟨_, 0 + 1, _⟩ = _ from msg_pre (range_row (qT ch23 hq8)))) ?_
          have kk5 := kA kk4 ch23
          refine rK 66 83 (BEqual_any z.p.A z.p.n z.p.c y.p.A y.p.n y.p.c f.gos.pre g.gos.pre W24 (byt_chg hL.pre kk5 (fun g off e hl => trivial)) (byt_chg hM.pre kk5 (fun g off e hl => trivial))) ?_
          by_cases hpr2 : f.gos.pre = g.gos.pre
          ·rw [decide_eq_true hpr2]
           rintro _ W25 ⟨rfl, ch24⟩
           have zz24 := ch24.size
           refine rP 67 84 (.bool true)<|rP 68 85 (.bool true)<|rP 69 86 (pt q7 2) ?_
           refine Wk.norm 155 [(2, pt w.heap.size 0), (3, pt W1.heap.size 0), (7, pt q7 0), (8, pt q8 0), (85, .bool true), (86, pt q7 2)] (by kernel_rfl) (by kernel_rfl) (by kernel_rfl) ?_
           intro bb7
           refine rq 70 87 (.agg ((b8s f.gos.sum).toArray)) rfl (lR 2 (b8s f.gos.sum) (show World.rangeAt _ _ (0 + 2) _ from msg_sum (range_row (qT ch24 (qT ch23 hq7)))) (by rw [b8s_length, hI.ok.sum]; kernel_rfl))<|rP 71 88 (pt q8 2)<|rq 72 89 (.agg ((b8s g.gos.sum).toArray)) rfl (lR 2 (b8s g.gos.sum) (show World.rangeAt _ _ (0 + 2) _ from msg_sum (range_row (qT ch24 (qT ch23 hq8)))) (by rw [b8s_length, hJ.ok.sum]; kernel_rfl)) ?_
           by_cases hpr3 : f.gos.sum = g.gos.sum
           ·refine rq 73 90 (.bool true) rfl (run_eql_yes digT f.gos.sum g.gos.sum hI.ok.sum hJ.ok.sum hpr3 _ (.tmp 87) (.tmp 89) 29 rfl (by kernel_rfl) (by kernel_rfl))<|rP 74 91 (.bool true)<|rP 75 92 (.bool true)<|rP 76 93 (pt q7 34)<|rq 77 94 _ rfl (ld 3 93 q7 34 (.int .i64 f.gos.cnt) (show World.cell? _ ⟨_, 0 + 34, _⟩ = _ from msg_cnt hI.ok.sum (range_row (qT ch24 (qT ch23 hq7)))))<|rP 78 95 (pt q8 34)<|rq 79 96 _ rfl (ld 3 95 q8 34 (.int .i64 g.gos.cnt) (show World.cell? _ ⟨_, 0 + 34, _⟩ = _ from msg_cnt hJ.ok.sum (range_row (qT ch24 (qT ch23 hq8))))) ?_
            by_cases hx9 : f.gos.cnt = g.gos.cnt
            ·refine eT 80 97 f.gos.cnt g.gos.cnt<|rP 81 98 (.bool true)<|rP 82 99 (.bool true)<|rP 83 100 (pt q7 35) ?_
             refine Wk.norm 155 [(2, pt w.heap.size 0), (3, pt W1.heap.size 0), (7, pt q7 0), (8, pt q8 0), (99, .bool true), (100, pt q7 35)] (by kernel_rfl) (by kernel_rfl) (by kernel_rfl) ?_
             intro bb8
             refine rq 84 101 _ rfl (ld 30 100 q7 35 (.slice z.i.A z.i.n z.i.c) (show World.cell? _ ⟨_, 0 + 35, _⟩ = _ from msg_items hI.ok.sum (range_row (qT ch24 (qT ch23 hq7)))))<|rP 85 102 (pt q8 35)<|rq 86 103 _ rfl (ld 30 102 q8 35 (.slice y.i.A y.i.n y.i.c) (show World.cell? _ ⟨_, 0 + 35, _⟩ = _ from msg_items hJ.ok.sum (range_row (qT ch24 (qT ch23 hq8))))) ?_
             have kk6 := kA kk5 ch24
             refine rK 87 104 (EqualA_any z.i.A z.i.n z.i.c y.i.A y.i.n y.i.c f.gos.items g.gos.items W25 (LiesF.chg hL kk6 hLin_).its.slR (LiesF.chg hM kk6 hMin_).its.slR (fun _ _ => trivial) (fun _ _ => trivial) (by omega)) ?_
             by_cases hpr4 : f.gos.items = g.gos.items
             ·rw [decide_eq_true hpr4]
              rintro _ W26 ⟨rfl, ch25⟩
              have zz25 := ch25.size
              refine rP 88 105 (.bool true)<|rP 89 106 (.bool true)<|rP 90 107 (pt q7 36)<|rq 91 108 _ rfl (ld 4 107 q7 36 (.bool f.gos.ans) (show World.cell? _ ⟨_, 0 + 36, _⟩ = _ from msg_ans hI.ok.sum (range_row (qT ch25 (qT ch24 (qT ch23 hq7))))))<|rP 92 109 (pt q8 36)<|rq 93 110 _ rfl (ld 4 109 q8 36 (.bool g.gos.ans) (show World.cell? _ ⟨_, 0 + 36, _⟩ = _ from msg_ans hJ.ok.sum (range_row (qT ch25 (qT ch24 (qT ch23 hq8)))))) ?_
              by_cases hpr5 : f.gos.ans = g.gos.ans
              ·refine rq 94 111 _ rfl (boolT (b := decide (f.gos.ans = g.gos.ans)) (decide_eq_true hpr5) (run_eql_bool (.tmp 108) (.tmp 110) 4 rfl f.gos.ans g.gos.ans (by kernel_rfl) (by kernel_rfl)))<|rP 95 112 (.bool true)<|rP 96 113 (.bool true)<|rP 97 114 (pt w.heap.size 45) ?_
               refine Wk.norm 155 [(2, pt w.heap.size 0), (3, pt W1.heap.size 0), (113, .bool true), (114, pt w.heap.size 45)] (by kernel_rfl) (by kernel_rfl) (by kernel_rfl) ?_
               intro bb9
               refine rq 98 115 (.agg ((Mur.claimC f.cKey f.cNode f.cInc f.cCnt f.cGone).toArray)) rfl (lR 45 (Mur.claimC f.cKey f.cNode f.cInc f.cCnt f.cGone) (show World.rangeAt _ _ (0 + 45) _ from segs_rng hI.sz (range_row (qT ch25 (qT ch24 (qT ch23 (qT ch22 (qT ch12 (qT ch2 hb1))))))) 14 5 rfl rfl) (by rw [claimC_length hI.ok.key]; kernel_rfl))<|rP 99 116 (pt W1.heap.size 45)<|rq 100 117 (.agg ((Mur.claimC g.cKey g.cNode g.cInc g.cCnt g.cGone).toArray)) rfl (lR 45 (Mur.claimC g.cKey g.cNode g.cInc g.cCnt g.cGone) (show World.rangeAt _ _ (0 + 45) _ from segs_rng hJ.sz (range_row (qT ch25 (qT ch24 (qT ch23 (qT ch22 (qT ch12 hb2)))))) 14 5 rfl rfl) (by rw [claimC_length hJ.ok.key]; kernel_rfl)) ?_
               by_cases hpr6 : f.cKey = g.cKey ∧ f.cNode = g.cNode ∧ f.cInc = g.cInc ∧ f.cCnt = g.cCnt ∧ f.cGone = g.cGone
               ·refine rq 101 118 _ rfl (boolT (b := decide (f.cKey = g.cKey ∧ f.cNode = g.cNode ∧ f.cInc = g.cInc ∧ f.cCnt = g.cCnt ∧ f.cGone = g.cGone)) (decide_eq_true hpr6) (run_eql_claim (.tmp 115) (.tmp 117) 34 rfl hI.ok.key hJ.ok.key (wf64 hI.cNo.1 hI.cNo.2) (wf64 hJ.cNo.1 hJ.cNo.2) hI.ok.inc hJ.ok.inc hI.ok.cnt hJ.ok.cnt (by kernel_rfl) (by kernel_rfl)))<|rP 102 119 (.bool true)<|rP 103 120 (.bool true)<|rP 104 121 (pt w.heap.size 81)<|rq 105 122 (.agg ((Mur.attC f.att.k f.att.r f.att.n f.att.t).toArray)) rfl (lR 81 (Mur.attC f.att.k f.att.r f.att.n f.att.t) (show World.rangeAt _ _ (0 + 81) _ from segs_rng hI.sz (range_row (qT ch25 (qT ch24 (qT ch23 (qT ch22 (qT ch12 (qT ch2 hb1))))))) 19 4 frmL_att rfl) (by rw [attC_length f.att.hk f.att.hr f.att.ht]; kernel_rfl))<|rP 106 123 (pt W1.heap.size 81)<|rq 107 124 (.agg ((Mur.attC g.att.k g.att.r g.att.n g.att.t).toArray)) rfl (lR 81 (Mur.attC g.att.k g.att.r g.att.n g.att.t) (show World.rangeAt _ _ (0 + 81) _ from segs_rng hJ.sz (range_row (qT ch25 (qT ch24 (qT ch23 (qT ch22 (qT ch12 hb2)))))) 19 4 frmL_att rfl) (by rw [attC_length g.att.hk g.att.hr g.att.ht]; kernel_rfl)) ?_
                by_cases hpr7 : f.att = g.att
                ·refine rq 108 125 _ rfl (boolT (b := decide (f.att.k = g.att.k ∧ f.att.r = g.att.r ∧ f.att.n = g.att.n ∧ f.att.t = g.att.t)) (decide_eq_true ((Mur.Att.eq_iff f.att g.att).1 hpr7)) (run_eql_att (.tmp 122) (.tmp 124) 36 rfl f.att.hk f.att.hr f.att.ht g.att.hk g.att.hr g.att.ht f.att.hn g.att.hn (by kernel_rfl) (by kernel_rfl)))<|rP 109 126 (.bool true)<|rP 110 127 (.bool true)<|rP 111 128 (pt w.heap.size 178) ?_
                 refine Wk.norm 155 [(2, pt w.heap.size 0), (3, pt W1.heap.size 0), (127, .bool true), (128, pt w.heap.size 178)] (by kernel_rfl) (by kernel_rfl) (by kernel_rfl) ?_
                 intro bb10
                 refine rq 112 129 (.agg ((b8s f.root).toArray)) rfl (lR 178 (b8s f.root) (show World.rangeAt _ _ (0 + 178) _ from segs_row hI.sz (range_row (qT ch25 (qT ch24 (qT ch23 (qT ch22 (qT ch12 (qT ch2 hb1))))))) 23 rfl rfl) (by rw [b8s_length, hI.ok.root]; kernel_rfl))<|rP 113 130 (pt W1.heap.size 178)<|rq 114 131 (.agg ((b8s g.root).toArray)) rfl (lR 178 (b8s g.root) (show World.rangeAt _ _ (0 + 178) _ from segs_row hJ.sz (range_row (qT ch25 (qT ch24 (qT ch23 (qT ch22 (qT ch12 hb2)))))) 23 rfl rfl) (by rw [b8s_length, hJ.ok.root]; kernel_rfl)) ?_
                 by_cases hpr8 : f.root = g.root
                 ·refine rq 115 132 (.bool true) rfl (run_eql_yes digT f.root g.root hI.ok.root hJ.ok.root hpr8 _ (.tmp 129) (.tmp 131) 29 rfl (by kernel_rfl) (by kernel_rfl))<|rP 116 133 (.bool true)<|rP 117 134 (.bool true)<|rP 118 135 (pt w.heap.size 210)<|rF 119 136 210 (.int .i64 f.chunk) hI.sz (qT ch25 (qT ch24 (qT ch23 (qT ch22 (qT ch12 (qT ch2 hb1)))))) 24<|rP 120 137 (pt W1.heap.size 210)<|rF 121 138 210 (.int .i64 g.chunk) hJ.sz (qT ch25 (qT ch24 (qT ch23 (qT ch22 (qT ch12 hb2))))) 24 ?_
                  by_cases hx10 : f.chunk = g.chunk
                  ·refine eT 122 139 f.chunk g.chunk<|rP 123 140 (.bool true)<|rP 124 141 (.bool true)<|rP 125 142 (pt w.heap.size 211) ?_
                   refine Wk.norm 155 [(2, pt w.heap.size 0), (3, pt W1.heap.size 0), (141, .bool true), (142, pt w.heap.size 211)] (by kernel_rfl) (by kernel_rfl) (by kernel_rfl) ?_
                   intro bb11
                   refine rF 126 143 211 (.slice z.y.A z.y.n z.y.c) hI.sz (qT ch25 (qT ch24 (qT ch23 (qT ch22 (qT ch12 (qT ch2 hb1)))))) 25<|rP 127 144 (pt W1.heap.size 211)<|rF 128 145 211 (.slice y.y.A y.y.n y.y.c) hJ.sz (qT ch25 (qT ch24 (qT ch23 (qT ch22 (qT ch12 hb2))))) 25 ?_
                   have kk7 := kA kk6 ch25
                   refine rK 129 146 (BEqual_any z.y.A z.y.n z.y.c y.y.A y.y.n y.y.c f.byt g.byt W26 (byt_chg hL.byt kk7 (fun g off e hl => trivial)) (byt_chg hM.byt kk7 (fun g off e hl => trivial))) ?_
                   by_cases hpr9 : f.byt = g.byt
                   ·rw [decide_eq_true hpr9]
                    rintro _ W27 ⟨rfl, ch26⟩
                    have zz26 := ch26.size
                    refine rP 130 147 (.bool true)<|rP 131 148 (.bool true)<|rP 132 149 (pt w.heap.size 212)<|rF 133 150 212 (.slice z.f.A z.f.n z.f.c) hI.sz (qT ch26 (qT ch25 (qT ch24 (qT ch23 (qT ch22 (qT ch12 (qT ch2 hb1))))))) 26<|rP 134 151 (pt W1.heap.size 212)<|rF 135 152 212 (.slice y.f.A y.f.n y.f.c) hJ.sz (qT ch26 (qT ch25 (qT ch24 (qT ch23 (qT ch22 (qT ch12 hb2)))))) 26 ?_
                    have kk8 := kA kk7 ch26
                    refine rK 136 153 (EqualD_any z.f.A z.f.n z.f.c y.f.A y.f.n y.f.c f.prf g.prf W27 (LiesF.chg hL kk8 hLin_).prf (LiesF.chg hM kk8 hMin_).prf hI.ok.prf hJ.ok.prf (by omega)) ?_
                    by_cases hpr10 : f.prf = g.prf
                    ·rw [decide_eq_true hpr10]
                     rintro _ W28 ⟨rfl, ch27⟩
                     have zz27 := ch27.size
                     refine rP 137 154 (.bool true)<|rP 138 4 (.bool true)<|eN<|wp_ret<|?_
                     have kk9 := kA kk8 ch27
                     refine rt (.bool true) ?_
                     exact ⟨_, rfl, ⟨fun _ => Mur.frm_eq (by first | exact hx1 | omega) (by first | exact hx2 | omega) (by first | exact hx3 | omega) (by first | exact hx4 | omega) (by first | exact hx5 | omega) (by first | exact hx6 | omega) (by first | exact hx7 | omega) (hpr1) (by first | exact hx8 | omega) (hpr2) (hpr3) (by first | exact hx9 | omega) (hpr4) (hpr5) (hpr6) (hpr7) (hpr8) (by first | exact hx10 | omega) (hpr9) (hpr10), fun _ => rfl⟩, kk9⟩
                    rw [decide_eq_false hpr10]
                    rintro _ W29 ⟨rfl, ch28⟩
                    have zz28 := ch28.size
                    refine rP 137 154 (.bool false)<|rP 138 4 (.bool false)<|eN<|wp_ret<|?_
                    have kk10 := kA kk8 ch28
                    refine rt (.bool false) ?_
                    exact ⟨_, rfl, ⟨fun h_ => (by cases h_), fun e_ => absurd (congrArg (fun x_ : Frm => x_.prf) e_) (hpr10)⟩, kk10⟩
                   rw [decide_eq_false hpr9]
                   rintro _ W30 ⟨rfl, ch29⟩
                   have zz29 := ch29.size
                   refine Wk.many 155 8 130 [(141, .bool true), (146, .bool false)] 154 (.bool false) (by kernel_rfl) (by kernel_rfl) (by kernel_rfl) (by kernel_rfl) ?_
                   intro bb12
                   refine rP 138 4 (.bool false)<|eN<|wp_ret<|?_
                   have kk11 := kA kk7 ch29
                   refine rt (.bool false) ?_
                   exact ⟨_, rfl, ⟨fun h_ => (by cases h_), fun e_ => absurd (congrArg (fun x_ : Frm => x_.byt) e_) (hpr9)⟩, kk11⟩
                  refine eF 122 139 f.chunk g.chunk ?_
                  refine Wk.many 155 15 123 [(134, .bool true), (139, .bool false)] 154 (.bool false) (by kernel_rfl) (by kernel_rfl) (by kernel_rfl) (by kernel_rfl) ?_
                  intro bb13
                  refine rP 138 4 (.bool false)<|eN<|wp_ret<|?_
                  have kk12 := kA kk6 ch25
                  refine rt (.bool false) ?_
                  exact ⟨_, rfl, ⟨fun h_ => (by cases h_), fun e_ => absurd (congrArg (fun x_ : Frm => x_.chunk) e_) (by first | exact hx10 | omega)⟩, kk12⟩
                 refine rq 115 132 (.bool false) rfl (run_eql_no digT f.root g.root hI.ok.root hJ.ok.root hpr8 _ (.tmp 129) (.tmp 131) 29 rfl (by kernel_rfl) (by kernel_rfl)) ?_
                 refine Wk.many 155 22 116 [(127, .bool true), (132, .bool false)] 154 (.bool false) (by kernel_rfl) (by kernel_rfl) (by kernel_rfl) (by kernel_rfl) ?_
                 intro bb14
                 refine rP 138 4 (.bool false)<|eN<|wp_ret<|?_
                 have kk13 := kA kk6 ch25
                 refine rt (.bool false) ?_
                 exact ⟨_, rfl, ⟨fun h_ => (by cases h_), fun e_ => absurd (congrArg (fun x_ : Frm => x_.root) e_) (hpr8)⟩, kk13⟩
                refine rq 108 125 _ rfl (boolF (b := decide (f.att.k = g.att.k ∧ f.att.r = g.att.r ∧ f.att.n = g.att.n ∧ f.att.t = g.att.t)) (decide_eq_false (fun q_ => hpr7 ((Mur.Att.eq_iff f.att g.att).2 q_))) (run_eql_att (.tmp 122) (.tmp 124) 36 rfl f.att.hk f.att.hr f.att.ht g.att.hk g.att.hr g.att.ht f.att.hn g.att.hn (by kernel_rfl) (by kernel_rfl))) ?_
                refine Wk.many 155 29 109 [(120, .bool true), (125, .bool false)] 154 (.bool false) (by kernel_rfl) (by kernel_rfl) (by kernel_rfl) (by kernel_rfl) ?_
                intro bb15
                refine rP 138 4 (.bool false)<|eN<|wp_ret<|?_
                have kk14 := kA kk6 ch25
                refine rt (.bool false) ?_
                exact ⟨_, rfl, ⟨fun h_ => (by cases h_), fun e_ => absurd (congrArg (fun x_ : Frm => x_.att) e_) (hpr7)⟩, kk14⟩
               refine rq 101 118 _ rfl (boolF (b := decide (f.cKey = g.cKey ∧ f.cNode = g.cNode ∧ f.cInc = g.cInc ∧ f.cCnt = g.cCnt ∧ f.cGone = g.cGone)) (decide_eq_false hpr6) (run_eql_claim (.tmp 115) (.tmp 117) 34 rfl hI.ok.key hJ.ok.key (wf64 hI.cNo.1 hI.cNo.2) (wf64 hJ.cNo.1 hJ.cNo.2) hI.ok.inc hJ.ok.inc hI.ok.cnt hJ.ok.cnt (by kernel_rfl) (by kernel_rfl))) ?_
               refine Wk.many 155 36 102 [(113, .bool true), (118, .bool false)] 154 (.bool false) (by kernel_rfl) (by kernel_rfl) (by kernel_rfl) (by kernel_rfl) ?_
               intro bb16
               refine rP 138 4 (.bool false)<|eN<|wp_ret<|?_
               have kk15 := kA kk6 ch25
               refine rt (.bool false) ?_
               exact ⟨_, rfl, ⟨fun h_ => (by cases h_), fun e_ => absurd ⟨(congrArg (fun x_ : Frm => x_.cKey) e_), (congrArg (fun x_ : Frm => x_.cNode) e_), (congrArg (fun x_ : Frm => x_.cInc) e_), (congrArg (fun x_ : Frm => x_.cCnt) e_), (congrArg (fun x_ : Frm => x_.cGone) e_)⟩ (hpr6)⟩, kk15⟩
              refine rq 94 111 _ rfl (boolF (b := decide (f.gos.ans = g.gos.ans)) (decide_eq_false hpr5) (run_eql_bool (.tmp 108) (.tmp 110) 4 rfl f.gos.ans g.gos.ans (by kernel_rfl) (by kernel_rfl))) ?_
              refine Wk.many 155 43 95 [(106, .bool true), (111, .bool false)] 154 (.bool false) (by kernel_rfl) (by kernel_rfl) (by kernel_rfl) (by kernel_rfl) ?_
              intro bb17
              refine rP 138 4 (.bool false)<|eN<|wp_ret<|?_
              have kk16 := kA kk6 ch25
              refine rt (.bool false) ?_
              exact ⟨_, rfl, ⟨fun h_ => (by cases h_), fun e_ => absurd (congrArg (fun x_ : Frm => x_.gos.ans) e_) (hpr5)⟩, kk16⟩
             rw [decide_eq_false hpr4]
             rintro _ W31 ⟨rfl, ch30⟩
             have zz30 := ch30.size
             refine Wk.many 155 50 88 [(99, .bool true), (104, .bool false)] 154 (.bool false) (by kernel_rfl) (by kernel_rfl) (by kernel_rfl) (by kernel_rfl) ?_
             intro bb18
             refine rP 138 4 (.bool false)<|eN<|wp_ret<|?_
             have kk17 := kA kk6 ch30
             refine rt (.bool false) ?_
             exact ⟨_, rfl, ⟨fun h_ => (by cases h_), fun e_ => absurd (congrArg (fun x_ : Frm => x_.gos.items) e_) (hpr4)⟩, kk17⟩
            refine eF 80 97 f.gos.cnt g.gos.cnt ?_
            refine Wk.many 155 57 81 [(92, .bool true), (97, .bool false)] 154 (.bool false) (by kernel_rfl) (by kernel_rfl) (by kernel_rfl) (by kernel_rfl) ?_
            intro bb19
            refine rP 138 4 (.bool false)<|eN<|wp_ret<|?_
            have kk18 := kA kk5 ch24
            refine rt (.bool false) ?_
            exact ⟨_, rfl, ⟨fun h_ => (by cases h_), fun e_ => absurd (congrArg (fun x_ : Frm => x_.gos.cnt) e_) (by first | exact hx9 | omega)⟩, kk18⟩
           refine rq 73 90 (.bool false) rfl (run_eql_no digT f.gos.sum g.gos.sum hI.ok.sum hJ.ok.sum hpr3 _ (.tmp 87) (.tmp 89) 29 rfl (by kernel_rfl) (by kernel_rfl)) ?_
           refine Wk.many 155 64 74 [(85, .bool true), (90, .bool false)] 154 (.bool false) (by kernel_rfl) (by kernel_rfl) (by kernel_rfl) (by kernel_rfl) ?_
           intro bb20
           refine rP 138 4 (.bool false)<|eN<|wp_ret<|?_
           have kk19 := kA kk5 ch24
           refine rt (.bool false) ?_
           exact ⟨_, rfl, ⟨fun h_ => (by cases h_), fun e_ => absurd (congrArg (fun x_ : Frm => x_.gos.sum) e_) (hpr3)⟩, kk19⟩
          rw [decide_eq_false hpr2]
          rintro _ W32 ⟨rfl, ch31⟩
          have zz31 := ch31.size
          refine Wk.many 155 71 67 [(78, .bool true), (83, .bool false)] 154 (.bool false) (by kernel_rfl) (by kernel_rfl) (by kernel_rfl) (by kernel_rfl) ?_
          intro bb21
          refine rP 138 4 (.bool false)<|eN<|wp_ret<|?_
          have kk20 := kA kk5 ch31
          refine rt (.bool false) ?_
          exact ⟨_, rfl, ⟨fun h_ => (by cases h_), fun e_ => absurd (congrArg (fun x_ : Frm => x_.gos.pre) e_) (hpr2)⟩, kk20⟩
         refine eF 59 76 (f.gos.kind.toNat : Int) (g.gos.kind.toNat : Int) ?_
         refine Wk.many 155 78 60 [(71, .bool true), (76, .bool false)] 154 (.bool false) (by kernel_rfl) (by kernel_rfl) (by kernel_rfl) (by kernel_rfl) ?_
         intro bb22
         refine rP 138 4 (.bool false)<|eN<|wp_ret<|?_
         have kk21 := kA kk4 ch23
         refine rt (.bool false) ?_
         exact ⟨_, rfl, ⟨fun h_ => (by cases h_), fun e_ => absurd (congrArg (fun x_ : Frm => (x_.gos.kind.toNat : Int)) e_) (by first | exact hx8 | omega)⟩, kk21⟩
        rw [decide_eq_false hpr1]
        rintro _ W33 ⟨rfl, ch32⟩
        have zz32 := ch32.size
        refine Wk.many 155 85 53 [(64, .bool true), (69, .bool false)] 154 (.bool false) (by kernel_rfl) (by kernel_rfl) (by kernel_rfl) (by kernel_rfl) ?_
        intro bb23
        refine rP 138 4 (.bool false)<|eN<|wp_ret<|?_
        have kk22 := kA kk4 ch32
        refine rt (.bool false) ?_
        exact ⟨_, rfl, ⟨fun h_ => (by cases h_), fun e_ => absurd (congrArg (fun x_ : Frm => x_.pUpd) e_) (hpr1)⟩, kk22⟩
       refine eF 45 62 f.pAbout g.pAbout ?_
       refine Wk.many 155 92 46 [(57, .bool true), (62, .bool false)] 154 (.bool false) (by kernel_rfl) (by kernel_rfl) (by kernel_rfl) (by kernel_rfl) ?_
       intro bb24
       refine rP 138 4 (.bool false)<|eN<|wp_ret<|?_
       have kk23 : Chg [] w W1 := zA ch1
       have kk24 := kA kk23 ch2
       have kk25 := kA kk24 ch12
       have kk26 := kA kk25 ch22
       refine rt (.bool false) ?_
       exact ⟨_, rfl, ⟨fun h_ => (by cases h_), fun e_ => absurd (congrArg (fun x_ : Frm => x_.pAbout) e_) (by first | exact hx7 | omega)⟩, kk26⟩
      refine eF 38 55 (f.pSeq : Int) (g.pSeq : Int) ?_
      refine Wk.many 155 99 39 [(50, .bool true), (55, .bool false)] 154 (.bool false) (by kernel_rfl) (by kernel_rfl) (by kernel_rfl) (by kernel_rfl) ?_
      intro bb25
      refine rP 138 4 (.bool false)<|eN<|wp_ret<|?_
      have kk27 : Chg [] w W1 := zA ch1
      have kk28 := kA kk27 ch2
      have kk29 := kA kk28 ch12
      have kk30 := kA kk29 ch22
      refine rt (.bool false) ?_
      exact ⟨_, rfl, ⟨fun h_ => (by cases h_), fun e_ => absurd (congrArg (fun x_ : Frm => (x_.pSeq : Int)) e_) (by first | exact hx6 | omega)⟩, kk30⟩
     refine eF 31 48 (f.pKind.toNat : Int) (g.pKind.toNat : Int) ?_
     refine Wk.many 155 106 32 [(43, .bool true), (48, .bool false)] 154 (.bool false) (by kernel_rfl) (by kernel_rfl) (by kernel_rfl) (by kernel_rfl) ?_
     intro bb26
     refine rP 138 4 (.bool false)<|eN<|wp_ret<|?_
     have kk31 : Chg [] w W1 := zA ch1
     have kk32 := kA kk31 ch2
     have kk33 := kA kk32 ch12
     have kk34 := kA kk33 ch22
     refine rt (.bool false) ?_
     exact ⟨_, rfl, ⟨fun h_ => (by cases h_), fun e_ => absurd (congrArg (fun x_ : Frm => (x_.pKind.toNat : Int)) e_) (by first | exact hx5 | omega)⟩, kk34⟩
    refine eF 24 41 f.pTo g.pTo ?_
    refine Wk.many 155 113 25 [(36, .bool true), (41, .bool false)] 154 (.bool false) (by kernel_rfl) (by kernel_rfl) (by kernel_rfl) (by kernel_rfl) ?_
    intro bb27
    refine rP 138 4 (.bool false)<|eN<|wp_ret<|?_
    have kk35 : Chg [] w W1 := zA ch1
    have kk36 := kA kk35 ch2
    have kk37 := kA kk36 ch12
    have kk38 := kA kk37 ch22
    refine rt (.bool false) ?_
    exact ⟨_, rfl, ⟨fun h_ => (by cases h_), fun e_ => absurd (congrArg (fun x_ : Frm => x_.pTo) e_) (by first | exact hx4 | omega)⟩, kk38⟩
   refine eF 17 34 f.dst g.dst ?_
   refine Wk.many 155 120 18 [(29, .bool true), (34, .bool false)] 154 (.bool false) (by kernel_rfl) (by kernel_rfl) (by kernel_rfl) (by kernel_rfl) ?_
   intro bb28
   refine rP 138 4 (.bool false)<|eN<|wp_ret<|?_
   have kk39 : Chg [] w W1 := zA ch1
   have kk40 := kA kk39 ch2
   have kk41 := kA kk40 ch12
   have kk42 := kA kk41 ch22
   refine rt (.bool false) ?_
   exact ⟨_, rfl, ⟨fun h_ => (by cases h_), fun e_ => absurd (congrArg (fun x_ : Frm => x_.dst) e_) (by first | exact hx3 | omega)⟩, kk42⟩
  refine eF 10 27 f.frm g.frm ?_
  refine Wk.many 155 127 11 [(22, .bool true), (27, .bool false)] 154 (.bool false) (by kernel_rfl) (by kernel_rfl) (by kernel_rfl) (by kernel_rfl) ?_
  intro bb29
  refine rP 138 4 (.bool false)<|eN<|wp_ret<|?_
  have kk43 : Chg [] w W1 := zA ch1
  have kk44 := kA kk43 ch2
  have kk45 := kA kk44 ch12
  have kk46 := kA kk45 ch22
  refine rt (.bool false) ?_
  exact ⟨_, rfl, ⟨fun h_ => (by cases h_), fun e_ => absurd (congrArg (fun x_ : Frm => x_.frm) e_) (by first | exact hx2 | omega)⟩, kk46⟩
 refine eF 4 21 (f.kind.toNat : Int) (g.kind.toNat : Int) ?_
 refine Wk.many 155 133 5 [(21, .bool false)] 154 (.bool false) (by kernel_rfl) (by kernel_rfl) (by kernel_rfl) (by kernel_rfl) ?_
 intro bb30
 refine rP 138 4 (.bool false)<|eN<|wp_ret<|?_
 have kk47 : Chg [] w W1 := zA ch1
 have kk48 := kA kk47 ch2
 have kk49 := kA kk48 ch12
 have kk50 := kA kk49 ch22
 refine rt (.bool false) ?_
 exact ⟨_, rfl, ⟨fun h_ => (by cases h_), fun e_ => absurd (congrArg (fun x_ : Frm => (x_.kind.toNat : Int)) e_) (by first | exact hx1 | omega)⟩, kk50⟩
end Go.Proofs.YtgbadghjnpbiaaaDoor
namespace Go.Proofs.YtgbadghjnpbiaaaDoor
open Go.RowKit Wk
open Mur (b8s Byt Own8 Seg Segs flat cutA attC Att SlA OwnA rowA)
set_option maxRecDepth 100000
set_option maxHeartbeats 4000000
def Idx15_F1 (b : Array Value) (u0 : Value) (u1 : Value) (u7 : Value) (u8 : Value) : Act := ⟨#[u0, u1, gd b 2, gd b 3, gd b 4, gd b 5, gd b 6, u7, u8, gd b 9, gd b 10, gd b 11, gd b 12, gd b 13, gd b 14, gd b 15, gd b 16, gd b 17, gd b 18], []⟩
theorem over_any (x : UInt8) (w : World) : Calls Tryd.prog 89 #[.int .u8 x.toNat] w fun e w' => e = .returned (.bool (decide (15 < x))) ∧ w = w' := by
 refine calls_of_wp Tryd.func89 rfl ?_
 refine sR<|rP 0 2 (.bool false)<|eN<|sR<|rP 0 3 (.int .u8 x.toNat) ?_
 by_cases hx1 : (x.toNat : Int) > (15 : Int)
 ·refine bT 1 4 ((x.toNat : Int) > (15 : Int))<|rP 2 2 (.bool true)<|eN<|wp_ret<|rt (.bool true) ?_
  exact ⟨by rw [decide_eq_true (show 15 < x by rw [UInt8.lt_iff_toNat_lt]; show 15 < x.toNat; omega)], rfl⟩
 refine bF 1 4 ((x.toNat : Int) > (15 : Int))<|rP 2 2 (.bool false)<|eN<|wp_ret<|rt (.bool false) ?_
 exact ⟨by rw [decide_eq_false (show ¬ 15 < x by rw [UInt8.lt_iff_toNat_lt]; show ¬ 15 < x.toNat; omega)], rfl⟩
theorem index15_any (l : List UInt8) (A : Option Addr) (n c : Nat) (w : World) (hb : Byt w A n l) (hn : n ≤ 9223372036854775807) : Calls Tryd.prog 96 #[.slice A n c, .func (.func 89) #[] #[]] w fun e w' => ∃ r : Int, e = .returned (.int .i64 r) ∧ (0 ≤ r ↔ (l.all fun x => decide (x ≤ 15)) = false) ∧ w = w' := by
 have HB := Go.Lib.hid hb
 clear hb
 refine calls_of_wp Tryd.func96 rfl ?_
 refine sR<|rP 0 4 (.int .i64 0)<|eN<|wp_seq<|sR<|rP 0 6 (.slice A n c)<|rP 1 7 (.int .i64 n)<|rP 2 8 (.int .i64 0)<|eN<|wp_block<|?_
 refine Wk.loop (fun m_ a wr => ∃ (i : Nat), m_ = n - i ∧ a = Idx15_F1 a.tmps (.slice A n c) (.func (.func 89) #[] #[]) (.int .i64 n) (.int .i64 i) ∧ i ≤ n ∧ (∀ j, j < i → (l.getD j 0) ≤ 15) ∧ wr = w) (n - 0) ?_ ?_
 ·refine ⟨0, rfl, by kernel_rfl, Nat.zero_le _, (fun j h => by omega), rfl⟩
 rintro mm1 aa1 W1 ⟨i, hmm1, hF1, hi, hall, hw⟩
 generalize aa1.tmps = bb1 at hF1
 subst hF1
 subst hw
 by_cases hlt : i < n
 ·obtain ⟨q, off, rfl, hcc⟩ := HB.out.2 (by omega)
  refine sR<|bT 0 9 ((i : Int) < (n : Int))<|eN<|wp_seq<|cT<|wp_skip<|nxt<|wp_seq<|wp_block<|sR<|rP 0 10 (.int .i64 i)<|rP 1 5 (.int .i64 i)<|eN<|sR<|rP 0 11 (.func (.func 89) #[] #[])<|rP 1 12 (.slice (some ⟨q, off, none⟩) n c)<|rP 2 13 (.int .i64 i)<|rq 3 14 (pt q (off + i * 1)) rfl (iS 1 q off n c i)<|rq 4 15 _ rfl (ld 5 14 q (off + i * 1) (.int .u8 ((l.getD i 0).toNat : Nat)) (Mur.byt_cell HB.out i (by omega))) ?_
  refine Wk.rCallV 5 (some 16) (.tmp 11) 89 #[] [.tmp 15] #[5] [.int .u8 ((l.getD i 0).toNat : Nat)] rfl rfl (by kernel_rfl) rfl (by kernel_rfl) (by kernel_rfl) (by kernel_rfl) ?_
  refine (over_any (l.getD i 0) W1).mono ?_
  by_cases hov1 : 15 < (l.getD i 0)
  ·rw [decide_eq_true hov1]
   rintro _ _ ⟨rfl, rfl⟩
   refine ⟨_, rfl, ?_⟩
   refine eN<|cT<|sR<|rP 0 17 (.int .i64 i)<|rP 1 4 (.int .i64 i)<|eN<|tI<|thR<|inR<|thR<|rt (.int .i64 i) ?_
   exact ⟨_, rfl, by rw [show (l.all fun x => decide (x ≤ 15)) = false from Mur.some15 HB.out.1 hlt hov1]; simp, rfl⟩
  rw [decide_eq_false hov1]
  rintro _ _ ⟨rfl, rfl⟩
  refine ⟨_, rfl, ?_⟩
  refine eN<|cF<|wp_skip<|inN<|nxt<|reg<|rI 0 18 ((i : Int) + 1) (((i + 1 : Nat) : Int))<|rP 1 8 (.int .i64 (i + 1 : Nat))<|eN<|?_
  refine ⟨_, ?_, i + 1, rfl, by kernel_rfl, (by omega), (fun j hj => by rcases Nat.lt_or_ge j i with h1 | h1 <;> first | exact hall j h1 | (obtain rfl : j = i := (by omega); exact UInt8.not_lt.1 hov1)), rfl⟩
  omega
 refine sR<|bF 0 9 ((i : Int) < (n : Int))<|eN<|wp_seq<|cF<|xX<|nxt<|sR<|rP 0 4 (.int .i64 (-1))<|eN<|wp_ret<|rt (.int .i64 (-1)) ?_
 exact ⟨_, rfl, by rw [show (l.all fun x => decide (x ≤ 15)) = true from Mur.all15 HB.out.1 (fun j hj => hall j (by omega))]; simp, rfl⟩
theorem contains15_any (l : List UInt8) (A : Option Addr) (n c : Nat) (w : World) (hb : Byt w A n l) (hn : n ≤ 9223372036854775807) : Calls Tryd.prog 88 #[.slice A n c, .func (.func 89) #[] #[]] w fun e w' => e = .returned (.bool (!(l.all fun x => decide (x ≤ 15)))) ∧ w = w' := by
 refine calls_of_wp Tryd.func88 rfl ?_
 refine sR<|rP 0 4 (.bool false)<|eN<|sR<|rP 0 5 (.slice A n c)<|rP 1 6 (.func (.func 89) #[] #[])<|rK 2 7 (index15_any l A n c w hb (by omega)) ?_
 rintro _ _ ⟨r_1, rfl, hr1, rfl⟩
 by_cases hx1 : r_1 ≥ (0 : Int)
 ·refine bT 3 8 (r_1 ≥ (0 : Int))<|rP 4 4 (.bool true)<|eN<|wp_ret<|rt (.bool true) ?_
  exact ⟨by rw [show (l.all fun x => decide (x ≤ 15)) = false from by first | exact hr1.1 (by omega) | (cases hq : (l.all fun x => decide (x ≤ 15)) <;> first | rfl | exact absurd (hr1.2 hq) (by omega))]; rfl, rfl⟩
 refine bF 3 8 (r_1 ≥ (0 : Int))<|rP 4 4 (.bool false)<|eN<|wp_ret<|rt (.bool false) ?_
 exact ⟨by rw [show (l.all fun x => decide (x ≤ 15)) = true from by first | exact hr1.1 (by omega) | (cases hq : (l.all fun x => decide (x ≤ 15)) <;> first | rfl | exact absurd (hr1.2 hq) (by omega))]; rfl, rfl⟩
theorem IsPrefix_any (l : List UInt8) (A : Option Addr) (n c : Nat) (w : World) (hb : Byt w A n l) (hn : n ≤ 9223372036854775807) : Calls Tryd.prog 71 #[.slice A n c] w fun e w' => e = .returned (.bool (Mur.isPre l)) ∧ w = w' := by
 refine calls_of_wp Tryd.func71 rfl ?_
 refine sR<|rP 0 2 (.bool false)<|eN<|sR<|rP 0 3 (.slice A n c)<|rP 1 4 (.int .i64 n) ?_
 by_cases hx1 : (n : Int) ≤ (8 : Int)
 ·refine bT 2 5 ((n : Int) ≤ (8 : Int))<|rP 3 6 (.bool true)<|rP 4 7 (.slice A n c)<|rK 5 8 (contains15_any l A n c w hb (by omega)) ?_
  cases hal1 : (l.all fun x => decide (x ≤ 15))
  ·rintro _ _ ⟨rfl, rfl⟩
   refine rP 6 9 (.bool false)<|rP 7 10 (.bool false)<|rP 8 2 (.bool false)<|eN<|wp_ret<|rt (.bool false) ?_
   exact ⟨by rw [show Mur.isPre l = false from by unfold Mur.isPre; rw [hal1]; rfl], rfl⟩
  rintro _ _ ⟨rfl, rfl⟩
  refine rP 6 9 (.bool true)<|rP 7 10 (.bool true)<|rP 8 2 (.bool true)<|eN<|wp_ret<|rt (.bool true) ?_
  exact ⟨by rw [show Mur.isPre l = true from by unfold Mur.isPre; rw [hal1]; have := hb.1; simp; omega], rfl⟩
 refine bF 2 5 ((n : Int) ≤ (8 : Int))<|rP 3 6 (.bool false)<|rZ 4 7<|rZ 5 8<|rZ 6 9<|rP 7 10 (.bool false)<|rP 8 2 (.bool false)<|eN<|wp_ret<|rt (.bool false) ?_
 exact ⟨by rw [show Mur.isPre l = false from by unfold Mur.isPre; have := hb.1; simp; omega], rfl⟩
end Go.Proofs.YtgbadghjnpbiaaaDoor
namespace Go.Proofs.YtgbadghjnpbiaaaDoor
open Go.RowKit Wk
open Mur (b8s Byt Own8 Seg Segs flat cutA attC Att SlA OwnA rowA msgC nib_shn)
set_option maxRecDepth 100000
set_option maxHeartbeats 4000000
def Within_F1 (b : Array Value) (u2 : Value) (u7 : Value) (u8 : Value) (u9 : Value) : Act := ⟨#[gd b 0, gd b 1, u2, gd b 3, gd b 4, gd b 5, gd b 6, u7, u8, u9, gd b 10, gd b 11, gd b 12, gd b 13, gd b 14, gd b 15, gd b 16, gd b 17, gd b 18, gd b 19, gd b 20, gd b 21, gd b 22, gd b 23, gd b 24, gd b 25, gd b 26, gd b 27], []⟩
theorem within_any (x : Att) (p : List UInt8) (PA : Option Addr) (pn pc : Nat) (w : World) (hb : Byt w PA pn p) (hn : pn ≤ 64) : Calls Tryd.prog 72 #[.agg (attC x.k x.r x.n x.t).toArray, .slice PA pn pc] w fun e w' => e = .returned (.bool (Mur.under p x.k)) ∧ Chg [] w w' := by
 have hpl_ := hb.1
 refine calls_of_wp Tryd.func72 rfl ?_
 refine sR<|nW 0 2 ((Mur.attC x.k x.r x.n x.t).toArray) 36 fun W1 hb1 ch1 sz1 => rP 1 4 (.bool false)<|eN<|wp_seq<|sR<|rP 0 7 (.slice PA pn pc)<|rP 1 8 (.int .i64 pn)<|rP 2 9 (.int .i64 0)<|eN<|wp_block<|?_
 refine Wk.loop (fun m_ a wr => ∃ (i : Nat), m_ = pn - i ∧ a = Within_F1 a.tmps (pt w.heap.size 0) (.slice PA pn pc) (.int .i64 pn) (.int .i64 i) ∧ i ≤ pn ∧ (∀ j, j < i → Mur.nib x.k j = p.getD j 0) ∧ wr.heap[w.heap.size]? = some (.cells (Mur.attC x.k x.r x.n x.t).toArray 36 (0, 0)) ∧ Chg [] w wr) (pn - 0) ?_ ?_
 ·have kk1 : Chg [] w W1 := zA ch1
  refine ⟨0, rfl, by kernel_rfl, Nat.zero_le _, (fun j hj => by omega), hb1, kk1⟩
 rintro mm1 aa1 W2 ⟨i, hmm1, hF1, hi, hall, hX, HB⟩
 generalize aa1.tmps = bb1 at hF1
 subst hF1
 have hzB := HB.size
 by_cases hlt : i < pn
 ·obtain ⟨q2, off2, hA2, _⟩ := hb.2 (by omega)
  subst hA2
  refine sR<|bT 0 10 ((i : Int) < (pn : Int))<|eN<|wp_seq<|cT<|wp_skip<|nxt<|wp_seq<|wp_block<|sR<|rP 0 11 (.int .i64 i)<|rq 1 12 (pt q2 (off2 + i * 1)) rfl (iS 1 q2 off2 pn pc i)<|rq 2 13 _ rfl (ld 5 12 q2 (off2 + i * 1) (.int .u8 ((p.getD i 0).toNat : Nat)) (Mur.byt_cell (Mur.byt_chg hb HB (fun g off e hl => trivial)) i (by omega)))<|rP 3 5 (.int .i64 i)<|rP 4 6 (.int .u8 ((p.getD i 0).toNat : Nat))<|eN<|sR<|rP 0 14 (.int .i64 i)<|rq 1 15 (.int .i64 (i / 2 : Nat)) rfl (Mur.quo_nat 3 3 (.tmp 14) (.const (.int .i64 2)) rfl i 2 (by kernel_rfl) (by kernel_rfl) (by omega) (by omega))<|rP 2 16 (pt w.heap.size 0)<|rq 3 17 (.pointer (some ⟨w.heap.size, 0 + (i / 2) * 1, none⟩)) rfl (Wk.index_arr 29 5 (.tmp 16) (.tmp 15) rfl 32 Tryd.underlying29 1 (by kernel_rfl) w.heap.size 0 (i / 2) .i64 (by kernel_rfl) (by kernel_rfl) (by omega))<|rq 4 18 _ rfl (load1 5 (.tmp 17) rfl (by kernel_rfl) ⟨w.heap.size, 0 + (i / 2) * 1, none⟩ (by kernel_rfl) (.int .u8 ((x.k.getD (i / 2) 0).toNat : Nat)) (show World.cell? _ ⟨_, 0 + 0 * 97 + i / 2 * 1, _⟩ = _ from Mur.SlA.kcell (Mur.slA_box x hX) (i := 0) rfl (j := i / 2) (by omega)))<|rP 5 19 (.int .i64 i)<|rq 6 20 (.int .i64 (i % 2 : Nat)) rfl (Wk.rem_nat 3 3 (.tmp 19) (.const (.int .i64 2)) rfl i 2 (by kernel_rfl) (by kernel_rfl) (by omega))<|rI 7 21 ((4 : Int) * ((i % 2 : Nat) : Int)) (((4 * (i % 2) : Nat) : Int))<|rI 8 22 ((4 : Int) - ((4 * (i % 2) : Nat) : Int)) (((4 - 4 * (i % 2) : Nat) : Int))<|rq 9 23 (.int .u8 ((Mur.shn (x.k.getD (i / 2) 0) i).toNat : Nat)) rfl (Mur.shr8_n 5 3 (.tmp 18) (.tmp 22) rfl (x.k.getD (i / 2) 0) i (by kernel_rfl) (by kernel_rfl)) ?_
  refine rq 10 24 (.int .u8 ((Mur.shn (x.k.getD (i / 2) 0) i &&& 15).toNat : Nat)) rfl (Mur.and8_15 5 5 (.tmp 23) (.const (.int .u8 15)) rfl (Mur.shn (x.k.getD (i / 2) 0) i) (by kernel_rfl) (by kernel_rfl))<|rP 11 25 (.int .u8 ((p.getD i 0).toNat : Nat)) ?_
  by_cases hx1 : (((Mur.shn (x.k.getD (i / 2) 0) i &&& 15).toNat : Nat) : Int) ≠ (((p.getD i 0).toNat : Nat) : Int)
  ·refine nT 12 26 (((Mur.shn (x.k.getD (i / 2) 0) i &&& 15).toNat : Nat) : Int) (((p.getD i 0).toNat : Nat) : Int)<|eN<|cT<|sR<|rP 0 4 (.bool false)<|eN<|tI<|thR<|inR<|thR<|rt (.bool false) ?_
   exact ⟨by rw [Mur.under_false (p := p) (k := x.k) (i := i) (by have := hb.1; omega) (fun q_ => hx1 (by rw [nib_shn] at q_; rw [q_]))], HB⟩
  refine nF 12 26 (((Mur.shn (x.k.getD (i / 2) 0) i &&& 15).toNat : Nat) : Int) (((p.getD i 0).toNat : Nat) : Int)<|eN<|cF<|wp_skip<|inN<|nxt<|reg<|rI 0 27 ((i : Int) + 1) (((i + 1 : Nat) : Int))<|rP 1 9 (.int .i64 (i + 1 : Nat))<|eN<|?_
  refine ⟨_, ?_, i + 1, rfl, by kernel_rfl, (by omega), (Mur.nib_step hall (by rw [nib_shn]; exact Mur.u8_cast_inj (Decidable.not_not.1 hx1))), hX, HB⟩
  omega
 have hun : Mur.under p x.k = true := Mur.under_all hb.1 (show pn ≤ i by omega) hall
 refine sR<|bF 0 10 ((i : Int) < (pn : Int))<|eN<|wp_seq<|cF<|xX<|nxt<|sR<|rP 0 4 (.bool true)<|eN<|wp_ret<|rt (.bool true) ?_
 exact ⟨by rw [hun], HB⟩
end Go.Proofs.YtgbadghjnpbiaaaDoor
