/- What the row rests on, part 9. -/
import Derived.Test.YtfhneademopciaaDoorPT8
import Derived.Test.YtfhneademopciaaDoorPT5
import Derived.Test.YtfhneademopciaaDoorPT3
import Derived.Test.YtfhneademopciaaDoorPT4
namespace Go.Proofs.YtfhneademopciaaDoor
open Go.RowKit Wk
open Mur (b8s Byt Own8 Seg Segs flat cutA attC Att SlA OwnA rowA)
set_option maxRecDepth 100000
set_option maxHeartbeats 4000000
def Sam20_F1 (b : Array Value) (u0 : Value) (u1 : Value) (u5 : Value) : Act := ⟨#[u0, u1, gd b 2, gd b 3, gd b 4, u5, gd b 6, gd b 7, gd b 8, gd b 9, gd b 10, gd b 11, gd b 12, gd b 13, gd b 14, gd b 15, gd b 16, gd b 17, gd b 18, gd b 19, gd b 20, gd b 21, gd b 22, gd b 23, gd b 24, gd b 25], []⟩
theorem Same20_any (A : Option Addr) (n c : Nat) (L : List Att) (B : Option Addr) (m d : Nat) (M : List Att) (w : World) (hA_ : SlA w A n L) (hB_ : SlA w B m M) (hn : n ≤ 9223372036854775807) : Calls Tryd.prog 17 #[.slice A n c, .slice B m d] w fun e w' => e = .returned (.bool (decide (L = M))) ∧ Chg [] w w' := by
 have hLl0 := hA_.len
 have hMl0 := hB_.len
 refine calls_of_wp Tryd.func17 rfl ?_
 refine wp_seq (reg ?_)
 refine rP 0 4 (.bool false) rfl rfl ?_
 refine rEnd 1 rfl (nxt (wp_seq (wp_seq (reg ?_))))
 refine rP 0 6 (.slice A n c) rfl rfl ?_
 refine rP 1 7 (.int .i64 ((n : Nat) : Int)) rfl rfl ?_
 refine rP 2 8 (.slice B m d) rfl rfl ?_
 refine rP 3 9 (.int .i64 ((m : Nat) : Int)) rfl rfl ?_
 by_cases hx1 : ((n : Nat) : Int) ≠ ((m : Nat) : Int)
 ·refine rQ 4 10 _ rfl rfl (qboolT (b := (((n : Nat) : Int) != ((m : Nat) : Int))) (bne_iff_ne.2 (by first | exact hx1 | omega))) ?_
  refine rEnd 5 rfl (nxt (wp_cond_true (by kernel_rfl) (wp_seq (reg ?_))))
  refine rP 0 4 (.bool false) rfl rfl ?_
  refine rEnd 1 rfl (nxt (wp_ret (thR ?_)))
  refine Wk.ret (.bool false) rfl (by kernel_rfl) ?_
  exact ⟨by rw [decide_eq_false (fun q => by have h1 := hA_.len; have h2 := hB_.len; subst q; omega)], (Chg.refl _)⟩
 refine rQ 4 10 _ rfl rfl (qboolF (b := (((n : Nat) : Int) != ((m : Nat) : Int))) (bne_eq_false_iff_eq.2 (by first | exact hx1 | omega))) ?_
 refine rEnd 5 rfl (nxt (wp_cond_false (by kernel_rfl) (wp_skip (nxt (wp_seq (wp_seq (reg ?_)))))))
 refine rP 0 5 (.int .i64 0) rfl rfl ?_
 refine rEnd 1 rfl (nxt (wp_block ?_))
 refine Wk.loop (fun m_ a wr => ∃ (i : Nat), m_ = n - i ∧ a = Sam20_F1 a.tmps (.slice A n c) (.slice B m d) (.int .i64 ((i : Nat) : Int)) ∧ i ≤ n ∧ L.take i = M.take i ∧ Chg [] w wr) (n - 0) ?_ ?_
 ·refine ⟨0, rfl, by kernel_rfl, Nat.zero_le _, by simp, (Chg.refl _)⟩
 rintro mm1 aa1 W1 ⟨i, hmm1, hF1, hi, htk, HB⟩
 generalize aa1.tmps = bb1 at hF1
 subst hF1
 have hzB := HB.size
 have hLl := hA_.len
 have hMl := hB_.len
 by_cases hlt : i < n
 ·obtain ⟨g1, o1, rfl, _⟩ := hA_.ex (by omega)
  obtain ⟨g2, o2, rfl, _⟩ := hB_.ex (by omega)
  obtain ⟨x, hx⟩ : ∃ x, L[i]? = some x := ⟨_, List.getElem?_eq_getElem (by omega)⟩
  obtain ⟨y, hy⟩ : ∃ y, M[i]? = some y := ⟨_, List.getElem?_eq_getElem (by omega)⟩
  refine wp_seq (wp_seq (reg ?_))
  refine rP 0 11 (.int .i64 ((i : Nat) : Int)) rfl rfl ?_
  refine rP 1 12 (.slice (some ⟨g1, o1, none⟩) n c) rfl rfl ?_
  refine rP 2 13 (.int .i64 ((n : Nat) : Int)) rfl rfl ?_
  refine rQ 3 14 _ rfl rfl (qboolT (b := decide (((i : Nat) : Int) < ((n : Nat) : Int))) (decide_eq_true (by omega))) ?_
  refine rEnd 4 rfl (nxt (wp_cond_true (by kernel_rfl) (wp_skip (nxt (wp_seq (wp_block (wp_seq ?_)))))))
  refine dReg ([]) (by kernel_rfl) ?_
  intro W2 ch1 sz1
  have zz1 := ch1.size
  have sS1 : Chg ([]) W2 W2 := (Chg.refl _).more (by simp)
  refine dV 0 17 (.slice (some ⟨g1, o1, none⟩) n c) rfl rfl (fun _ _ => by kernel_rfl) sS1 ?_
  refine dV 1 18 (.int .i64 ((i : Nat) : Int)) rfl rfl (fun _ _ => by kernel_rfl) sS1 ?_
  refine dV 2 19 (.pointer (some ⟨g1, o1 + i * 97, none⟩)) rfl rfl (fun w' hw' => (index_sl 22 32 (.tmp 17) (.tmp 18) rfl Tryd.underlying22 97 (by kernel_rfl) g1 o1 n c i .i64 (by kernel_rfl) (by kernel_rfl) (by omega))) sS1 ?_
  have kk1 := Chg.step HB ch1 trivial
  refine dV 3 20 (.agg ((Mur.attC x.k x.r x.n x.t).toArray)) rfl rfl (fun w' hw' => (loadR 32 (.tmp 19) rfl _ Tryd.underlying32 rfl g1 (o1 + i * 97) (by kernel_rfl) (Mur.attC x.k x.r x.n x.t) (by rw [Mur.attC_length x.hk x.hr x.ht]; kernel_rfl) ((Mur.SlA.chg (Mur.SlA.chg hA_ kk1 (fun g off e hl => trivial)) hw' (fun g off e hl => trivial)).elem hx))) sS1 ?_
  refine dV 4 21 (.slice (some ⟨g2, o2, none⟩) m d) rfl rfl (fun _ _ => by kernel_rfl) sS1 ?_
  refine dV 5 22 (.int .i64 ((i : Nat) : Int)) rfl rfl (fun _ _ => by kernel_rfl) sS1 ?_
  refine dV 6 23 (.pointer (some ⟨g2, o2 + i * 97, none⟩)) rfl rfl (fun w' hw' => (index_sl 22 32 (.tmp 21) (.tmp 22) rfl Tryd.underlying22 97 (by kernel_rfl) g2 o2 m d i .i64 (by kernel_rfl) (by kernel_rfl) (by omega))) sS1 ?_
  refine dV 7 24 (.agg ((Mur.attC y.k y.r y.n y.t).toArray)) rfl rfl (fun w' hw' => (loadR 32 (.tmp 23) rfl _ Tryd.underlying32 rfl g2 (o2 + i * 97) (by kernel_rfl) (Mur.attC y.k y.r y.n y.t) (by rw [Mur.attC_length y.hk y.hr y.ht]; kernel_rfl) ((Mur.SlA.chg (Mur.SlA.chg hB_ kk1 (fun g off e hl => trivial)) hw' (fun g off e hl => trivial)).elem hy))) sS1 ?_
  by_cases hatt1 : x.k = y.k ∧ x.r = y.r ∧ x.n = y.n ∧ x.t = y.t
  ·refine dV 8 25 (.bool false) rfl rfl (fun w' hw' => (boolF (b := !decide (x.k = y.k ∧ x.r = y.r ∧ x.n = y.n ∧ x.t = y.t)) ((by rw [decide_eq_true (hatt1)]; rfl)) (run_neq_att (.tmp 20) (.tmp 24) 32 rfl x.hk x.hr x.ht y.hk y.hr y.ht x.hn y.hn (by kernel_rfl) (by kernel_rfl)))) sS1 ?_
   refine dEnd (by kernel_rfl) (nxt (wp_cond_false (by kernel_rfl) (wp_skip (inN (nxt (reg ?_))))))
   refine rP 0 15 (.int .i64 ((i : Nat) : Int)) rfl rfl ?_
   refine rQ 1 16 _ rfl rfl (qint64 (n := ((i : Nat) : Int) + 1) (z := ((i + 1 : Nat) : Int)) (by omega) (by omega) (by omega)) ?_
   refine rP 2 5 (.int .i64 ((i + 1 : Nat) : Int)) rfl rfl ?_
   refine rEnd 3 rfl (nxt ?_)
   refine ⟨_, ?_, i + 1, rfl, by kernel_rfl, (by omega), (Mur.sameA_step htk hx hy ((Mur.Att.eq_iff x y).2 hatt1)), kk1⟩
   omega
  refine dV 8 25 (.bool true) rfl rfl (fun w' hw' => (boolT (b := !decide (x.k = y.k ∧ x.r = y.r ∧ x.n = y.n ∧ x.t = y.t)) ((by rw [decide_eq_false (hatt1)]; rfl)) (run_neq_att (.tmp 20) (.tmp 24) 32 rfl x.hk x.hr x.ht y.hk y.hr y.ht x.hn y.hn (by kernel_rfl) (by kernel_rfl)))) sS1 ?_
  refine dEnd (by kernel_rfl) (nxt (wp_cond_true (by kernel_rfl) (wp_seq (reg ?_))))
  refine rP 0 4 (.bool false) rfl rfl ?_
  refine rEnd 1 rfl (nxt (wp_ret (inR (thR (thR (inR (thR ?_)))))))
  refine Wk.ret (.bool false) rfl (by kernel_rfl) ?_
  exact ⟨by rw [decide_eq_false (fun q => hatt1 ((Mur.Att.eq_iff x y).1 (by subst q; rw [hx] at hy; exact Option.some.inj hy)))], kk1⟩
 have hLM : L = M := Mur.sameA_all htk hLl (by omega) (by omega)
 refine wp_seq (wp_seq (reg ?_))
 refine rP 0 11 (.int .i64 ((i : Nat) : Int)) rfl rfl ?_
 refine rP 1 12 (.slice A n c) rfl rfl ?_
 refine rP 2 13 (.int .i64 ((n : Nat) : Int)) rfl rfl ?_
 refine rQ 3 14 _ rfl rfl (qboolF (b := decide (((i : Nat) : Int) < ((n : Nat) : Int))) (decide_eq_false (by omega))) ?_
 refine rEnd 4 rfl (nxt (wp_cond_false (by kernel_rfl) (wp_exit (thX (thX (inX (nxt (wp_seq (reg ?_)))))))))
 refine rP 0 4 (.bool true) rfl rfl ?_
 refine rEnd 1 rfl (nxt (wp_ret ?_))
 refine Wk.ret (.bool true) rfl (by kernel_rfl) ?_
 exact ⟨by rw [decide_eq_true hLM], HB⟩
theorem Less20_any (x y : Att) (w : World) : Calls Tryd.prog 25 #[.agg (attC x.k x.r x.n x.t).toArray, .agg (attC y.k y.r y.n y.t).toArray] w fun e w' => e = .returned (.bool (decide (x.lt y))) ∧ Chg [] w w' := by
 refine calls_of_wp Tryd.func25 rfl ?_
 refine wp_seq (reg ?_)
 by_cases hls : x.lt y
 ·refine rX 0 2 rfl rfl (new_ex (.pointer (some ⟨w.heap.size, 0, none⟩)) ((Mur.attC x.k x.r x.n x.t).toArray) 32 (by kernel_rfl)) ?_
  rintro _ W1 ⟨rfl, hb1, ch1, sz1⟩
  have zz1 := ch1.size
  refine rX 1 3 rfl rfl (new_ex (.pointer (some ⟨W1.heap.size, 0, none⟩)) ((Mur.attC y.k y.r y.n y.t).toArray) 32 (by kernel_rfl)) ?_
  rintro _ W2 ⟨rfl, hb2, ch2, sz2⟩
  have zz2 := ch2.size
  refine rP 2 4 (.bool false) rfl rfl ?_
  refine rEnd 3 rfl (nxt (wp_seq ?_))
  refine dReg ([]) (by kernel_rfl) ?_
  intro W3 ch3 sz3
  have zz3 := ch3.size
  have sS1 : Chg ([]) W3 W3 := (Chg.refl _).more (by simp)
  refine dV 0 5 (.agg ((Mur.attC x.k x.r x.n x.t).toArray)) rfl rfl (fun w' hw' => (Mur.loadArr 32 (.tmp 2) rfl _ Tryd.underlying32 rfl w.heap.size (by kernel_rfl) (Mur.attC x.k x.r x.n x.t).toArray 97 (Mur.attC_size x.hk x.hr x.ht) (by kernel_rfl) 32 (0, 0) (Chg.hp hw' (Chg.hp ch3 (Chg.hp ch2 hb1 trivial) trivial) trivial))) sS1 ?_
  refine dV 3 8 (.agg ((Mur.attC y.k y.r y.n y.t).toArray)) rfl rfl (fun w' hw' => (Mur.loadArr 32 (.tmp 3) rfl _ Tryd.underlying32 rfl W1.heap.size (by kernel_rfl) (Mur.attC y.k y.r y.n y.t).toArray 97 (Mur.attC_size y.hk y.hr y.ht) (by kernel_rfl) 32 (0, 0) (Chg.hp hw' (Chg.hp ch3 hb2 trivial) trivial))) sS1 ?_
  refine dOp 1 (by kernel_rfl) ?_
  refine oCall (some 6) 48 [.tmp 5] #[32] [.agg ((Mur.attC x.k x.r x.n x.t).toArray)] rfl rfl (by kernel_rfl) rfl (by kernel_rfl) (by kernel_rfl) ?_
  refine (Rbytes_any x.k x.r x.t x.n x.hk x.hr x.ht W3).mono ?_
  rintro _ W4 ⟨qr1, cr1, RB1, hRB1, rfl, hbr1, hq1, hq2, ch4⟩
  have zz4 := ch4.size
  have hBt1 : ∀ g off, (some ⟨qr1, 0, none⟩ : Option Addr) = some ⟨g, off, none⟩ → W3.heap.size ≤ g ∧ g < W4.heap.size := fun g off e => by cases e; exact hq1
  have sS2 := Chg.step sS1 ch4 trivial
  refine ⟨_, rfl, sS2, ?_⟩
  refine dOp2 2 4 (by kernel_rfl) ?_ ?_
  ·refine Wk.oVal (some 7) (.string (Mur.str RB1)) rfl rfl (by kernel_rfl) (Mur.run_str 38 9 (.tmp 6) 5 rfl Tryd.underlying38 Tryd.underlying5 Tryd.underlying9 (some ⟨qr1, 0, none⟩) 104 cr1 RB1 (by kernel_rfl) hbr1) ?_
   refine ⟨sS2, ?_⟩
   refine dOp 4 (by kernel_rfl) ?_
   refine oCall (some 9) 48 [.tmp 8] #[32] [.agg ((Mur.attC y.k y.r y.n y.t).toArray)] rfl rfl (by kernel_rfl) rfl (by kernel_rfl) (by kernel_rfl) ?_
   refine (Rbytes_any y.k y.r y.t y.n y.hk y.hr y.ht W4).mono ?_
   rintro _ W5 ⟨qr2, cr2, RB2, hRB2, rfl, hbr2, hq3, hq4, ch5⟩
   have zz5 := ch5.size
   have hBt2 : ∀ g off, (some ⟨qr2, 0, none⟩ : Option Addr) = some ⟨g, off, none⟩ → W4.heap.size ≤ g ∧ g < W5.heap.size := fun g off e => by cases e; exact hq3
   have sS3 := Chg.step sS2 ch5 trivial
   refine ⟨_, rfl, sS3, ?_⟩
   refine dOp 5 (by kernel_rfl) ?_
   refine Wk.oVal (some 10) (.string (Mur.str RB2)) rfl rfl (by kernel_rfl) (Mur.run_str 38 9 (.tmp 9) 5 rfl Tryd.underlying38 Tryd.underlying5 Tryd.underlying9 (some ⟨qr2, 0, none⟩) 104 cr2 RB2 (by kernel_rfl) hbr2) ?_
   refine ⟨sS3, ?_⟩
   refine dV 6 11 (.bool true) rfl rfl (fun w' hw' => (boolT (b := decide (Go.Lib.compareBytes RB1 RB2 < 0)) (decide_eq_true (by rw [hRB1.out, hRB2.out]; exact hls)) (Mur.strlss 9 9 (.tmp 7) (.tmp 10) rfl RB1 RB2 (by kernel_rfl) (by kernel_rfl)))) sS3 ?_
   refine dV 7 4 (.bool true) rfl rfl (fun _ _ => by kernel_rfl) sS3 ?_
   refine dEnd (by kernel_rfl) (nxt (wp_ret ?_))
   have kk1 : Chg [] w W1 := Chg.step ((Chg.refl _).more (by simp)) ch1 trivial
   have kk2 := Chg.step kk1 ch2 trivial
   have kk3 := Chg.step kk2 ch3 trivial
   have kk4 := Chg.step kk3 ch4 trivial
   have kk5 := Chg.step kk4 ch5 trivial
   refine Wk.ret (.bool true) rfl (by kernel_rfl) ?_
   exact ⟨by rw [decide_eq_true hls], kk5⟩
  refine oCall (some 9) 48 [.tmp 8] #[32] [.agg ((Mur.attC y.k y.r y.n y.t).toArray)] rfl rfl (by kernel_rfl) rfl (by kernel_rfl) (by kernel_rfl) ?_
  refine (Rbytes_any y.k y.r y.t y.n y.hk y.hr y.ht W4).mono ?_
  rintro _ W6 ⟨qr3, cr3, RB3, hRB3, rfl, hbr3, hq5, hq6, ch6⟩
  have zz6 := ch6.size
  have hBt3 : ∀ g off, (some ⟨qr3, 0, none⟩ : Option Addr) = some ⟨g, off, none⟩ → W4.heap.size ≤ g ∧ g < W6.heap.size := fun g off e => by cases e; exact hq5
  have sS4 := Chg.step sS2 ch6 trivial
  refine ⟨_, rfl, sS4, ?_⟩
  refine dOp2 2 5 (by kernel_rfl) ?_ ?_
  ·refine Wk.oVal (some 7) (.string (Mur.str RB1)) rfl rfl (by kernel_rfl) (Mur.run_str 38 9 (.tmp 6) 5 rfl Tryd.underlying38 Tryd.underlying5 Tryd.underlying9 (some ⟨qr1, 0, none⟩) 104 cr1 RB1 (by kernel_rfl) (Mur.byt_chg hbr1 ch6 (fun g off e hl => trivial))) ?_
   refine ⟨sS4, ?_⟩
   refine dOp 5 (by kernel_rfl) ?_
   refine Wk.oVal (some 10) (.string (Mur.str RB3)) rfl rfl (by kernel_rfl) (Mur.run_str 38 9 (.tmp 9) 5 rfl Tryd.underlying38 Tryd.underlying5 Tryd.underlying9 (some ⟨qr3, 0, none⟩) 104 cr3 RB3 (by kernel_rfl) hbr3) ?_
   refine ⟨sS4, ?_⟩
   refine dV 6 11 (.bool true) rfl rfl (fun w' hw' => (boolT (b := decide (Go.Lib.compareBytes RB1 RB3 < 0)) (decide_eq_true (by rw [hRB1.out, hRB3.out]; exact hls)) (Mur.strlss 9 9 (.tmp 7) (.tmp 10) rfl RB1 RB3 (by kernel_rfl) (by kernel_rfl)))) sS4 ?_
   refine dV 7 4 (.bool true) rfl rfl (fun _ _ => by kernel_rfl) sS4 ?_
   refine dEnd (by kernel_rfl) (nxt (wp_ret ?_))
   have kk6 : Chg [] w W1 := Chg.step ((Chg.refl _).more (by simp)) ch1 trivial
   have kk7 := Chg.step kk6 ch2 trivial
   have kk8 := Chg.step kk7 ch3 trivial
   have kk9 := Chg.step kk8 ch4 trivial
   have kk10 := Chg.step kk9 ch6 trivial
   refine Wk.ret (.bool true) rfl (by kernel_rfl) ?_
   exact ⟨by rw [decide_eq_true hls], kk10⟩
  refine Wk.oVal (some 10) (.string (Mur.str RB3)) rfl rfl (by kernel_rfl) (Mur.run_str 38 9 (.tmp 9) 5 rfl Tryd.underlying38 Tryd.underlying5 Tryd.underlying9 (some ⟨qr3, 0, none⟩) 104 cr3 RB3 (by kernel_rfl) hbr3) ?_
  refine ⟨sS4, ?_⟩
  refine dOp 2 (by kernel_rfl) ?_
  refine Wk.oVal (some 7) (.string (Mur.str RB1)) rfl rfl (by kernel_rfl) (Mur.run_str 38 9 (.tmp 6) 5 rfl Tryd.underlying38 Tryd.underlying5 Tryd.underlying9 (some ⟨qr1, 0, none⟩) 104 cr1 RB1 (by kernel_rfl) (Mur.byt_chg hbr1 ch6 (fun g off e hl => trivial))) ?_
  refine ⟨sS4, ?_⟩
  refine dV 6 11 (.bool true) rfl rfl (fun w' hw' => (boolT (b := decide (Go.Lib.compareBytes RB1 RB3 < 0)) (decide_eq_true (by rw [hRB1.out, hRB3.out]; exact hls)) (Mur.strlss 9 9 (.tmp 7) (.tmp 10) rfl RB1 RB3 (by kernel_rfl) (by kernel_rfl)))) sS4 ?_
  refine dV 7 4 (.bool true) rfl rfl (fun _ _ => by kernel_rfl) sS4 ?_
  refine dEnd (by kernel_rfl) (nxt (wp_ret ?_))
  have kk11 : Chg [] w W1 := Chg.step ((Chg.refl _).more (by simp)) ch1 trivial
  have kk12 := Chg.step kk11 ch2 trivial
  have kk13 := Chg.step kk12 ch3 trivial
  have kk14 := Chg.step kk13 ch4 trivial
  have kk15 := Chg.step kk14 ch6 trivial
  refine Wk.ret (.bool true) rfl (by kernel_rfl) ?_
  exact ⟨by rw [decide_eq_true hls], kk15⟩
 refine rX 0 2 rfl rfl (new_ex (.pointer (some ⟨w.heap.size, 0, none⟩)) ((Mur.attC x.k x.r x.n x.t).toArray) 32 (by kernel_rfl)) ?_
 rintro _ W7 ⟨rfl, hb3, ch7, sz4⟩
 have zz7 := ch7.size
 refine rX 1 3 rfl rfl (new_ex (.pointer (some ⟨W7.heap.size, 0, none⟩)) ((Mur.attC y.k y.r y.n y.t).toArray) 32 (by kernel_rfl)) ?_
 rintro _ W8 ⟨rfl, hb4, ch8, sz5⟩
 have zz8 := ch8.size
 refine rP 2 4 (.bool false) rfl rfl ?_
 refine rEnd 3 rfl (nxt (wp_seq ?_))
 refine dReg ([]) (by kernel_rfl) ?_
 intro W10 ch9 sz6
 have zz9 := ch9.size
 have sS5 : Chg ([]) W10 W10 := (Chg.refl _).more (by simp)
 refine dV 0 5 (.agg ((Mur.attC x.k x.r x.n x.t).toArray)) rfl rfl (fun w' hw' => (Mur.loadArr 32 (.tmp 2) rfl _ Tryd.underlying32 rfl w.heap.size (by kernel_rfl) (Mur.attC x.k x.r x.n x.t).toArray 97 (Mur.attC_size x.hk x.hr x.ht) (by kernel_rfl) 32 (0, 0) (Chg.hp hw' (Chg.hp ch9 (Chg.hp ch8 hb3 trivial) trivial) trivial))) sS5 ?_
 refine dV 3 8 (.agg ((Mur.attC y.k y.r y.n y.t).toArray)) rfl rfl (fun w' hw' => (Mur.loadArr 32 (.tmp 3) rfl _ Tryd.underlying32 rfl W7.heap.size (by kernel_rfl) (Mur.attC y.k y.r y.n y.t).toArray 97 (Mur.attC_size y.hk y.hr y.ht) (by kernel_rfl) 32 (0, 0) (Chg.hp hw' (Chg.hp ch9 hb4 trivial) trivial))) sS5 ?_
 refine dOp 1 (by kernel_rfl) ?_
 refine oCall (some 6) 48 [.tmp 5] #[32] [.agg ((Mur.attC x.k x.r x.n x.t).toArray)] rfl rfl (by kernel_rfl) rfl (by kernel_rfl) (by kernel_rfl) ?_
 refine (Rbytes_any x.k x.r x.t x.n x.hk x.hr x.ht W10).mono ?_
 rintro _ W11 ⟨qr4, cr4, RB4, hRB4, rfl, hbr4, hq7, hq8, ch10⟩
 have zz10 := ch10.size
 have hBt4 : ∀ g off, (some ⟨qr4, 0, none⟩ : Option Addr) = some ⟨g, off, none⟩ → W10.heap.size ≤ g ∧ g < W11.heap.size := fun g off e => by cases e; exact hq7
 have sS6 := Chg.step sS5 ch10 trivial
 refine ⟨_, rfl, sS6, ?_⟩
 refine dOp2 2 4 (by kernel_rfl) ?_ ?_
 ·refine Wk.oVal (some 7) (.string (Mur.str RB4)) rfl rfl (by kernel_rfl) (Mur.run_str 38 9 (.tmp 6) 5 rfl Tryd.underlying38 Tryd.underlying5 Tryd.underlying9 (some ⟨qr4, 0, none⟩) 104 cr4 RB4 (by kernel_rfl) hbr4) ?_
  refine ⟨sS6, ?_⟩
  refine dOp 4 (by kernel_rfl) ?_
  refine oCall (some 9) 48 [.tmp 8] #[32] [.agg ((Mur.attC y.k y.r y.n y.t).toArray)] rfl rfl (by kernel_rfl) rfl (by kernel_rfl) (by kernel_rfl) ?_
  refine (Rbytes_any y.k y.r y.t y.n y.hk y.hr y.ht W11).mono ?_
  rintro _ W12 ⟨qr5, cr5, RB5, hRB5, rfl, hbr5, hq9, hq10, ch11⟩
  have zz11 := ch11.size
  have hBt5 : ∀ g off, (some ⟨qr5, 0, none⟩ : Option Addr) = some ⟨g, off, none⟩ → W11.heap.size ≤ g ∧ g < W12.heap.size := fun g off e => by cases e; exact hq9
  have sS7 := Chg.step sS6 ch11 trivial
  refine ⟨_, rfl, sS7, ?_⟩
  refine dOp 5 (by kernel_rfl) ?_
  refine Wk.oVal (some 10) (.string (Mur.str RB5)) rfl rfl (by kernel_rfl) (Mur.run_str 38 9 (.tmp 9) 5 rfl Tryd.underlying38 Tryd.underlying5 Tryd.underlying9 (some ⟨qr5, 0, none⟩) 104 cr5 RB5 (by kernel_rfl) hbr5) ?_
  refine ⟨sS7, ?_⟩
  refine dV 6 11 (.bool false) rfl rfl (fun w' hw' => (boolF (b := decide (Go.Lib.compareBytes RB4 RB5 < 0)) (decide_eq_false (by rw [hRB4.out, hRB5.out]; exact hls)) (Mur.strlss 9 9 (.tmp 7) (.tmp 10) rfl RB4 RB5 (by kernel_rfl) (by kernel_rfl)))) sS7 ?_
  refine dV 7 4 (.bool false) rfl rfl (fun _ _ => by kernel_rfl) sS7 ?_
  refine dEnd (by kernel_rfl) (nxt (wp_ret ?_))
  have kk16 : Chg [] w W7 := Chg.step ((Chg.refl _).more (by simp)) ch7 trivial
  have kk17 := Chg.step kk16 ch8 trivial
  have kk18 := Chg.step kk17 ch9 trivial
  have kk19 := Chg.step kk18 ch10 trivial
  have kk20 := Chg.step kk19 ch11 trivial
  refine Wk.ret (.bool false) rfl (by kernel_rfl) ?_
  exact ⟨by rw [decide_eq_false hls], kk20⟩
 refine oCall (some 9) 48 [.tmp 8] #[32] [.agg ((Mur.attC y.k y.r y.n y.t).toArray)] rfl rfl (by kernel_rfl) rfl (by kernel_rfl) (by kernel_rfl) ?_
 refine (Rbytes_any y.k y.r y.t y.n y.hk y.hr y.ht W11).mono ?_
 rintro _ W13 ⟨qr6, cr6, RB6, hRB6, rfl, hbr6, hq11, hq12, ch12⟩
 have zz12 := ch12.size
 have hBt6 : ∀ g off, (some ⟨qr6, 0, none⟩ : Option Addr) = some ⟨g, off, none⟩ → W11.heap.size ≤ g ∧ g < W13.heap.size := fun g off e => by cases e; exact hq11
 have sS8 := Chg.step sS6 ch12 trivial
 refine ⟨_, rfl, sS8, ?_⟩
 refine dOp2 2 5 (by kernel_rfl) ?_ ?_
 ·refine Wk.oVal (some 7) (.string (Mur.str RB4)) rfl rfl (by kernel_rfl) (Mur.run_str 38 9 (.tmp 6) 5 rfl Tryd.underlying38 Tryd.underlying5 Tryd.underlying9 (some ⟨qr4, 0, none⟩) 104 cr4 RB4 (by kernel_rfl) (Mur.byt_chg hbr4 ch12 (fun g off e hl => trivial))) ?_
  refine ⟨sS8, ?_⟩
  refine dOp 5 (by kernel_rfl) ?_
  refine Wk.oVal (some 10) (.string (Mur.str RB6)) rfl rfl (by kernel_rfl) (Mur.run_str 38 9 (.tmp 9) 5 rfl Tryd.underlying38 Tryd.underlying5 Tryd.underlying9 (some ⟨qr6, 0, none⟩) 104 cr6 RB6 (by kernel_rfl) hbr6) ?_
  refine ⟨sS8, ?_⟩
  refine dV 6 11 (.bool false) rfl rfl (fun w' hw' => (boolF (b := decide (Go.Lib.compareBytes RB4 RB6 < 0)) (decide_eq_false (by rw [hRB4.out, hRB6.out]; exact hls)) (Mur.strlss 9 9 (.tmp 7) (.tmp 10) rfl RB4 RB6 (by kernel_rfl) (by kernel_rfl)))) sS8 ?_
  refine dV 7 4 (.bool false) rfl rfl (fun _ _ => by kernel_rfl) sS8 ?_
  refine dEnd (by kernel_rfl) (nxt (wp_ret ?_))
  have kk21 : Chg [] w W7 := Chg.step ((Chg.refl _).more (by simp)) ch7 trivial
  have kk22 := Chg.step kk21 ch8 trivial
  have kk23 := Chg.step kk22 ch9 trivial
  have kk24 := Chg.step kk23 ch10 trivial
  have kk25 := Chg.step kk24 ch12 trivial
  refine Wk.ret (.bool false) rfl (by kernel_rfl) ?_
  exact ⟨by rw [decide_eq_false hls], kk25⟩
 refine Wk.oVal (some 10) (.string (Mur.str RB6)) rfl rfl (by kernel_rfl) (Mur.run_str 38 9 (.tmp 9) 5 rfl Tryd.underlying38 Tryd.underlying5 Tryd.underlying9 (some ⟨qr6, 0, none⟩) 104 cr6 RB6 (by kernel_rfl) hbr6) ?_
 refine ⟨sS8, ?_⟩
 refine dOp 2 (by kernel_rfl) ?_
 refine Wk.oVal (some 7) (.string (Mur.str RB4)) rfl rfl (by kernel_rfl) (Mur.run_str 38 9 (.tmp 6) 5 rfl Tryd.underlying38 Tryd.underlying5 Tryd.underlying9 (some ⟨qr4, 0, none⟩) 104 cr4 RB4 (by kernel_rfl) (Mur.byt_chg hbr4 ch12 (fun g off e hl => trivial))) ?_
 refine ⟨sS8, ?_⟩
 refine dV 6 11 (.bool false) rfl rfl (fun w' hw' => (boolF (b := decide (Go.Lib.compareBytes RB4 RB6 < 0)) (decide_eq_false (by rw [hRB4.out, hRB6.out]; exact hls)) (Mur.strlss 9 9 (.tmp 7) (.tmp 10) rfl RB4 RB6 (by kernel_rfl) (by kernel_rfl)))) sS8 ?_
 refine dV 7 4 (.bool false) rfl rfl (fun _ _ => by kernel_rfl) sS8 ?_
 refine dEnd (by kernel_rfl) (nxt (wp_ret ?_))
 have kk26 : Chg [] w W7 := Chg.step ((Chg.refl _).more (by simp)) ch7 trivial
 have kk27 := Chg.step kk26 ch8 trivial
 have kk28 := Chg.step kk27 ch9 trivial
 have kk29 := Chg.step kk28 ch10 trivial
 have kk30 := Chg.step kk29 ch12 trivial
 refine Wk.ret (.bool false) rfl (by kernel_rfl) ?_
 exact ⟨by rw [decide_eq_false hls], kk30⟩
end Go.Proofs.YtfhneademopciaaDoor
namespace Mur
open Go Go.RowKit Wk
section
variable {P : Program}
end
theorem rowL_take_succ {L : List Att} {i : Nat} {x : Att} (hx : L[i]? = some x) : rowL (L.take (i + 1)) = rowL (L.take i) ++ x.raw := by
  obtain ⟨h, rfl⟩ := List.getElem?_eq_some_iff.1 hx
  rw [List.take_succ_eq_append_getElem h, rowL_snoc]
theorem hk_left (hc kc : Array Value) : ((hc ++ kc).toList.drop 0).take hc.toList.length = hc.toList := by simp
theorem hk_right {hc kc : Array Value} (h : hc.size = 8) : ((hc ++ kc).toList.drop 8).take kc.toList.length = kc.toList := by
  rw [Array.toList_append, List.drop_left' (by simpa using h)]
  exact List.take_of_length_le (Nat.le_refl _)
theorem fill_hash {hc kc : Array Value} (h : hc.size = 8) (k : kc.size = 64) : Instr.fill (fun i => #[(0, 8), (8, 64)][i]?) (List.replicate 72 (Value.int .u32 0)).toArray [(0, .agg hc), (1, .agg kc)] = some (hc ++ kc) := by
  obtain ⟨H⟩ := hc
  obtain ⟨K⟩ := kc
  have h' : H.length = 8 := h
  have k' : K.length = 64 := k
  have e1 : splice (List.replicate 72 (Value.int .u32 0)) 0 H = H ++ List.replicate 64 (Value.int .u32 0) := splice_mid (A := []) (B := List.replicate 8 (Value.int .u32 0)) (C := List.replicate 64 (Value.int .u32 0)) (vs := H) rfl (by rw [h']; rfl)
  have e2 : splice (H ++ List.replicate 64 (Value.int .u32 0)) 8 K = H ++ K := by
    have := splice_mid (A := H) (B := List.replicate 64 (Value.int .u32 0)) (C := []) (vs := K) (off := 8) h' (by rw [k']; rfl)
    simpa using this
  refine fill_part (off := 0) (size := 8) (vs := H) rfl rfl h' (by simp) ?_
  rw [e1]
  refine fill_part (off := 8) (size := 64) (vs := K) rfl rfl k' (by rw [List.length_append, h']; simp) ?_
  rw [e2]
  show some ((H ++ K).toArray) = some (H.toArray ++ K.toArray)
  rw [← List.toArray_appendList] <;> simp
end Mur
namespace Go.Proofs.YtfhneademopciaaDoor
open Go.RowKit Wk
theorem built_hash {hc kc : Array Value} (h : hc.size = 8) (k : kc.size = 64) : Program.built Tryd.prog 97 [(0, .agg hc), (1, .agg kc)] = some (hc ++ kc) :=
  (show Program.built Tryd.prog 97 [(0, .agg hc), (1, .agg kc)] = Instr.fill (fun i => #[(0, 8), (8, 64)][i]?) (List.replicate 72 (Value.int .u32 0)).toArray [(0, .agg hc), (1, .agg kc)] from by kernel_rfl).trans (Mur.fill_hash h k)
end Go.Proofs.YtfhneademopciaaDoor
namespace Go.Proofs.YtfhneademopciaaDoor
open Go.RowKit Wk
open Mur (b8s Byt Own8 Seg Segs flat cutA attC Att SlA OwnA rowA)
set_option maxRecDepth 100000
set_option maxHeartbeats 4000000
def Row20_F1 (b : Array Value) (u0 : Value) (u3 : Value) (u4 : Value) : Act := ⟨#[u0, gd b 1, gd b 2, u3, u4, gd b 5, gd b 6, gd b 7, gd b 8, gd b 9, gd b 10, gd b 11, gd b 12, gd b 13, gd b 14, gd b 15, gd b 16, gd b 17, gd b 18, gd b 19], []⟩
theorem Row_any (A : Option Addr) (n c : Nat) (L : List Att) (w : World) (hA_ : SlA w A n L) (hn : n ≤ 300) : Calls Tryd.prog 21 #[.slice A n c] w fun e w' => ∃ A1 n1 c1, e = .returned (.slice A1 n1 c1) ∧ Own8 w' w.heap.size 5 A1 n1 c1 (Mur.rowL L) ∧ Chg [] w w' := by
 have hLl0 := hA_.len
 refine calls_of_wp Tryd.func21 rfl ?_
 refine wp_seq (reg ?_)
 refine rP 0 2 (.slice none 0 0) rfl rfl ?_
 refine rEnd 1 rfl (nxt (wp_seq (reg ?_)))
 refine rX 0 5 rfl rfl (new_ex (.slice (some ⟨w.heap.size, 0, none⟩) 1 1) #[.int .u8 32] 5 (by kernel_rfl)) ?_
 rintro _ W1 ⟨rfl, hb1, ch1, sz1⟩
 have zz1 := ch1.size
 refine rP 1 3 (.slice (some ⟨w.heap.size, 0, none⟩) 1 1) rfl rfl ?_
 refine rEnd 2 rfl (nxt (wp_seq (wp_seq (reg ?_))))
 refine rP 0 4 (.int .i64 0) rfl rfl ?_
 refine rEnd 1 rfl (nxt (wp_block ?_))
 have hOw3 : Own8 W1 w.heap.size 5 (some ⟨w.heap.size, 0, none⟩) 1 1 [32] := Mur.own8_lit hb1 (Nat.le_refl _) rfl (by omega)
 refine Wk.loop (fun m_ a wr => ∃ (i : Nat) (A1 : Option Addr) (N : Nat) (c1 : Nat), m_ = n - i ∧ a = Row20_F1 a.tmps (.slice A n c) (.slice A1 N c1) (.int .i64 ((i : Nat) : Int)) ∧ i ≤ n ∧ Own8 wr w.heap.size 5 A1 N c1 (Mur.rowL (L.take i)) ∧ Chg [] w wr) (n - 0) ?_ ?_
 ·have kk1 : Chg [] w W1 := Chg.step ((Chg.refl _).more (by simp)) ch1 trivial
  refine ⟨0, some ⟨w.heap.size, 0, none⟩, 1, 1, rfl, by kernel_rfl, (by omega), (by rw [List.take_zero]; exact hOw3), kk1⟩
 rintro mm1 aa1 W2 ⟨i, A1, N, c1, hmm1, hF1, hi, hO, HB⟩
 generalize aa1.tmps = bb1 at hF1
 subst hF1
 have hzB := HB.size
 have hLl := hA_.len
 have hON := hO.byt.1
 rw [Mur.rowL_length, List.length_take] at hON
 have hOn := hO.nc
 have hOm := hO.cm
 by_cases hlt : i < n
 ·obtain ⟨g_x, o_x, rfl, _⟩ := hA_.ex (by omega)
  obtain ⟨x, hx⟩ : ∃ x, L[i]? = some x := ⟨_, List.getElem?_eq_getElem (by have := hA_.len; omega)⟩
  refine wp_seq (wp_seq (reg ?_))
  refine rP 0 6 (.int .i64 ((i : Nat) : Int)) rfl rfl ?_
  refine rP 1 7 (.slice (some ⟨g_x, o_x, none⟩) n c) rfl rfl ?_
  refine rP 2 8 (.int .i64 ((n : Nat) : Int)) rfl rfl ?_
  refine rQ 3 9 _ rfl rfl (qboolT (b := decide (((i : Nat) : Int) < ((n : Nat) : Int))) (decide_eq_true (by omega))) ?_
  refine rEnd 4 rfl (nxt (wp_cond_true (by kernel_rfl) (wp_skip (nxt (wp_seq (wp_block (reg ?_)))))))
  refine rP 0 12 (.slice A1 N c1) rfl rfl ?_
  refine rP 1 13 (.slice (some ⟨g_x, o_x, none⟩) n c) rfl rfl ?_
  refine rP 2 14 (.int .i64 ((i : Nat) : Int)) rfl rfl ?_
  refine rQ 3 15 (.pointer (some ⟨g_x, o_x + i * 97, none⟩)) rfl rfl (index_sl 22 32 (.tmp 13) (.tmp 14) rfl Tryd.underlying22 97 (by kernel_rfl) g_x o_x n c i .i64 (by kernel_rfl) (by kernel_rfl) (by omega)) ?_
  refine rQ 4 16 (.agg ((Mur.attC x.k x.r x.n x.t).toArray)) rfl rfl (loadR 32 (.tmp 15) rfl _ Tryd.underlying32 rfl g_x (o_x + i * 97) (by kernel_rfl) (Mur.attC x.k x.r x.n x.t) (by rw [Mur.attC_length x.hk x.hr x.ht]; kernel_rfl) ((Mur.SlA.chg hA_ HB (fun g off e hl => trivial)).elem hx)) ?_
  refine rC 5 17 48 [.tmp 16] #[32] [.agg ((Mur.attC x.k x.r x.n x.t).toArray)] rfl rfl rfl ?_
  refine (Rbytes_any x.k x.r x.t x.n x.hk x.hr x.ht W2).mono ?_
  rintro _ W3 ⟨qr1, cr1, RB1, hRB1, rfl, hbr1, hq1, hq2, ch2⟩
  have zz2 := ch2.size
  have hBt1 : ∀ g off, (some ⟨qr1, 0, none⟩ : Option Addr) = some ⟨g, off, none⟩ → W2.heap.size ≤ g ∧ g < W3.heap.size := fun g off e => by cases e; exact hq1
  refine ⟨_, rfl, ?_⟩
  have ow1 := Mur.own8 (own_chg hO.own ch2 (fun q e _ _ => trivial))
  refine rX 6 18 rfl rfl (Mur.append8 (.tmp 12) (.tmp 17) 38 5 rfl Tryd.underlying38 (by kernel_rfl) w.heap.size A1 N c1 (Mur.rowL (L.take i)) (some ⟨qr1, 0, none⟩) 104 cr1 RB1 (by kernel_rfl) (by kernel_rfl) ow1.own hbr1 (fun h => by cases h) (by omega) (by omega) (N + 104) (by omega) ((Mur.rowL (L.take i)) ++ RB1) rfl) ?_
  rintro _ W4 ⟨AA1, nn1, rfl, ow2, ch3, ha1⟩
  have zz3 := ch3.size
  have hq3 := ow2.nc
  have hq4 := ow2.cm
  refine rP 7 3 (.slice AA1 (N + 104) nn1) rfl rfl ?_
  refine rEnd 8 rfl (inN (nxt (reg ?_)))
  refine rP 0 10 (.int .i64 ((i : Nat) : Int)) rfl rfl ?_
  refine rQ 1 11 _ rfl rfl (qint64 (n := ((i : Nat) : Int) + 1) (z := ((i + 1 : Nat) : Int)) (by omega) (by omega) (by omega)) ?_
  refine rP 2 4 (.int .i64 ((i + 1 : Nat) : Int)) rfl rfl ?_
  refine rEnd 3 rfl (nxt ?_)
  have kk2 := Chg.step HB ch2 trivial
  have kk3 := Chg.step kk2 ch3 (newOr_blk (fun g hg => by have := hO.lt g hg; omega))
  refine ⟨_, ?_, i + 1, AA1, N + 104, nn1, rfl, by kernel_rfl, (by omega), (by rw [Mur.rowL_take_succ hx, show x.raw = RB1 from hRB1.out.symm]; exact ow2), kk3⟩
  omega
 rw [List.take_of_length_le (show L.length ≤ i by omega)] at hO
 refine wp_seq (wp_seq (reg ?_))
 refine rP 0 6 (.int .i64 ((i : Nat) : Int)) rfl rfl ?_
 refine rP 1 7 (.slice A n c) rfl rfl ?_
 refine rP 2 8 (.int .i64 ((n : Nat) : Int)) rfl rfl ?_
 refine rQ 3 9 _ rfl rfl (qboolF (b := decide (((i : Nat) : Int) < ((n : Nat) : Int))) (decide_eq_false (by omega))) ?_
 refine rEnd 4 rfl (nxt (wp_cond_false (by kernel_rfl) (wp_exit (thX (thX (inX (nxt (wp_seq (reg ?_)))))))))
 refine rP 0 19 (.slice A1 N c1) rfl rfl ?_
 refine rP 1 2 (.slice A1 N c1) rfl rfl ?_
 refine rEnd 2 rfl (nxt (wp_ret ?_))
 refine Wk.ret (.slice A1 N c1) rfl (by kernel_rfl) ?_
 exact ⟨_, _, _, rfl, hO, HB⟩
theorem Hnew_any (w : World) : Calls Tryd.prog 20 #[] w fun e w' => ∃ q hc kc, Hid (hc = stCells Mur.H0) ∧ Hid (kc = Mur.u32s Mur.K) ∧ e = .returned (.pointer (some ⟨q, 0, none⟩)) ∧ w'.heap[q]? = some (.cells (hc ++ kc) 97 (0, 0)) ∧ (w.heap.size ≤ q ∧ q < w'.heap.size) ∧ Chg [] w w' := by
 refine calls_of_wp Tryd.func20 rfl ?_
 refine wp_seq (reg ?_)
 refine rP 0 0 (.pointer none) rfl rfl ?_
 refine rEnd 1 rfl (nxt (wp_seq (reg ?_)))
 refine rC 0 4 47 [] #[] [] rfl rfl rfl ?_
 refine (words_var w).mono ?_
 rintro _ W1 ⟨hc, kc, Hh, Hk, rfl, hB1⟩
 have ch1 := Chg.ofBelow hB1
 have zz1 := ch1.size
 have hcs := hc_size Hh.out
 have kcs := kc_size Hk.out
 refine ⟨_, rfl, ?_⟩
 refine rP 1 3 (.tuple #[.agg hc, .agg kc]) rfl rfl ?_
 refine rP 2 5 (.agg hc) rfl rfl ?_
 refine rP 3 6 (.agg kc) rfl rfl ?_
 refine rX 4 1 rfl rfl (new_ex (.pointer (some ⟨W1.heap.size, 0, none⟩)) #[.int .u32 0, .int .u32 0, .int .u32 0, .int .u32 0, .int .u32 0, .int .u32 0, .int .u32 0, .int .u32 0] 92 (by kernel_rfl)) ?_
 rintro _ W2 ⟨rfl, hb1, ch2, sz1⟩
 have zz2 := ch2.size
 refine rX 5 2 rfl rfl (new_ex (.pointer (some ⟨W2.heap.size, 0, none⟩)) #[.int .u32 0, .int .u32 0, .int .u32 0, .int .u32 0, .int .u32 0, .int .u32 0, .int .u32 0, .int .u32 0, .int .u32 0, .int .u32 0, .int .u32 0, .int .u32 0, .int .u32 0, .int .u32 0, .int .u32 0, .int .u32 0, .int .u32 0, .int .u32 0, .int .u32 0, .int .u32 0, .int .u32 0, .int .u32 0, .int .u32 0, .int .u32 0, .int .u32 0, .int .u32 0, .int .u32 0, .int .u32 0, .int .u32 0, .int .u32 0, .int .u32 0, .int .u32 0, .int .u32 0, .int .u32 0, .int .u32 0, .int .u32 0, .int .u32 0, .int .u32 0, .int .u32 0, .int .u32 0, .int .u32 0, .int .u32 0, .int .u32 0, .int .u32 0, .int .u32 0, .int .u32 0, .int .u32 0, .int .u32 0, .int .u32 0, .int .u32 0, .int .u32 0, .int .u32 0, .int .u32 0, .int .u32 0, .int .u32 0, .int .u32 0, .int .u32 0, .int .u32 0, .int .u32 0, .int .u32 0, .int .u32 0, .int .u32 0, .int .u32 0, .int .u32 0] 93 (by kernel_rfl)) ?_
 rintro _ W3 ⟨rfl, hb2, ch3, sz2⟩
 have zz3 := ch3.size
 refine rY 6 rfl rfl (Mur.storeArr 92 (.tmp 1) (.tmp 5) rfl W1.heap.size (by kernel_rfl) hc 8 hcs.1 hcs.2 (by kernel_rfl) (by kernel_rfl) 92 #[.int .u32 0, .int .u32 0, .int .u32 0, .int .u32 0, .int .u32 0, .int .u32 0, .int .u32 0, .int .u32 0] (Chg.hp ch3 hb1 trivial) (by kernel_rfl)) ?_
 rintro W4 ⟨hb3, ch4⟩
 have zz4 := ch4.size
 refine rY 7 rfl rfl (Mur.storeArr 93 (.tmp 2) (.tmp 6) rfl W2.heap.size (by kernel_rfl) kc 64 kcs.1 kcs.2 (by kernel_rfl) (by kernel_rfl) 93 #[.int .u32 0, .int .u32 0, .int .u32 0, .int .u32 0, .int .u32 0, .int .u32 0, .int .u32 0, .int .u32 0, .int .u32 0, .int .u32 0, .int .u32 0, .int .u32 0, .int .u32 0, .int .u32 0, .int .u32 0, .int .u32 0, .int .u32 0, .int .u32 0, .int .u32 0, .int .u32 0, .int .u32 0, .int .u32 0, .int .u32 0, .int .u32 0, .int .u32 0, .int .u32 0, .int .u32 0, .int .u32 0, .int .u32 0, .int .u32 0, .int .u32 0, .int .u32 0, .int .u32 0, .int .u32 0, .int .u32 0, .int .u32 0, .int .u32 0, .int .u32 0, .int .u32 0, .int .u32 0, .int .u32 0, .int .u32 0, .int .u32 0, .int .u32 0, .int .u32 0, .int .u32 0, .int .u32 0, .int .u32 0, .int .u32 0, .int .u32 0, .int .u32 0, .int .u32 0, .int .u32 0, .int .u32 0, .int .u32 0, .int .u32 0, .int .u32 0, .int .u32 0, .int .u32 0, .int .u32 0, .int .u32 0, .int .u32 0, .int .u32 0, .int .u32 0] (Chg.hp ch4 hb2 ⟨by omega, trivial⟩) (by kernel_rfl)) ?_
 rintro W5 ⟨hb4, ch5⟩
 have zz5 := ch5.size
 refine rEnd 8 rfl (nxt (wp_seq (reg ?_)))
 refine rQ 0 7 (.agg hc) rfl rfl (Mur.loadArr 92 (.tmp 1) rfl _ Tryd.underlying92 rfl W1.heap.size (by kernel_rfl) hc 8 hcs.1 (by kernel_rfl) 92 (0, 0) (Chg.hp ch5 hb3 ⟨by omega, trivial⟩)) ?_
 refine rQ 1 8 (.agg kc) rfl rfl (Mur.loadArr 93 (.tmp 2) rfl _ Tryd.underlying93 rfl W2.heap.size (by kernel_rfl) kc 64 kcs.1 (by kernel_rfl) 93 (0, 0) hb4) ?_
 refine rQ 2 9 (.agg (hc ++ kc)) rfl rfl (Mur.run_built 97 _ rfl [(0, .agg hc), (1, .agg kc)] (by kernel_rfl) _ (built_hash hcs.1 kcs.1)) ?_
 refine rX 3 10 rfl rfl (new_ex (.pointer (some ⟨W5.heap.size, 0, none⟩)) (hc ++ kc) 97 (by kernel_rfl)) ?_
 rintro _ W6 ⟨rfl, hb5, ch6, sz3⟩
 have zz6 := ch6.size
 refine rP 4 0 (.pointer (some ⟨W5.heap.size, 0, none⟩)) rfl rfl ?_
 refine rEnd 5 rfl (nxt (wp_ret ?_))
 have kk1 : Chg [] w W1 := Chg.step ((Chg.refl _).more (by simp)) ch1 trivial
 have kk2 := Chg.step kk1 ch2 trivial
 have kk3 := Chg.step kk2 ch3 trivial
 have kk4 := Chg.step kk3 ch4 ⟨.inr (by omega), trivial⟩
 have kk5 := Chg.step kk4 ch5 ⟨.inr (by omega), trivial⟩
 have kk6 := Chg.step kk5 ch6 trivial
 refine Wk.ret (.pointer (some ⟨W5.heap.size, 0, none⟩)) rfl (by kernel_rfl) ?_
 exact ⟨_, _, _, Hh, Hk, rfl, hb5, ⟨by omega, (Array.getElem?_eq_some_iff.1 hb5).1⟩, kk6⟩
theorem Hsum_any (hc kc : Array Value) (Hh : Hid (hc = stCells Mur.H0)) (Hk : Hid (kc = Mur.u32s Mur.K)) (g : Nat) (l : List UInt8) (A : Option Addr) (n c : Nat) (w : World) (hp : w.heap[g]? = some (.cells (hc ++ kc) 97 (0, 0))) (hb : Byt w A n l) (hnc : n ≤ c) (hnil : A = none → c = 0) (hn : n ≤ 140737488351232) : Calls Tryd.prog 22 #[.pointer (some ⟨g, 0, none⟩), .slice A n c] w fun e w' => ∃ d, Hid (d = Mur.sha l) ∧ d.length = 32 ∧ e = .returned (.agg (b8s d).toArray) ∧ Chg [] w w' := by
 have hcs := hc_size Hh.out
 have kcs := kc_size Hk.out
 have hg_ := (Array.getElem?_eq_some_iff.1 hp).1
 refine calls_of_wp Tryd.func22 rfl ?_
 refine wp_seq (reg ?_)
 refine rX 0 4 rfl rfl (new_ex (.pointer (some ⟨w.heap.size, 0, none⟩)) #[.int .u8 0, .int .u8 0, .int .u8 0, .int .u8 0, .int .u8 0, .int .u8 0, .int .u8 0, .int .u8 0, .int .u8 0, .int .u8 0, .int .u8 0, .int .u8 0, .int .u8 0, .int .u8 0, .int .u8 0, .int .u8 0, .int .u8 0, .int .u8 0, .int .u8 0, .int .u8 0, .int .u8 0, .int .u8 0, .int .u8 0, .int .u8 0, .int .u8 0, .int .u8 0, .int .u8 0, .int .u8 0, .int .u8 0, .int .u8 0, .int .u8 0, .int .u8 0] 30 (by kernel_rfl)) ?_
 rintro _ W1 ⟨rfl, hb1, ch1, sz1⟩
 have zz1 := ch1.size
 refine rEnd 1 rfl (nxt (wp_seq ?_))
 refine dReg ([w.heap.size]) (by kernel_rfl) ?_
 intro W2 ch2 sz2
 have zz2 := ch2.size
 have sS1 : Chg ([w.heap.size]) W2 W2 := (Chg.refl _).more (by simp)
 refine dV 0 5 (.pointer (some ⟨g, 0, none⟩)) rfl rfl (fun _ _ => by kernel_rfl) sS1 ?_
 refine dV 1 6 (.pointer (some ⟨g, 0, none⟩)) rfl rfl (fun _ _ => by kernel_rfl) sS1 ?_
 refine dV 2 7 (.pointer (some ⟨g, 0, none⟩)) rfl rfl (fun _ _ => by kernel_rfl) sS1 ?_
 have kk1 : Chg [] w W1 := Chg.step ((Chg.refl _).more (by simp)) ch1 trivial
 have kk2 := Chg.step kk1 ch2 trivial
 refine dV 3 8 (.agg hc) rfl rfl (fun w' hw' => (loadR 92 (.tmp 7) rfl _ Tryd.underlying92 rfl g 0 (by kernel_rfl) hc.toList (by rw [Array.length_toList, hcs.1]; kernel_rfl) (Wk.range_sub 0 hc.toList (Chg.hp hw' (Chg.hp kk2 hp trivial) ⟨by omega, trivial⟩) (Mur.hk_left hc kc)))) sS1 ?_
 refine dV 4 9 (.pointer (some ⟨g, 0, none⟩)) rfl rfl (fun _ _ => by kernel_rfl) sS1 ?_
 refine dV 5 10 (.pointer (some ⟨g, 0, none⟩)) rfl rfl (fun _ _ => by kernel_rfl) sS1 ?_
 refine dV 6 11 (.pointer (some ⟨g, 8, none⟩)) rfl rfl (fun _ _ => by kernel_rfl) sS1 ?_
 refine dV 7 12 (.agg kc) rfl rfl (fun w' hw' => (loadR 93 (.tmp 11) rfl _ Tryd.underlying93 rfl g 8 (by kernel_rfl) kc.toList (by rw [Array.length_toList, kcs.1]; kernel_rfl) (Wk.range_sub 8 kc.toList (Chg.hp hw' (Chg.hp kk2 hp trivial) ⟨by omega, trivial⟩) (Mur.hk_right hcs.1)))) sS1 ?_
 refine dV 8 13 (.slice A n c) rfl rfl (fun _ _ => by kernel_rfl) sS1 ?_
 refine dOp 9 (by kernel_rfl) ?_
 refine oCall (some 14) 49 [.tmp 8, .tmp 12, .tmp 13] #[92, 93, 38] [.agg hc, .agg kc, .slice A n c] rfl rfl (by kernel_rfl) rfl (by kernel_rfl) (by kernel_rfl) ?_
 refine (Rsum_var hc kc Hh Hk l A n c W2 (Mur.byt_chg hb kk2 (fun g off e hl => trivial)) (by omega) hnil (by omega)).mono ?_
 rintro _ W3 ⟨dd1, hd1, hdl1, rfl, hB1⟩
 have ch3 := Chg.ofBelow hB1
 have zz3 := ch3.size
 have sS2 := Chg.step sS1 ch3 trivial
 refine ⟨_, rfl, sS2, ?_⟩
 refine dOp 10 (by kernel_rfl) ?_
 refine oExS none _ rfl rfl (by kernel_rfl) (Mur.storeAll 30 (.tmp 4) (.tmp 14) rfl w.heap.size (by kernel_rfl) dd1 32 hdl1 (by kernel_rfl) (by kernel_rfl) 30 #[.int .u8 0, .int .u8 0, .int .u8 0, .int .u8 0, .int .u8 0, .int .u8 0, .int .u8 0, .int .u8 0, .int .u8 0, .int .u8 0, .int .u8 0, .int .u8 0, .int .u8 0, .int .u8 0, .int .u8 0, .int .u8 0, .int .u8 0, .int .u8 0, .int .u8 0, .int .u8 0, .int .u8 0, .int .u8 0, .int .u8 0, .int .u8 0, .int .u8 0, .int .u8 0, .int .u8 0, .int .u8 0, .int .u8 0, .int .u8 0, .int .u8 0, .int .u8 0] (Chg.hp ch3 (Chg.hp ch2 hb1 trivial) trivial) rfl) ?_
 rintro W4 ⟨hb2, ch4⟩
 have zz4 := ch4.size
 have sS3 := Chg.step sS2 ch4 ⟨.inl (by simp), trivial⟩
 refine ⟨sS3, ?_⟩
 refine dEnd (by kernel_rfl) (nxt (wp_ret ?_))
 have kk3 := Chg.step kk2 ch3 trivial
 have kk4 := Chg.step kk3 ch4 ⟨.inr (by omega), trivial⟩
 refine Wk.ret (.agg (b8s dd1).toArray) rfl (results_cell_row rfl _ _ w.heap.size 30 (b8s dd1).toArray (0, 0) _ (by kernel_rfl) hb2 Tryd.underlying30 rfl (by rw [List.size_toArray, Mur.b8s_length, hdl1]; kernel_rfl)) ?_
 exact ⟨_, hd1, hdl1, rfl, kk4⟩
end Go.Proofs.YtfhneademopciaaDoor
namespace Go.Proofs.YtfhneademopciaaDoor
open Go.RowKit Wk
open Mur (b8s Byt Own8 Seg Segs flat cutA attC Att SlA OwnA rowA)
set_option maxRecDepth 100000
set_option maxHeartbeats 4000000
def Risp_F1 (b : Array Value) (u0 : Value) (u3 : Value) : Act := ⟨#[u0, gd b 1, gd b 2, u3, gd b 4, gd b 5, gd b 6, gd b 7, gd b 8, gd b 9, gd b 10, gd b 11, gd b 12, gd b 13, gd b 14, gd b 15, gd b 16, gd b 17], []⟩
def Rbel_F1 (b : Array Value) (u0 : Value) (u1 : Value) (u5 : Value) (u6 : Value) : Act := ⟨#[u0, u1, gd b 2, gd b 3, gd b 4, u5, u6, gd b 7, gd b 8, gd b 9, gd b 10, gd b 11, gd b 12, gd b 13, gd b 14, gd b 15, gd b 16, gd b 17, gd b 18, gd b 19, gd b 20, gd b 21, gd b 22, gd b 23, gd b 24, gd b 25, gd b 26, gd b 27, gd b 28, gd b 29, gd b 30, gd b 31, gd b 32, gd b 33, gd b 34, gd b 35, gd b 36, gd b 37, gd b 38, gd b 39, gd b 40, gd b 41, gd b 42, gd b 43, gd b 44, gd b 45, gd b 46, gd b 47, gd b 48, gd b 49, gd b 50, gd b 51, gd b 52, gd b 53, gd b 54, gd b 55, gd b 56, gd b 57, gd b 58], []⟩
def Rbel_F2 (b : Array Value) (u0 : Value) (u1 : Value) (u5 : Value) (u6 : Value) (u7 : Value) (u8 : Value) : Act := ⟨#[u0, u1, gd b 2, gd b 3, gd b 4, u5, u6, u7, u8, gd b 9, gd b 10, gd b 11, gd b 12, gd b 13, gd b 14, gd b 15, gd b 16, gd b 17, gd b 18, gd b 19, gd b 20, gd b 21, gd b 22, gd b 23, gd b 24, gd b 25, gd b 26, gd b 27, gd b 28, gd b 29, gd b 30, gd b 31, gd b 32, gd b 33, gd b 34, gd b 35, gd b 36, gd b 37, gd b 38, gd b 39, gd b 40, gd b 41, gd b 42, gd b 43, gd b 44, gd b 45, gd b 46, gd b 47, gd b 48, gd b 49, gd b 50, gd b 51, gd b 52, gd b 53, gd b 54, gd b 55, gd b 56, gd b 57, gd b 58], []⟩
theorem Risp_any (l : List UInt8) (A : Option Addr) (n c : Nat) (w : World) (hb : Byt w A n l) (hn : n ≤ 9223372036854775807) : Calls Tryd.prog 30 #[.slice A n c] w fun e w' => e = .returned (.bool (Mur.isPre l)) ∧ w = w' := by
 refine calls_of_wp Tryd.func30 rfl ?_
 refine wp_seq (reg ?_)
 refine rP 0 2 (.bool false) rfl rfl ?_
 refine rEnd 1 rfl (nxt (wp_seq (wp_seq (reg ?_))))
 refine rP 0 3 (.int .i64 0) rfl rfl ?_
 refine rEnd 1 rfl (nxt (wp_block ?_))
 refine Wk.loop (fun m_ a wr => ∃ (i : Nat), m_ = n - i ∧ a = Risp_F1 a.tmps (.slice A n c) (.int .i64 ((i : Nat) : Int)) ∧ i ≤ n ∧ (∀ j, j < i → (l.getD j 0) ≤ 15) ∧ wr = w) (n - 0) ?_ ?_
 ·refine ⟨0, rfl, by kernel_rfl, Nat.zero_le _, (fun j h => by omega), rfl⟩
 rintro mm1 aa1 W1 ⟨i, hmm1, hF1, hi, hall, hw⟩
 generalize aa1.tmps = bb1 at hF1
 subst hF1
 subst hw
 by_cases hlt : i < n
 ·obtain ⟨q, off, rfl, hcc⟩ := hb.2 (by omega)
  refine wp_seq (wp_seq (reg ?_))
  refine rP 0 4 (.int .i64 ((i : Nat) : Int)) rfl rfl ?_
  refine rP 1 5 (.slice (some ⟨q, off, none⟩) n c) rfl rfl ?_
  refine rP 2 6 (.int .i64 ((n : Nat) : Int)) rfl rfl ?_
  refine rQ 3 7 _ rfl rfl (qboolT (b := decide (((i : Nat) : Int) < ((n : Nat) : Int))) (decide_eq_true (by omega))) ?_
  refine rEnd 4 rfl (nxt (wp_cond_true (by kernel_rfl) (wp_skip (nxt (wp_seq (wp_block (wp_seq (reg ?_))))))))
  refine rP 0 10 (.slice (some ⟨q, off, none⟩) n c) rfl rfl ?_
  refine rP 1 11 (.int .i64 ((i : Nat) : Int)) rfl rfl ?_
  refine rQ 2 12 (.pointer (some ⟨q, off + i * 1, none⟩)) rfl rfl (index_sl 38 5 (.tmp 10) (.tmp 11) rfl Tryd.underlying38 1 (by kernel_rfl) q off n c i .i64 (by kernel_rfl) (by kernel_rfl) (by omega)) ?_
  refine rQ 3 13 _ rfl rfl (load1 5 (.tmp 12) rfl (by kernel_rfl) ⟨q, off + i * 1, none⟩ (by kernel_rfl) (.int .u8 (((l.getD i 0).toNat : Nat) : Int)) (Mur.byt_cell hb i (by omega))) ?_
  by_cases hx1 : (((l.getD i 0).toNat : Nat) : Int) > (15 : Int)
  ·refine rQ 4 14 _ rfl rfl (qboolT (b := decide ((((l.getD i 0).toNat : Nat) : Int) > (15 : Int))) (decide_eq_true (by first | exact hx1 | omega))) ?_
   refine rEnd 5 rfl (nxt (wp_cond_true (by kernel_rfl) (wp_seq (reg ?_))))
   refine rP 0 2 (.bool false) rfl rfl ?_
   refine rEnd 1 rfl (nxt (wp_ret (inR (thR (thR (inR (thR ?_)))))))
   refine Wk.ret (.bool false) rfl (by kernel_rfl) ?_
   exact ⟨by rw [show Mur.isPre l = false from by unfold Mur.isPre; rw [Mur.some15 hb.1 hlt (UInt8.lt_iff_toNat_lt.2 (show 15 < (l.getD i 0).toNat by omega))]; rfl], rfl⟩
  refine rQ 4 14 _ rfl rfl (qboolF (b := decide ((((l.getD i 0).toNat : Nat) : Int) > (15 : Int))) (decide_eq_false (by first | exact hx1 | omega))) ?_
  refine rEnd 5 rfl (nxt (wp_cond_false (by kernel_rfl) (wp_skip (inN (nxt (reg ?_))))))
  refine rP 0 8 (.int .i64 ((i : Nat) : Int)) rfl rfl ?_
  refine rQ 1 9 _ rfl rfl (qint64 (n := ((i : Nat) : Int) + 1) (z := ((i + 1 : Nat) : Int)) (by omega) (by omega) (by omega)) ?_
  refine rP 2 3 (.int .i64 ((i + 1 : Nat) : Int)) rfl rfl ?_
  refine rEnd 3 rfl (nxt ?_)
  refine ⟨_, ?_, i + 1, rfl, by kernel_rfl, (by omega), (fun j hj => by rcases Nat.lt_or_ge j i with h1 | h1 <;> first | exact hall j h1 | (obtain rfl : j = i := (by omega); exact UInt8.not_lt.1 (fun q_ => hx1 (by rw [UInt8.lt_iff_toNat_lt] at q_; have h15 : (15 : UInt8).toNat = 15 := rfl; omega)))), rfl⟩
  omega
 refine wp_seq (wp_seq (reg ?_))
 refine rP 0 4 (.int .i64 ((i : Nat) : Int)) rfl rfl ?_
 refine rP 1 5 (.slice A n c) rfl rfl ?_
 refine rP 2 6 (.int .i64 ((n : Nat) : Int)) rfl rfl ?_
 refine rQ 3 7 _ rfl rfl (qboolF (b := decide (((i : Nat) : Int) < ((n : Nat) : Int))) (decide_eq_false (by omega))) ?_
 refine rEnd 4 rfl (nxt (wp_cond_false (by kernel_rfl) (wp_exit (thX (thX (inX (nxt (wp_seq (reg ?_)))))))))
 refine rP 0 15 (.slice A n c) rfl rfl ?_
 refine rP 1 16 (.int .i64 ((n : Nat) : Int)) rfl rfl ?_
 by_cases hx2 : ((n : Nat) : Int) ≤ (8 : Int)
 ·refine rQ 2 17 _ rfl rfl (qboolT (b := decide (((n : Nat) : Int) ≤ (8 : Int))) (decide_eq_true (by first | exact hx2 | omega))) ?_
  refine rP 3 2 (.bool true) rfl rfl ?_
  refine rEnd 4 rfl (nxt (wp_ret ?_))
  refine Wk.ret (.bool true) rfl (by kernel_rfl) ?_
  exact ⟨by rw [show Mur.isPre l = true from by unfold Mur.isPre; rw [Mur.all15 hb.1 (fun j hj => hall j (by omega))]; have := hb.1; simp; omega], rfl⟩
 refine rQ 2 17 _ rfl rfl (qboolF (b := decide (((n : Nat) : Int) ≤ (8 : Int))) (decide_eq_false (by first | exact hx2 | omega))) ?_
 refine rP 3 2 (.bool false) rfl rfl ?_
 refine rEnd 4 rfl (nxt (wp_ret ?_))
 refine Wk.ret (.bool false) rfl (by kernel_rfl) ?_
 exact ⟨by rw [show Mur.isPre l = false from by unfold Mur.isPre; rw [Mur.all15 hb.1 (fun j hj => hall j (by omega))]; have := hb.1; simp; omega], rfl⟩
theorem Rbelow_any (A : Option Addr) (n c : Nat) (L : List Att) (p : List UInt8) (PA : Option Addr) (pn pc : Nat) (w : World) (hA_ : SlA w A n L) (hb : Byt w PA pn p) (hn : n ≤ 200) (hpn : pn ≤ 9223372036854775807) : Calls Tryd.prog 29 #[.slice A n c, .slice PA pn pc] w fun e w' => ∃ A1 n1 c1, e = .returned (.slice A1 n1 c1) ∧ OwnA w' w.heap.size 32 A1 n1 c1 (Mur.belowL p L) ∧ Chg [] w w' := by
 have hLl0 := hA_.len
 refine calls_of_wp Tryd.func29 rfl ?_
 refine wp_seq (reg ?_)
 refine rP 0 4 (.slice none 0 0) rfl rfl ?_
 refine rEnd 1 rfl (nxt (wp_seq (reg ?_)))
 refine rP 0 5 (.slice none 0 0) rfl rfl ?_
 refine rEnd 1 rfl (nxt (wp_seq (wp_seq (reg ?_))))
 refine rP 0 11 (.slice PA pn pc) rfl rfl ?_
 refine rC 1 12 30 [.tmp 11] #[38] [.slice PA pn pc] rfl rfl rfl ?_
 refine (Risp_any p PA pn pc w hb (by omega)).mono ?_
 cases hpre1 : Mur.isPre p
 ·rintro _ _ ⟨rfl, rfl⟩
  refine ⟨_, rfl, ?_⟩
  refine rP 2 13 (.bool true) rfl rfl ?_
  refine rEnd 3 rfl (nxt (wp_cond_true (by kernel_rfl) (wp_seq (reg ?_))))
  refine rP 0 4 (.slice none 0 0) rfl rfl ?_
  refine rEnd 1 rfl (nxt (wp_ret (thR ?_)))
  refine Wk.ret (.slice none 0 0) rfl (by kernel_rfl) ?_
  exact ⟨_, _, _, rfl, by rw [Mur.belowL_no hpre1]; exact Mur.ownA_nil _ _ _, (Chg.refl _)⟩
 rintro _ _ ⟨rfl, rfl⟩
 refine ⟨_, rfl, ?_⟩
 refine rP 2 13 (.bool false) rfl rfl ?_
 refine rEnd 3 rfl (nxt (wp_cond_false (by kernel_rfl) (wp_skip (nxt (wp_seq (wp_seq (reg ?_)))))))
 have hpre1 := hpre1
 refine rP 0 6 (.int .i64 0) rfl rfl ?_
 refine rEnd 1 rfl (nxt (wp_block ?_))
 refine Wk.loop (fun m_ a wr => ∃ (i : Nat) (A1 : Option Addr) (N : Nat) (c1 : Nat), m_ = n - i ∧ a = Rbel_F1 a.tmps (.slice A n c) (.slice PA pn pc) (.slice A1 N c1) (.int .i64 ((i : Nat) : Int)) ∧ i ≤ n ∧ OwnA wr w.heap.size 32 A1 N c1 ((L.take i).filter (fun y_ => Mur.under p y_.k)) ∧ Chg [] w wr) (n - 0) ?_ ?_
 ·refine ⟨0, none, 0, 0, rfl, by kernel_rfl, (by omega), (by exact Mur.ownA_nil _ _ _), (Chg.refl _)⟩
 rintro mm1 aa1 W1 ⟨i, A1, N, c1, hmm1, hF1, hi, hO, HB⟩
 generalize aa1.tmps = bb1 at hF1
 subst hF1
 have hzB := HB.size
 have hLl := hA_.len
 have hOl := hO.sl.len
 have hOn := hO.nc
 have hfl_ := List.length_filter_le (fun y_ : Att => Mur.under p y_.k) (L.take i)
 rw [List.length_take] at hfl_
 by_cases hlt : i < n
 ·obtain ⟨g_x, o_x, rfl, _⟩ := hA_.ex (by omega)
  obtain ⟨x, hx⟩ : ∃ x, L[i]? = some x := ⟨_, List.getElem?_eq_getElem (by have := hA_.len; omega)⟩
  refine wp_seq (wp_seq (reg ?_))
  refine rP 0 14 (.int .i64 ((i : Nat) : Int)) rfl rfl ?_
  refine rP 1 15 (.slice (some ⟨g_x, o_x, none⟩) n c) rfl rfl ?_
  refine rP 2 16 (.int .i64 ((n : Nat) : Int)) rfl rfl ?_
  refine rQ 3 17 _ rfl rfl (qboolT (b := decide (((i : Nat) : Int) < ((n : Nat) : Int))) (decide_eq_true (by omega))) ?_
  refine rEnd 4 rfl (nxt (wp_cond_true (by kernel_rfl) (wp_skip (nxt (wp_seq (wp_block (wp_seq (reg ?_))))))))
  refine rP 0 7 (.bool true) rfl rfl ?_
  refine rEnd 1 rfl (nxt (wp_seq (wp_seq (reg ?_))))
  refine rP 0 8 (.int .i64 0) rfl rfl ?_
  refine rEnd 1 rfl (nxt (wp_block ?_))
  refine Wk.loop (fun m_ a wr => ∃ (j : Nat) (b : Bool), m_ = pn - j ∧ a = Rbel_F2 a.tmps (.slice (some ⟨g_x, o_x, none⟩) n c) (.slice PA pn pc) (.slice A1 N c1) (.int .i64 ((i : Nat) : Int)) (.bool b) (.int .i64 ((j : Nat) : Int)) ∧ j ≤ pn ∧ (b = true ↔ ∀ i_, i_ < j → i_ < pn → Mur.nib x.k i_ = p.getD i_ 0) ∧ wr = W1) (pn - 0) ?_ ?_
  ·refine ⟨0, true, rfl, by kernel_rfl, (by omega), (by simp), rfl⟩
  rintro mm2 aa2 W2 ⟨j, b, hmm2, hF2, hj, hbb, hwJ⟩
  generalize aa2.tmps = bb2 at hF2
  subst hF2
  subst hwJ
  have hpl_ := hb.1
  have hp8 := Mur.pre_len hpre1
  by_cases hlj : j < pn
  ·obtain ⟨q2, off2, hA2, _⟩ := hb.2 (by omega)
   subst hA2
   cases b
   ·refine wp_seq (wp_seq (reg ?_))
    refine rP 0 20 (.int .i64 ((j : Nat) : Int)) rfl rfl ?_
    refine rP 1 21 (.slice (some ⟨q2, off2, none⟩) pn pc) rfl rfl ?_
    refine rP 2 22 (.int .i64 ((pn : Nat) : Int)) rfl rfl ?_
    refine rQ 3 23 _ rfl rfl (qboolT (b := decide (((j : Nat) : Int) < ((pn : Nat) : Int))) (decide_eq_true (by omega))) ?_
    refine rEnd 4 rfl (nxt (wp_cond_true (by kernel_rfl) (wp_skip (nxt (wp_seq (wp_block (wp_seq (reg ?_))))))))
    refine rP 0 26 (.slice (some ⟨g_x, o_x, none⟩) n c) rfl rfl ?_
    refine rP 1 27 (.int .i64 ((i : Nat) : Int)) rfl rfl ?_
    refine rP 2 28 (.int .i64 ((j : Nat) : Int)) rfl rfl ?_
    refine rQ 3 29 (.int .i64 ((j / 2 : Nat) : Int)) rfl rfl (Mur.quo_nat 3 3 (.tmp 28) (.const (.int .i64 2)) rfl j 2 (by kernel_rfl) (by kernel_rfl) (by omega) (by omega)) ?_
    refine rQ 4 30 (.pointer (some ⟨g_x, o_x + i * 97, none⟩)) rfl rfl (index_sl 50 32 (.tmp 26) (.tmp 27) rfl Tryd.underlying50 97 (by kernel_rfl) g_x o_x n c i .i64 (by kernel_rfl) (by kernel_rfl) (by omega)) ?_
    refine rP 5 31 (.pointer (some ⟨g_x, o_x + i * 97, none⟩)) rfl rfl ?_
    refine rQ 6 32 (.pointer (some ⟨g_x, o_x + i * 97 + (j / 2) * 1, none⟩)) rfl rfl (Wk.index_arr 30 5 (.tmp 31) (.tmp 29) rfl 32 Tryd.underlying30 1 (by kernel_rfl) g_x (o_x + i * 97) (j / 2) .i64 (by kernel_rfl) (by kernel_rfl) (by omega)) ?_
    refine rQ 7 33 _ rfl rfl (load1 5 (.tmp 32) rfl (by kernel_rfl) ⟨g_x, o_x + i * 97 + (j / 2) * 1, none⟩ (by kernel_rfl) (.int .u8 (((x.k.getD (j / 2) 0).toNat : Nat) : Int)) (Mur.SlA.kcell (Mur.SlA.chg hA_ HB (fun g off e hl => trivial)) hx (j := j / 2) (by omega))) ?_
    refine rP 8 9 (.int .u8 (((x.k.getD (j / 2) 0).toNat : Nat) : Int)) rfl rfl ?_
    refine rEnd 9 rfl (nxt (wp_seq (reg ?_)))
    refine rP 0 34 (.int .u8 (((x.k.getD (j / 2) 0).toNat : Nat) : Int)) rfl rfl ?_
    refine rQ 1 35 (.int .u8 (((x.k.getD (j / 2) 0 >>> 4).toNat : Nat) : Int)) rfl rfl (Mur.quo8_16 5 5 (.tmp 34) (.const (.int .u8 16)) rfl (x.k.getD (j / 2) 0) (by kernel_rfl) (by kernel_rfl)) ?_
    refine rP 2 10 (.int .u8 (((x.k.getD (j / 2) 0 >>> 4).toNat : Nat) : Int)) rfl rfl ?_
    refine rEnd 3 rfl (nxt (wp_seq (wp_seq (reg ?_))))
    refine rP 0 36 (.int .i64 ((j : Nat) : Int)) rfl rfl ?_
    refine rQ 1 37 (.int .i64 ((j % 2 : Nat) : Int)) rfl rfl (Wk.rem_nat 3 3 (.tmp 36) (.const (.int .i64 2)) rfl j 2 (by kernel_rfl) (by kernel_rfl) (by omega)) ?_
    by_cases hx1 : ((j % 2 : Nat) : Int) = (1 : Int)
    ·refine rQ 2 38 _ rfl rfl (qboolT (b := (((j % 2 : Nat) : Int) == (1 : Int))) (beq_iff_eq.2 (by first | exact hx1 | omega))) ?_
     refine rEnd 3 rfl (nxt (wp_cond_true (by kernel_rfl) (reg ?_)))
     refine rP 0 39 (.int .u8 (((x.k.getD (j / 2) 0).toNat : Nat) : Int)) rfl rfl ?_
     refine rQ 1 40 (.int .u8 (((x.k.getD (j / 2) 0 &&& 15).toNat : Nat) : Int)) rfl rfl (Mur.rem8_16 5 5 (.tmp 39) (.const (.int .u8 16)) rfl (x.k.getD (j / 2) 0) (by kernel_rfl) (by kernel_rfl)) ?_
     refine rP 2 10 (.int .u8 (((x.k.getD (j / 2) 0 &&& 15).toNat : Nat) : Int)) rfl rfl ?_
     refine rEnd 3 rfl (nxt (reg ?_))
     refine rP 0 41 (.bool false) rfl rfl ?_
     refine rP 1 42 (.bool false) rfl rfl ?_
     refine rPass 2 (some 43) rfl rfl (by kernel_rfl) ?_
     refine rPass 3 (some 44) rfl rfl (by kernel_rfl) ?_
     refine rPass 4 (some 45) rfl rfl (by kernel_rfl) ?_
     refine rPass 5 (some 46) rfl rfl (by kernel_rfl) ?_
     refine rPass 6 (some 47) rfl rfl (by kernel_rfl) ?_
     refine rPass 7 (some 48) rfl rfl (by kernel_rfl) ?_
     refine rP 8 49 (.bool false) rfl rfl ?_
     refine rP 9 7 (.bool false) rfl rfl ?_
     refine rEnd 10 rfl (inN (nxt (reg ?_)))
     refine rP 0 24 (.int .i64 ((j : Nat) : Int)) rfl rfl ?_
     refine rQ 1 25 _ rfl rfl (qint64 (n := ((j : Nat) : Int) + 1) (z := ((j + 1 : Nat) : Int)) (by omega) (by omega) (by omega)) ?_
     refine rP 2 8 (.int .i64 ((j + 1 : Nat) : Int)) rfl rfl ?_
     refine rEnd 3 rfl (nxt ?_)
     refine ⟨_, ?_, j + 1, false, rfl, by kernel_rfl, (by omega), ⟨fun e_ => (by cases e_), fun q_ => hbb.2 (fun i_ h1_ h2_ => q_ i_ (by omega) h2_)⟩, rfl⟩
     omega
    refine rQ 2 38 _ rfl rfl (qboolF (b := (((j % 2 : Nat) : Int) == (1 : Int))) (beq_eq_false_iff_ne.2 (by first | exact hx1 | omega))) ?_
    refine rEnd 3 rfl (nxt (wp_cond_false (by kernel_rfl) (wp_skip (nxt (reg ?_)))))
    refine rP 0 41 (.bool false) rfl rfl ?_
    refine rP 1 42 (.bool false) rfl rfl ?_
    refine rPass 2 (some 43) rfl rfl (by kernel_rfl) ?_
    refine rPass 3 (some 44) rfl rfl (by kernel_rfl) ?_
    refine rPass 4 (some 45) rfl rfl (by kernel_rfl) ?_
    refine rPass 5 (some 46) rfl rfl (by kernel_rfl) ?_
    refine rPass 6 (some 47) rfl rfl (by kernel_rfl) ?_
    refine rPass 7 (some 48) rfl rfl (by kernel_rfl) ?_
    refine rP 8 49 (.bool false) rfl rfl ?_
    refine rP 9 7 (.bool false) rfl rfl ?_
    refine rEnd 10 rfl (inN (nxt (reg ?_)))
    refine rP 0 24 (.int .i64 ((j : Nat) : Int)) rfl rfl ?_
    refine rQ 1 25 _ rfl rfl (qint64 (n := ((j : Nat) : Int) + 1) (z := ((j + 1 : Nat) : Int)) (by omega) (by omega) (by omega)) ?_
    refine rP 2 8 (.int .i64 ((j + 1 : Nat) : Int)) rfl rfl ?_
    refine rEnd 3 rfl (nxt ?_)
    refine ⟨_, ?_, j + 1, false, rfl, by kernel_rfl, (by omega), ⟨fun e_ => (by cases e_), fun q_ => hbb.2 (fun i_ h1_ h2_ => q_ i_ (by omega) h2_)⟩, rfl⟩
    omega
   refine wp_seq (wp_seq (reg ?_))
   refine rP 0 20 (.int .i64 ((j : Nat) : Int)) rfl rfl ?_
   refine rP 1 21 (.slice (some ⟨q2, off2, none⟩) pn pc) rfl rfl ?_
   refine rP 2 22 (.int .i64 ((pn : Nat) : Int)) rfl rfl ?_
   refine rQ 3 23 _ rfl rfl (qboolT (b := decide (((j : Nat) : Int) < ((pn : Nat) : Int))) (decide_eq_true (by omega))) ?_
   refine rEnd 4 rfl (nxt (wp_cond_true (by kernel_rfl) (wp_skip (nxt (wp_seq (wp_block (wp_seq (reg ?_))))))))
   refine rP 0 26 (.slice (some ⟨g_x, o_x, none⟩) n c) rfl rfl ?_
   refine rP 1 27 (.int .i64 ((i : Nat) : Int)) rfl rfl ?_
   refine rP 2 28 (.int .i64 ((j : Nat) : Int)) rfl rfl ?_
   refine rQ 3 29 (.int .i64 ((j / 2 : Nat) : Int)) rfl rfl (Mur.quo_nat 3 3 (.tmp 28) (.const (.int .i64 2)) rfl j 2 (by kernel_rfl) (by kernel_rfl) (by omega) (by omega)) ?_
   refine rQ 4 30 (.pointer (some ⟨g_x, o_x + i * 97, none⟩)) rfl rfl (index_sl 50 32 (.tmp 26) (.tmp 27) rfl Tryd.underlying50 97 (by kernel_rfl) g_x o_x n c i .i64 (by kernel_rfl) (by kernel_rfl) (by omega)) ?_
   refine rP 5 31 (.pointer (some ⟨g_x, o_x + i * 97, none⟩)) rfl rfl ?_
   refine rQ 6 32 (.pointer (some ⟨g_x, o_x + i * 97 + (j / 2) * 1, none⟩)) rfl rfl (Wk.index_arr 30 5 (.tmp 31) (.tmp 29) rfl 32 Tryd.underlying30 1 (by kernel_rfl) g_x (o_x + i * 97) (j / 2) .i64 (by kernel_rfl) (by kernel_rfl) (by omega)) ?_
   refine rQ 7 33 _ rfl rfl (load1 5 (.tmp 32) rfl (by kernel_rfl) ⟨g_x, o_x + i * 97 + (j / 2) * 1, none⟩ (by kernel_rfl) (.int .u8 (((x.k.getD (j / 2) 0).toNat : Nat) : Int)) (Mur.SlA.kcell (Mur.SlA.chg hA_ HB (fun g off e hl => trivial)) hx (j := j / 2) (by omega))) ?_
   refine rP 8 9 (.int .u8 (((x.k.getD (j / 2) 0).toNat : Nat) : Int)) rfl rfl ?_
   refine rEnd 9 rfl (nxt (wp_seq (reg ?_)))
   refine rP 0 34 (.int .u8 (((x.k.getD (j / 2) 0).toNat : Nat) : Int)) rfl rfl ?_
   refine rQ 1 35 (.int .u8 (((x.k.getD (j / 2) 0 >>> 4).toNat : Nat) : Int)) rfl rfl (Mur.quo8_16 5 5 (.tmp 34) (.const (.int .u8 16)) rfl (x.k.getD (j / 2) 0) (by kernel_rfl) (by kernel_rfl)) ?_
   refine rP 2 10 (.int .u8 (((x.k.getD (j / 2) 0 >>> 4).toNat : Nat) : Int)) rfl rfl ?_
   refine rEnd 3 rfl (nxt (wp_seq (wp_seq (reg ?_))))
   refine rP 0 36 (.int .i64 ((j : Nat) : Int)) rfl rfl ?_
   refine rQ 1 37 (.int .i64 ((j % 2 : Nat) : Int)) rfl rfl (Wk.rem_nat 3 3 (.tmp 36) (.const (.int .i64 2)) rfl j 2 (by kernel_rfl) (by kernel_rfl) (by omega)) ?_
   by_cases hx2 : ((j % 2 : Nat) : Int) = (1 : Int)
   ·refine rQ 2 38 _ rfl rfl (qboolT (b := (((j % 2 : Nat) : Int) == (1 : Int))) (beq_iff_eq.2 (by first | exact hx2 | omega))) ?_
    refine rEnd 3 rfl (nxt (wp_cond_true (by kernel_rfl) (reg ?_)))
    refine rP 0 39 (.int .u8 (((x.k.getD (j / 2) 0).toNat : Nat) : Int)) rfl rfl ?_
    refine rQ 1 40 (.int .u8 (((x.k.getD (j / 2) 0 &&& 15).toNat : Nat) : Int)) rfl rfl (Mur.rem8_16 5 5 (.tmp 39) (.const (.int .u8 16)) rfl (x.k.getD (j / 2) 0) (by kernel_rfl) (by kernel_rfl)) ?_
    refine rP 2 10 (.int .u8 (((x.k.getD (j / 2) 0 &&& 15).toNat : Nat) : Int)) rfl rfl ?_
    refine rEnd 3 rfl (nxt (reg ?_))
    refine rP 0 41 (.bool true) rfl rfl ?_
    refine rP 1 42 (.bool true) rfl rfl ?_
    refine rP 2 43 (.int .u8 (((x.k.getD (j / 2) 0 &&& 15).toNat : Nat) : Int)) rfl rfl ?_
    refine rP 3 44 (.slice (some ⟨q2, off2, none⟩) pn pc) rfl rfl ?_
    refine rP 4 45 (.int .i64 ((j : Nat) : Int)) rfl rfl ?_
    refine rQ 5 46 (.pointer (some ⟨q2, off2 + j * 1, none⟩)) rfl rfl (index_sl 38 5 (.tmp 44) (.tmp 45) rfl Tryd.underlying38 1 (by kernel_rfl) q2 off2 pn pc j .i64 (by kernel_rfl) (by kernel_rfl) (by omega)) ?_
    refine rQ 6 47 _ rfl rfl (load1 5 (.tmp 46) rfl (by kernel_rfl) ⟨q2, off2 + j * 1, none⟩ (by kernel_rfl) (.int .u8 (((p.getD j 0).toNat : Nat) : Int)) (Mur.byt_cell (Mur.byt_chg hb HB (fun g off e hl => trivial)) j (by omega))) ?_
    by_cases hx3 : (((x.k.getD (j / 2) 0 &&& 15).toNat : Nat) : Int) = (((p.getD j 0).toNat : Nat) : Int)
    ·refine rQ 7 48 _ rfl rfl (qboolT (b := ((((x.k.getD (j / 2) 0 &&& 15).toNat : Nat) : Int) == (((p.getD j 0).toNat : Nat) : Int))) (beq_iff_eq.2 (by first | exact hx3 | omega))) ?_
     refine rP 8 49 (.bool true) rfl rfl ?_
     refine rP 9 7 (.bool true) rfl rfl ?_
     refine rEnd 10 rfl (inN (nxt (reg ?_)))
     refine rP 0 24 (.int .i64 ((j : Nat) : Int)) rfl rfl ?_
     refine rQ 1 25 _ rfl rfl (qint64 (n := ((j : Nat) : Int) + 1) (z := ((j + 1 : Nat) : Int)) (by omega) (by omega) (by omega)) ?_
     refine rP 2 8 (.int .i64 ((j + 1 : Nat) : Int)) rfl rfl ?_
     refine rEnd 3 rfl (nxt ?_)
     refine ⟨_, ?_, j + 1, true, rfl, by kernel_rfl, (by omega), ⟨fun _ i_ h1_ h2_ => by rcases Nat.lt_or_ge i_ j with h3_ | h3_ <;> first | exact hbb.1 rfl i_ h3_ h2_ | (have e_ : i_ = j := (by omega); rw [e_, (show Mur.nib x.k j = x.k.getD (j / 2) 0 &&& 15 from by unfold Mur.nib; rw [if_neg (by omega)])]; exact Mur.u8_cast_inj hx3), fun _ => rfl⟩, rfl⟩
     omega
    refine rQ 7 48 _ rfl rfl (qboolF (b := ((((x.k.getD (j / 2) 0 &&& 15).toNat : Nat) : Int) == (((p.getD j 0).toNat : Nat) : Int))) (beq_eq_false_iff_ne.2 (by first | exact hx3 | omega))) ?_
    refine rP 8 49 (.bool false) rfl rfl ?_
    refine rP 9 7 (.bool false) rfl rfl ?_
    refine rEnd 10 rfl (inN (nxt (reg ?_)))
    refine rP 0 24 (.int .i64 ((j : Nat) : Int)) rfl rfl ?_
    refine rQ 1 25 _ rfl rfl (qint64 (n := ((j : Nat) : Int) + 1) (z := ((j + 1 : Nat) : Int)) (by omega) (by omega) (by omega)) ?_
    refine rP 2 8 (.int .i64 ((j + 1 : Nat) : Int)) rfl rfl ?_
    refine rEnd 3 rfl (nxt ?_)
    refine ⟨_, ?_, j + 1, false, rfl, by kernel_rfl, (by omega), ⟨fun e_ => (by cases e_), fun q_ => absurd (by have h5_ := q_ j (by omega) (by omega); rw [(show Mur.nib x.k j = x.k.getD (j / 2) 0 &&& 15 from by unfold Mur.nib; rw [if_neg (by omega)])] at h5_; rw [h5_]) hx3⟩, rfl⟩
    omega
   refine rQ 2 38 _ rfl rfl (qboolF (b := (((j % 2 : Nat) : Int) == (1 : Int))) (beq_eq_false_iff_ne.2 (by first | exact hx2 | omega))) ?_
   refine rEnd 3 rfl (nxt (wp_cond_false (by kernel_rfl) (wp_skip (nxt (reg ?_)))))
   refine rP 0 41 (.bool true) rfl rfl ?_
   refine rP 1 42 (.bool true) rfl rfl ?_
   refine rP 2 43 (.int .u8 (((x.k.getD (j / 2) 0 >>> 4).toNat : Nat) : Int)) rfl rfl ?_
   refine rP 3 44 (.slice (some ⟨q2, off2, none⟩) pn pc) rfl rfl ?_
   refine rP 4 45 (.int .i64 ((j : Nat) : Int)) rfl rfl ?_
   refine rQ 5 46 (.pointer (some ⟨q2, off2 + j * 1, none⟩)) rfl rfl (index_sl 38 5 (.tmp 44) (.tmp 45) rfl Tryd.underlying38 1 (by kernel_rfl) q2 off2 pn pc j .i64 (by kernel_rfl) (by kernel_rfl) (by omega)) ?_
   refine rQ 6 47 _ rfl rfl (load1 5 (.tmp 46) rfl (by kernel_rfl) ⟨q2, off2 + j * 1, none⟩ (by kernel_rfl) (.int .u8 (((p.getD j 0).toNat : Nat) : Int)) (Mur.byt_cell (Mur.byt_chg hb HB (fun g off e hl => trivial)) j (by omega))) ?_
   by_cases hx4 : (((x.k.getD (j / 2) 0 >>> 4).toNat : Nat) : Int) = (((p.getD j 0).toNat : Nat) : Int)
   ·refine rQ 7 48 _ rfl rfl (qboolT (b := ((((x.k.getD (j / 2) 0 >>> 4).toNat : Nat) : Int) == (((p.getD j 0).toNat : Nat) : Int))) (beq_iff_eq.2 (by first | exact hx4 | omega))) ?_
    refine rP 8 49 (.bool true) rfl rfl ?_
    refine rP 9 7 (.bool true) rfl rfl ?_
    refine rEnd 10 rfl (inN (nxt (reg ?_)))
    refine rP 0 24 (.int .i64 ((j : Nat) : Int)) rfl rfl ?_
    refine rQ 1 25 _ rfl rfl (qint64 (n := ((j : Nat) : Int) + 1) (z := ((j + 1 : Nat) : Int)) (by omega) (by omega) (by omega)) ?_
    refine rP 2 8 (.int .i64 ((j + 1 : Nat) : Int)) rfl rfl ?_
    refine rEnd 3 rfl (nxt ?_)
    refine ⟨_, ?_, j + 1, true, rfl, by kernel_rfl, (by omega), ⟨fun _ i_ h1_ h2_ => by rcases Nat.lt_or_ge i_ j with h3_ | h3_ <;> first | exact hbb.1 rfl i_ h3_ h2_ | (have e_ : i_ = j := (by omega); rw [e_, (show Mur.nib x.k j = x.k.getD (j / 2) 0 >>> 4 from by unfold Mur.nib; rw [if_pos (by omega)])]; exact Mur.u8_cast_inj hx4), fun _ => rfl⟩, rfl⟩
    omega
   refine rQ 7 48 _ rfl rfl (qboolF (b := ((((x.k.getD (j / 2) 0 >>> 4).toNat : Nat) : Int) == (((p.getD j 0).toNat : Nat) : Int))) (beq_eq_false_iff_ne.2 (by first | exact hx4 | omega))) ?_
   refine rP 8 49 (.bool false) rfl rfl ?_
   refine rP 9 7 (.bool false) rfl rfl ?_
   refine rEnd 10 rfl (inN (nxt (reg ?_)))
   refine rP 0 24 (.int .i64 ((j : Nat) : Int)) rfl rfl ?_
   refine rQ 1 25 _ rfl rfl (qint64 (n := ((j : Nat) : Int) + 1) (z := ((j + 1 : Nat) : Int)) (by omega) (by omega) (by omega)) ?_
   refine rP 2 8 (.int .i64 ((j + 1 : Nat) : Int)) rfl rfl ?_
   refine rEnd 3 rfl (nxt ?_)
   refine ⟨_, ?_, j + 1, false, rfl, by kernel_rfl, (by omega), ⟨fun e_ => (by cases e_), fun q_ => absurd (by have h5_ := q_ j (by omega) (by omega); rw [(show Mur.nib x.k j = x.k.getD (j / 2) 0 >>> 4 from by unfold Mur.nib; rw [if_pos (by omega)])] at h5_; rw [h5_]) hx4⟩, rfl⟩
   omega
  have hun := Mur.under_run (p := p) (k := x.k) hpl_ (show pn ≤ j by omega) hbb
  cases b
  ·refine wp_seq (wp_seq (reg ?_))
   refine rP 0 20 (.int .i64 ((j : Nat) : Int)) rfl rfl ?_
   refine rP 1 21 (.slice PA pn pc) rfl rfl ?_
   refine rP 2 22 (.int .i64 ((pn : Nat) : Int)) rfl rfl ?_
   refine rQ 3 23 _ rfl rfl (qboolF (b := decide (((j : Nat) : Int) < ((pn : Nat) : Int))) (decide_eq_false (by omega))) ?_
   refine rEnd 4 rfl (nxt (wp_cond_false (by kernel_rfl) (wp_exit (thX (thX (inX (nxt (wp_seq (reg ?_)))))))))
   refine rP 0 50 (.bool false) rfl rfl ?_
   refine rEnd 1 rfl (nxt (wp_cond_false (by kernel_rfl) (wp_skip (inN (nxt (reg ?_))))))
   refine rP 0 18 (.int .i64 ((i : Nat) : Int)) rfl rfl ?_
   refine rQ 1 19 _ rfl rfl (qint64 (n := ((i : Nat) : Int) + 1) (z := ((i + 1 : Nat) : Int)) (by omega) (by omega) (by omega)) ?_
   refine rP 2 6 (.int .i64 ((i + 1 : Nat) : Int)) rfl rfl ?_
   refine rEnd 3 rfl (nxt ?_)
   refine ⟨_, ?_, i + 1, A1, N, c1, rfl, by kernel_rfl, (by omega), (by rw [Mur.filter_no hx hun]; exact hO), HB⟩
   omega
  refine wp_seq (wp_seq (reg ?_))
  refine rP 0 20 (.int .i64 ((j : Nat) : Int)) rfl rfl ?_
  refine rP 1 21 (.slice PA pn pc) rfl rfl ?_
  refine rP 2 22 (.int .i64 ((pn : Nat) : Int)) rfl rfl ?_
  refine rQ 3 23 _ rfl rfl (qboolF (b := decide (((j : Nat) : Int) < ((pn : Nat) : Int))) (decide_eq_false (by omega))) ?_
  refine rEnd 4 rfl (nxt (wp_cond_false (by kernel_rfl) (wp_exit (thX (thX (inX (nxt (wp_seq (reg ?_)))))))))
  refine rP 0 50 (.bool true) rfl rfl ?_
  refine rEnd 1 rfl (nxt (wp_cond_true (by kernel_rfl) (reg ?_)))
  refine rP 0 51 (.slice A1 N c1) rfl rfl ?_
  refine rP 1 52 (.slice (some ⟨g_x, o_x, none⟩) n c) rfl rfl ?_
  refine rP 2 53 (.int .i64 ((i : Nat) : Int)) rfl rfl ?_
  refine rQ 3 54 (.pointer (some ⟨g_x, o_x + i * 97, none⟩)) rfl rfl (index_sl 50 32 (.tmp 52) (.tmp 53) rfl Tryd.underlying50 97 (by kernel_rfl) g_x o_x n c i .i64 (by kernel_rfl) (by kernel_rfl) (by omega)) ?_
  refine rQ 4 55 (.agg ((Mur.attC x.k x.r x.n x.t).toArray)) rfl rfl (loadR 32 (.tmp 54) rfl _ Tryd.underlying32 rfl g_x (o_x + i * 97) (by kernel_rfl) (Mur.attC x.k x.r x.n x.t) (by rw [Mur.attC_length x.hk x.hr x.ht]; kernel_rfl) ((Mur.SlA.chg hA_ HB (fun g off e hl => trivial)).elem hx)) ?_
  refine rX 5 56 rfl rfl (Mur.build1 22 32 (.tmp 55) rfl Tryd.underlying22 attI x.k x.r x.t x.n x.hk x.hr x.ht (by kernel_rfl)) ?_
  rintro _ W3 ⟨rfl, hb1, ch1, sz1⟩
  have zz1 := ch1.size
  have ow1 := Mur.OwnA.chg hO ch1 (fun q e _ _ => trivial)
  refine rX 6 57 rfl rfl (Mur.appendA (.tmp 51) (.tmp 56) 22 32 rfl Tryd.underlying22 attI w.heap.size A1 N c1 ((L.take i).filter (fun y_ => Mur.under p y_.k)) (some ⟨W2.heap.size, 0, none⟩) 1 1 ([x]) (by kernel_rfl) (by kernel_rfl) ow1 (Mur.slA_box x hb1) (fun h => by cases h) (by omega) (by omega) (N + 1) (by omega) (((L.take i).filter (fun y_ => Mur.under p y_.k)) ++ ([x])) rfl) ?_
  rintro _ W4 ⟨AA1, nn1, rfl, ow2, ch2, ha1⟩
  have zz2 := ch2.size
  have hq1 := ow2.nc
  have hq2 := ow2.cm
  refine rP 7 5 (.slice AA1 (N + 1) nn1) rfl rfl ?_
  refine rEnd 8 rfl (inN (nxt (reg ?_)))
  refine rP 0 18 (.int .i64 ((i : Nat) : Int)) rfl rfl ?_
  refine rQ 1 19 _ rfl rfl (qint64 (n := ((i : Nat) : Int) + 1) (z := ((i + 1 : Nat) : Int)) (by omega) (by omega) (by omega)) ?_
  refine rP 2 6 (.int .i64 ((i + 1 : Nat) : Int)) rfl rfl ?_
  refine rEnd 3 rfl (nxt ?_)
  have kk1 := Chg.step HB ch1 trivial
  have kk2 := Chg.step kk1 ch2 (newOr_blk (fun g hg => by have := hO.lt g hg; omega))
  refine ⟨_, ?_, i + 1, AA1, N + 1, nn1, rfl, by kernel_rfl, (by omega), (by rw [Mur.filter_yes hx hun]; exact ow2), kk2⟩
  omega
 rw [List.take_of_length_le (show L.length ≤ i by omega), ← Mur.belowL_ok hpre1] at hO
 refine wp_seq (wp_seq (reg ?_))
 refine rP 0 14 (.int .i64 ((i : Nat) : Int)) rfl rfl ?_
 refine rP 1 15 (.slice A n c) rfl rfl ?_
 refine rP 2 16 (.int .i64 ((n : Nat) : Int)) rfl rfl ?_
 refine rQ 3 17 _ rfl rfl (qboolF (b := decide (((i : Nat) : Int) < ((n : Nat) : Int))) (decide_eq_false (by omega))) ?_
 refine rEnd 4 rfl (nxt (wp_cond_false (by kernel_rfl) (wp_exit (thX (thX (inX (nxt (wp_seq (reg ?_)))))))))
 refine rP 0 58 (.slice A1 N c1) rfl rfl ?_
 refine rP 1 4 (.slice A1 N c1) rfl rfl ?_
 refine rEnd 2 rfl (nxt (wp_ret ?_))
 refine Wk.ret (.slice A1 N c1) rfl (by kernel_rfl) ?_
 exact ⟨_, _, _, rfl, hO, HB⟩
end Go.Proofs.YtfhneademopciaaDoor
namespace Go.Proofs.YtfhneademopciaaDoor
open Go.RowKit Wk
open Mur (b8s Byt Own8 Seg Segs flat cutA attC Att SlA OwnA rowA)
set_option maxRecDepth 100000
set_option maxHeartbeats 4000000
end Go.Proofs.YtfhneademopciaaDoor
namespace Go.Proofs.YtfhneademopciaaDoor
open Go.RowKit Wk
open Mur (b8s Byt Own8 Seg Segs flat cutA attC Att SlA OwnA rowA msgC)
set_option maxRecDepth 100000
set_option maxHeartbeats 4000000
def Within_F1 (b : Array Value) (u2 : Value) (u7 : Value) (u8 : Value) (u9 : Value) : Act := ⟨#[gd b 0, gd b 1, u2, gd b 3, gd b 4, gd b 5, gd b 6, u7, u8, u9, gd b 10, gd b 11, gd b 12, gd b 13, gd b 14, gd b 15, gd b 16, gd b 17, gd b 18, gd b 19, gd b 20, gd b 21, gd b 22, gd b 23, gd b 24, gd b 25, gd b 26, gd b 27], []⟩
theorem CloneB_any (l : List UInt8) (A : Option Addr) (n c : Nat) (w : World) (hb : Byt w A n l) (hnil : A = none → c = 0) (hn : n ≤ 100000) : Calls Tryd.prog 75 #[.slice A n c] w fun e w' => ∃ A1 n1 c1, e = .returned (.slice A1 n1 c1) ∧ Own8 w' w.heap.size 5 A1 n1 c1 l ∧ Chg [] w w' := by
 have hbl_ := hb.1
 rcases A with _ | ad_
 ·have hn0 : n = 0 := Nat.eq_zero_of_not_pos fun h_ => by obtain ⟨_, _, e_, _⟩ := hb.2 h_; cases e_
  have hc0 := hnil rfl
  subst hn0 hc0
  obtain rfl : l = [] := List.eq_nil_of_length_eq_zero hbl_
  refine calls_of_wp Tryd.func75 rfl ?_
  refine wp_seq (reg ?_)
  refine rP 0 2 (.slice none 0 0) rfl rfl ?_
  refine rEnd 1 rfl (nxt (wp_seq (wp_seq (reg ?_))))
  refine rP 0 3 (.slice none 0 0) rfl rfl ?_
  refine rP 1 4 (.bool true) rfl rfl ?_
  refine rEnd 2 rfl (nxt (wp_cond_true (by kernel_rfl) (wp_seq (reg ?_))))
  refine rP 0 2 (.slice none 0 0) rfl rfl ?_
  refine rEnd 1 rfl (nxt (wp_ret (thR ?_)))
  refine Wk.ret (.slice none 0 0) rfl (by kernel_rfl) ?_
  exact ⟨_, _, _, rfl, Mur.own8_nil _ _ _, (Chg.refl _)⟩
 refine calls_of_wp Tryd.func75 rfl ?_
 refine wp_seq (reg ?_)
 refine rP 0 2 (.slice none 0 0) rfl rfl ?_
 refine rEnd 1 rfl (nxt (wp_seq (wp_seq (reg ?_))))
 refine rP 0 3 (.slice (some ad_) n c) rfl rfl ?_
 refine rP 1 4 (.bool false) rfl rfl ?_
 refine rEnd 2 rfl (nxt (wp_cond_false (by kernel_rfl) (wp_skip (nxt (wp_seq (reg ?_))))))
 refine rX 0 5 rfl rfl (new_ex (.slice (some ⟨w.heap.size, 0, none⟩) 0 0) #[] 5 (by kernel_rfl)) ?_
 rintro _ W1 ⟨rfl, hb1, ch1, sz1⟩
 have zz1 := ch1.size
 refine rP 1 6 (.slice (some ad_) n c) rfl rfl ?_
 have ow1 := Mur.own8_empty hb1 (Nat.le_refl _)
 have kk1 : Chg [] w W1 := Chg.step ((Chg.refl _).more (by simp)) ch1 trivial
 refine rX 2 7 rfl rfl (Mur.append8 (.tmp 5) (.tmp 6) 38 5 rfl Tryd.underlying38 (by kernel_rfl) w.heap.size (some ⟨w.heap.size, 0, none⟩) 0 0 ([]) (some ad_) n c l (by kernel_rfl) (by kernel_rfl) ow1.own (Mur.byt_chg hb kk1 (fun g off e hl => trivial)) (fun h => by cases h) (by omega) (by omega) n (by omega) l rfl) ?_
 rintro _ W2 ⟨AA1, nn1, rfl, ow2, ch2, ha1⟩
 have zz2 := ch2.size
 have hq1 := ow2.nc
 have hq2 := ow2.cm
 refine rP 3 2 (.slice AA1 n nn1) rfl rfl ?_
 refine rEnd 4 rfl (nxt (wp_ret ?_))
 have kk2 := Chg.step kk1 ch2 (newOr_blk (fun g hg => by have := ow1.lt g hg; omega))
 refine Wk.ret (.slice AA1 n nn1) rfl (by kernel_rfl) ?_
 exact ⟨_, _, _, rfl, ow2, kk2⟩
theorem within_any (x : Att) (p : List UInt8) (PA : Option Addr) (pn pc : Nat) (w : World) (hb : Byt w PA pn p) (hn : pn ≤ 64) : Calls Tryd.prog 58 #[.agg (attC x.k x.r x.n x.t).toArray, .slice PA pn pc] w fun e w' => e = .returned (.bool (Mur.under p x.k)) ∧ Chg [] w w' := by
 have hpl_ := hb.1
 refine calls_of_wp Tryd.func58 rfl ?_
 refine wp_seq (reg ?_)
 refine rX 0 2 rfl rfl (new_ex (.pointer (some ⟨w.heap.size, 0, none⟩)) ((Mur.attC x.k x.r x.n x.t).toArray) 32 (by kernel_rfl)) ?_
 rintro _ W1 ⟨rfl, hb1, ch1, sz1⟩
 have zz1 := ch1.size
 refine rP 1 4 (.bool false) rfl rfl ?_
 refine rEnd 2 rfl (nxt (wp_seq (wp_seq (reg ?_))))
 refine rP 0 7 (.slice PA pn pc) rfl rfl ?_
 refine rP 1 8 (.int .i64 ((pn : Nat) : Int)) rfl rfl ?_
 refine rP 2 9 (.int .i64 0) rfl rfl ?_
 refine rEnd 3 rfl (nxt (wp_block ?_))
 refine Wk.loop (fun m_ a wr => ∃ (i : Nat), m_ = pn - i ∧ a = Within_F1 a.tmps (.pointer (some ⟨w.heap.size, 0, none⟩)) (.slice PA pn pc) (.int .i64 ((pn : Nat) : Int)) (.int .i64 ((i : Nat) : Int)) ∧ i ≤ pn ∧ (∀ j, j < i → Mur.nib x.k j = p.getD j 0) ∧ wr.heap[w.heap.size]? = some (.cells (Mur.attC x.k x.r x.n x.t).toArray 32 (0, 0)) ∧ Chg [] w wr) (pn - 0) ?_ ?_
 ·have kk1 : Chg [] w W1 := Chg.step ((Chg.refl _).more (by simp)) ch1 trivial
  refine ⟨0, rfl, by kernel_rfl, Nat.zero_le _, (fun j hj => by omega), hb1, kk1⟩
 rintro mm1 aa1 W2 ⟨i, hmm1, hF1, hi, hall, hX, HB⟩
 generalize aa1.tmps = bb1 at hF1
 subst hF1
 have hzB := HB.size
 by_cases hlt : i < pn
 ·obtain ⟨q2, off2, hA2, _⟩ := hb.2 (by omega)
  subst hA2
  refine wp_seq (reg ?_)
  refine rQ 0 10 _ rfl rfl (qboolT (b := decide (((i : Nat) : Int) < ((pn : Nat) : Int))) (decide_eq_true (by omega))) ?_
  refine rEnd 1 rfl (nxt (wp_seq (wp_cond_true (by kernel_rfl) (wp_skip (nxt (wp_seq (wp_block (wp_seq (reg ?_)))))))))
  refine rP 0 11 (.int .i64 ((i : Nat) : Int)) rfl rfl ?_
  refine rQ 1 12 (.pointer (some ⟨q2, off2 + i * 1, none⟩)) rfl rfl (index_sl 38 5 (.tmp 7) (.tmp 9) rfl Tryd.underlying38 1 (by kernel_rfl) q2 off2 pn pc i .i64 (by kernel_rfl) (by kernel_rfl) (by omega)) ?_
  refine rQ 2 13 _ rfl rfl (load1 5 (.tmp 12) rfl (by kernel_rfl) ⟨q2, off2 + i * 1, none⟩ (by kernel_rfl) (.int .u8 (((p.getD i 0).toNat : Nat) : Int)) (Mur.byt_cell (Mur.byt_chg hb HB (fun g off e hl => trivial)) i (by omega))) ?_
  refine rP 3 5 (.int .i64 ((i : Nat) : Int)) rfl rfl ?_
  refine rP 4 6 (.int .u8 (((p.getD i 0).toNat : Nat) : Int)) rfl rfl ?_
  refine rEnd 5 rfl (nxt (wp_seq (reg ?_)))
  refine rP 0 14 (.int .i64 ((i : Nat) : Int)) rfl rfl ?_
  refine rQ 1 15 (.int .i64 ((i / 2 : Nat) : Int)) rfl rfl (Mur.quo_nat 3 3 (.tmp 14) (.const (.int .i64 2)) rfl i 2 (by kernel_rfl) (by kernel_rfl) (by omega) (by omega)) ?_
  refine rP 2 16 (.pointer (some ⟨w.heap.size, 0, none⟩)) rfl rfl ?_
  refine rQ 3 17 (.pointer (some ⟨w.heap.size, 0 + (i / 2) * 1, none⟩)) rfl rfl (Wk.index_arr 30 5 (.tmp 16) (.tmp 15) rfl 32 Tryd.underlying30 1 (by kernel_rfl) w.heap.size 0 (i / 2) .i64 (by kernel_rfl) (by kernel_rfl) (by omega)) ?_
  refine rQ 4 18 _ rfl rfl (load1 5 (.tmp 17) rfl (by kernel_rfl) ⟨w.heap.size, 0 + (i / 2) * 1, none⟩ (by kernel_rfl) (.int .u8 (((x.k.getD (i / 2) 0).toNat : Nat) : Int)) (show World.cell? _ ⟨_, 0 + 0 * 97 + i / 2 * 1, _⟩ = _ from Mur.SlA.kcell (Mur.slA_box x hX) (i := 0) rfl (j := i / 2) (by omega))) ?_
  refine rP 5 19 (.int .i64 ((i : Nat) : Int)) rfl rfl ?_
  refine rQ 6 20 (.int .i64 ((i % 2 : Nat) : Int)) rfl rfl (Wk.rem_nat 3 3 (.tmp 19) (.const (.int .i64 2)) rfl i 2 (by kernel_rfl) (by kernel_rfl) (by omega)) ?_
  refine rQ 7 21 _ rfl rfl (qint64 (n := (4 : Int) * ((i % 2 : Nat) : Int)) (z := ((4 * (i % 2) : Nat) : Int)) (by omega) (by omega) (by omega)) ?_
  refine rQ 8 22 _ rfl rfl (qint64 (n := (4 : Int) - ((4 * (i % 2) : Nat) : Int)) (z := ((4 - 4 * (i % 2) : Nat) : Int)) (by omega) (by omega) (by omega)) ?_
  refine rQ 9 23 (.int .u8 (((Mur.shn (x.k.getD (i / 2) 0) i).toNat : Nat) : Int)) rfl rfl (Mur.shr8_n 5 3 (.tmp 18) (.tmp 22) rfl (x.k.getD (i / 2) 0) i (by kernel_rfl) (by kernel_rfl)) ?_
  refine rQ 10 24 (.int .u8 (((Mur.shn (x.k.getD (i / 2) 0) i &&& 15).toNat : Nat) : Int)) rfl rfl (Mur.and8_15 5 5 (.tmp 23) (.const (.int .u8 15)) rfl (Mur.shn (x.k.getD (i / 2) 0) i) (by kernel_rfl) (by kernel_rfl)) ?_
  refine rP 11 25 (.int .u8 (((p.getD i 0).toNat : Nat) : Int)) rfl rfl ?_
  by_cases hx1 : (((Mur.shn (x.k.getD (i / 2) 0) i &&& 15).toNat : Nat) : Int) ≠ (((p.getD i 0).toNat : Nat) : Int)
  ·refine rQ 12 26 _ rfl rfl (qboolT (b := ((((Mur.shn (x.k.getD (i / 2) 0) i &&& 15).toNat : Nat) : Int) != (((p.getD i 0).toNat : Nat) : Int))) (bne_iff_ne.2 (by first | exact hx1 | omega))) ?_
   refine rEnd 13 rfl (nxt (wp_cond_true (by kernel_rfl) (wp_seq (reg ?_))))
   refine rP 0 4 (.bool false) rfl rfl ?_
   refine rEnd 1 rfl (nxt (wp_ret (inR (thR (thR (inR (thR ?_)))))))
   refine Wk.ret (.bool false) rfl (by kernel_rfl) ?_
   exact ⟨by rw [Mur.under_false (p := p) (k := x.k) (i := i) (by have := hb.1; omega) (fun q_ => hx1 (by rw [Mur.nib_shn] at q_; rw [q_]))], HB⟩
  refine rQ 12 26 _ rfl rfl (qboolF (b := ((((Mur.shn (x.k.getD (i / 2) 0) i &&& 15).toNat : Nat) : Int) != (((p.getD i 0).toNat : Nat) : Int))) (bne_eq_false_iff_eq.2 (by first | exact hx1 | omega))) ?_
  refine rEnd 13 rfl (nxt (wp_cond_false (by kernel_rfl) (wp_skip (inN (nxt (reg ?_))))))
  refine rQ 0 27 _ rfl rfl (qint64 (n := ((i : Nat) : Int) + 1) (z := ((i + 1 : Nat) : Int)) (by omega) (by omega) (by omega)) ?_
  refine rP 1 9 (.int .i64 ((i + 1 : Nat) : Int)) rfl rfl ?_
  refine rEnd 2 rfl (nxt ?_)
  refine ⟨_, ?_, i + 1, rfl, by kernel_rfl, (by omega), (Mur.nib_step hall (by rw [Mur.nib_shn]; exact Mur.u8_cast_inj (Decidable.not_not.1 hx1))), hX, HB⟩
  omega
 have hun : Mur.under p x.k = true := Mur.under_all hb.1 (show pn ≤ i by omega) hall
 refine wp_seq (reg ?_)
 refine rQ 0 10 _ rfl rfl (qboolF (b := decide (((i : Nat) : Int) < ((pn : Nat) : Int))) (decide_eq_false (by omega))) ?_
 refine rEnd 1 rfl (nxt (wp_seq (wp_cond_false (by kernel_rfl) (wp_exit (thX (thX (inX (nxt (wp_seq (reg ?_))))))))))
 refine rP 0 4 (.bool true) rfl rfl ?_
 refine rEnd 1 rfl (nxt (wp_ret ?_))
 refine Wk.ret (.bool true) rfl (by kernel_rfl) ?_
 exact ⟨by rw [hun], HB⟩
theorem summary_any (lo : Nat) (L : List Att) (g : Nat) (F : List Nat) (p : List UInt8) (PA : Option Addr) (pn pc : Nat) (w : World) (hv : ShaVars w) (h : Mur.SetF 32 57 lo w g L F) (hb : Byt w PA pn p) (hnil : PA = none → pc = 0) (hn : pn ≤ 100000) : Calls Tryd.prog 74 #[.pointer (some ⟨g, 0, none⟩), .slice PA pn pc] w fun e w' => ∃ d P1 n1 c1, Hid (d = Mur.sumL p L) ∧ d.length = 32 ∧ e = .returned (.agg (msgC 1 P1 n1 c1 d (((Mur.belowL p L).length : Nat) : Int) none 0 0 false).toArray) ∧ Own8 w' w.heap.size 5 P1 n1 c1 p ∧ Chg [] w w' := by
 have HV := Go.Lib.hid hv
 clear hv
 have hM_ := Mur.SetF.mem h
 refine calls_of_wp Tryd.func74 rfl ?_
 refine wp_seq (reg ?_)
 refine rX 0 4 rfl rfl (new_ex (.pointer (some ⟨w.heap.size, 0, none⟩)) #[.int .u8 0, .slice none 0 0, .int .u8 0, .int .u8 0, .int .u8 0, .int .u8 0, .int .u8 0, .int .u8 0, .int .u8 0, .int .u8 0, .int .u8 0, .int .u8 0, .int .u8 0, .int .u8 0, .int .u8 0, .int .u8 0, .int .u8 0, .int .u8 0, .int .u8 0, .int .u8 0, .int .u8 0, .int .u8 0, .int .u8 0, .int .u8 0, .int .u8 0, .int .u8 0, .int .u8 0, .int .u8 0, .int .u8 0, .int .u8 0, .int .u8 0, .int .u8 0, .int .u8 0, .int .u8 0, .int .i64 0, .slice none 0 0, .bool false] 66 (by kernel_rfl)) ?_
 rintro _ W1 ⟨rfl, hb1, ch1, sz1⟩
 have zz1 := ch1.size
 refine rEnd 1 rfl (nxt (wp_seq (reg ?_)))
 refine rP 0 8 (.pointer (some ⟨g, 0, none⟩)) rfl rfl ?_
 refine rP 1 9 (.slice PA pn pc) rfl rfl ?_
 refine rC 2 10 16 [.tmp 8, .tmp 9] #[24, 38] [.pointer (some ⟨g, 0, none⟩), .slice PA pn pc] rfl rfl rfl ?_
 have kk1 : Chg [] w W1 := Chg.step ((Chg.refl _).more (by simp)) ch1 trivial
 have hD1 := Mur.SetF.chg h ch1 (fun s hs => trivial)
 refine (Sum_any lo L g F p PA pn pc W1 (HV.out.below (Chg.below0 kk1)) hD1 (Mur.byt_chg hb kk1 (fun g off e hl => trivial)) (by omega)).mono ?_
 rintro _ W2 ⟨dd1, hd1, hdl1, rfl, ch2⟩
 have zz2 := ch2.size
 refine ⟨_, rfl, ?_⟩
 refine rP 3 7 (.tuple #[.agg ((b8s dd1).toArray), .int .i64 (((Mur.belowL p L).length : Nat) : Int)]) rfl rfl ?_
 refine rP 4 11 (.agg ((b8s dd1).toArray)) rfl rfl ?_
 refine rP 5 12 (.int .i64 (((Mur.belowL p L).length : Nat) : Int)) rfl rfl ?_
 refine rX 6 5 rfl rfl (new_ex (.pointer (some ⟨W2.heap.size, 0, none⟩)) #[.int .u8 0, .int .u8 0, .int .u8 0, .int .u8 0, .int .u8 0, .int .u8 0, .int .u8 0, .int .u8 0, .int .u8 0, .int .u8 0, .int .u8 0, .int .u8 0, .int .u8 0, .int .u8 0, .int .u8 0, .int .u8 0, .int .u8 0, .int .u8 0, .int .u8 0, .int .u8 0, .int .u8 0, .int .u8 0, .int .u8 0, .int .u8 0, .int .u8 0, .int .u8 0, .int .u8 0, .int .u8 0, .int .u8 0, .int .u8 0, .int .u8 0, .int .u8 0] 30 (by kernel_rfl)) ?_
 rintro _ W3 ⟨rfl, hb2, ch3, sz2⟩
 have zz3 := ch3.size
 refine rY 7 rfl rfl (Mur.storeAll 30 (.tmp 5) (.tmp 11) rfl W2.heap.size (by kernel_rfl) dd1 32 hdl1 (by kernel_rfl) (by kernel_rfl) 30 #[.int .u8 0, .int .u8 0, .int .u8 0, .int .u8 0, .int .u8 0, .int .u8 0, .int .u8 0, .int .u8 0, .int .u8 0, .int .u8 0, .int .u8 0, .int .u8 0, .int .u8 0, .int .u8 0, .int .u8 0, .int .u8 0, .int .u8 0, .int .u8 0, .int .u8 0, .int .u8 0, .int .u8 0, .int .u8 0, .int .u8 0, .int .u8 0, .int .u8 0, .int .u8 0, .int .u8 0, .int .u8 0, .int .u8 0, .int .u8 0, .int .u8 0, .int .u8 0] hb2 rfl) ?_
 rintro W4 ⟨hb3, ch4⟩
 have zz4 := ch4.size
 refine rP 8 6 (.int .i64 (((Mur.belowL p L).length : Nat) : Int)) rfl rfl ?_
 refine rEnd 9 rfl (nxt (wp_seq ?_))
 refine dReg ([w.heap.size]) (by kernel_rfl) ?_
 intro W5 ch5 sz3
 have zz5 := ch5.size
 have sS1 : Chg ([w.heap.size]) W5 W5 := (Chg.refl _).more (by simp)
 refine dV 0 13 (.slice PA pn pc) rfl rfl (fun _ _ => by kernel_rfl) sS1 ?_
 refine dV 2 15 (.agg ((b8s dd1).toArray)) rfl rfl (fun w' hw' => (Mur.loadAll 30 (.tmp 5) rfl _ Tryd.underlying30 rfl W2.heap.size (by kernel_rfl) dd1 32 hdl1 (by kernel_rfl) 30 (0, 0) (Chg.hp hw' (Chg.hp ch5 hb3 trivial) ⟨by omega, trivial⟩))) sS1 ?_
 refine dV 3 16 (.int .i64 (((Mur.belowL p L).length : Nat) : Int)) rfl rfl (fun _ _ => by kernel_rfl) sS1 ?_
 refine dOp 1 (by kernel_rfl) ?_
 refine oCall (some 14) 75 [.tmp 13] #[38] [.slice PA pn pc] rfl rfl (by kernel_rfl) rfl (by kernel_rfl) (by kernel_rfl) ?_
 have kk2 := Chg.step kk1 ch2 trivial
 have kk3 := Chg.step kk2 ch3 trivial
 have kk4 := Chg.step kk3 ch4 ⟨.inr (by omega), trivial⟩
 have kk5 := Chg.step kk4 ch5 trivial
 refine (CloneB_any p PA pn pc W5 (Mur.byt_chg hb kk5 (fun g off e hl => trivial)) hnil (by omega)).mono ?_
 rintro _ W6 ⟨AA1, nn1, nn2, rfl, ow1, ch6⟩
 have zz6 := ch6.size
 have hq1 := ow1.byt.1
 have hq2 := ow1.nc
 have hq3 := ow1.cm
 have sS2 := Chg.step sS1 ch6 trivial
 refine ⟨_, rfl, sS2, ?_⟩
 refine dV 4 17 (.agg ((Mur.msgC 1 AA1 nn1 nn2 dd1 (((Mur.belowL p L).length : Nat) : Int) none 0 0 false).toArray)) rfl rfl (fun w' hw' => (Mur.run_built 66 _ rfl [(0, .int .u8 1), (1, .slice AA1 nn1 nn2), (2, .agg ((b8s dd1).toArray)), (3, .int .i64 (((Mur.belowL p L).length : Nat) : Int))] (by kernel_rfl) _ (built_summary hdl1 AA1 nn1 nn2 (((Mur.belowL p L).length : Nat) : Int)))) sS2 ?_
 refine dOp 5 (by kernel_rfl) ?_
 refine oExS none _ rfl rfl (by kernel_rfl) (Mur.storeArr 66 (.tmp 4) (.tmp 17) rfl w.heap.size (by kernel_rfl) (Mur.msgC 1 AA1 nn1 nn2 dd1 (((Mur.belowL p L).length : Nat) : Int) none 0 0 false).toArray 37 (Mur.msgC_size hdl1) Mur.msgC_all (by kernel_rfl) (by kernel_rfl) 66 #[.int .u8 0, .slice none 0 0, .int .u8 0, .int .u8 0, .int .u8 0, .int .u8 0, .int .u8 0, .int .u8 0, .int .u8 0, .int .u8 0, .int .u8 0, .int .u8 0, .int .u8 0, .int .u8 0, .int .u8 0, .int .u8 0, .int .u8 0, .int .u8 0, .int .u8 0, .int .u8 0, .int .u8 0, .int .u8 0, .int .u8 0, .int .u8 0, .int .u8 0, .int .u8 0, .int .u8 0, .int .u8 0, .int .u8 0, .int .u8 0, .int .u8 0, .int .u8 0, .int .u8 0, .int .u8 0, .int .i64 0, .slice none 0 0, .bool false] (Chg.hp ch6 (Chg.hp ch5 (Chg.hp ch4 (Chg.hp ch3 (Chg.hp ch2 hb1 trivial) trivial) ⟨by omega, trivial⟩) trivial) trivial) (by kernel_rfl)) ?_
 rintro W7 ⟨hb4, ch7⟩
 have zz7 := ch7.size
 have sS3 := Chg.step sS2 ch7 ⟨.inl (by simp), trivial⟩
 refine ⟨sS3, ?_⟩
 refine dEnd (by kernel_rfl) (nxt (wp_ret ?_))
 have ow2 := Mur.own8 (own_chg ow1.own ch7 (fun q e _ _ => ⟨by have := ow1.lt q e; omega, trivial⟩))
 have kk6 := Chg.step kk5 ch6 trivial
 have kk7 := Chg.step kk6 ch7 ⟨.inr (by omega), trivial⟩
 refine Wk.ret (.agg (Mur.msgC 1 AA1 nn1 nn2 dd1 (((Mur.belowL p L).length : Nat) : Int) none 0 0 false).toArray) rfl (results_cell_row rfl _ _ w.heap.size 66 (Mur.msgC 1 AA1 nn1 nn2 dd1 (((Mur.belowL p L).length : Nat) : Int) none 0 0 false).toArray (0, 0) _ (by kernel_rfl) hb4 Tryd.underlying66 rfl (by rw [(Mur.msgC_size hdl1)]; kernel_rfl)) ?_
 exact ⟨_, _, _, _, hd1, hdl1, rfl, Mur.own8_low ow2 (by omega), kk7⟩
end Go.Proofs.YtfhneademopciaaDoor
namespace Go.Proofs.YtfhneademopciaaDoor
open Go.RowKit Wk
open Mur (b8s Byt Own8 Seg Segs flat cutA attC Att SlA OwnA rowA msgC)
set_option maxRecDepth 100000
set_option maxHeartbeats 4000000
def ChkS_F1 (b : Array Value) (u0 : Value) (u1 : Value) (u2 : Value) (u4 : Value) : Act := ⟨#[u0, u1, u2, gd b 3, u4, gd b 5, gd b 6, gd b 7, gd b 8, gd b 9, gd b 10, gd b 11, gd b 12, gd b 13, gd b 14, gd b 15, gd b 16, gd b 17, gd b 18, gd b 19, gd b 20, gd b 21, gd b 22, gd b 23, gd b 24, gd b 25, gd b 26, gd b 27, gd b 28, gd b 29, gd b 30], []⟩
theorem Chunk_any (A : Option Addr) (n c : Nat) (w : World) : Calls Tryd.prog 78 #[.slice A n c, .int .i64 8] w fun e w' => ∃ b1 b2, e = .returned (.func (.func 89) #[] #[.pointer (some ⟨b1, 0, none⟩), .pointer (some ⟨b2, 0, none⟩)]) ∧ w'.heap[b1]? = some (.cells #[.slice A n c] 22 (0, 0)) ∧ w'.heap[b2]? = some (.cells #[.int .i64 8] 3 (0, 0)) ∧ (w.heap.size ≤ b1 ∧ b1 < w'.heap.size) ∧ (w.heap.size ≤ b2 ∧ b2 < w'.heap.size) ∧ b1 ≠ b2 ∧ Chg [] w w' := by
 refine calls_of_wp Tryd.func78 rfl ?_
 refine wp_seq (reg ?_)
 refine rX 0 2 rfl rfl (new_ex (.pointer (some ⟨w.heap.size, 0, none⟩)) #[.slice A n c] 22 (by kernel_rfl)) ?_
 rintro _ W1 ⟨rfl, hb1, ch1, sz1⟩
 have zz1 := ch1.size
 refine rX 1 3 rfl rfl (new_ex (.pointer (some ⟨W1.heap.size, 0, none⟩)) #[.int .i64 8] 3 (by kernel_rfl)) ?_
 rintro _ W2 ⟨rfl, hb2, ch2, sz2⟩
 have zz2 := ch2.size
 refine rP 2 4 (.nilFunc) rfl rfl ?_
 refine rEnd 3 rfl (nxt (wp_seq (wp_seq (reg ?_))))
 refine rQ 0 5 _ rfl rfl (load1 3 (.tmp 3) rfl (by kernel_rfl) ⟨W1.heap.size, 0, none⟩ (by kernel_rfl) (.int .i64 8) ((cell_of_row _ _ 0 _ _ _ hb2).trans rfl)) ?_
 refine rQ 1 6 _ rfl rfl (qboolF (b := decide ((8 : Int) < (1 : Int))) (decide_eq_false (by decide))) ?_
 refine rEnd 2 rfl (nxt (wp_cond_false (by kernel_rfl) (wp_skip (nxt (wp_seq (reg ?_))))))
 refine rP 0 8 (.func (.func 89) #[] #[.pointer (some ⟨w.heap.size, 0, none⟩), .pointer (some ⟨W1.heap.size, 0, none⟩)]) rfl rfl ?_
 refine rP 1 4 (.func (.func 89) #[] #[.pointer (some ⟨w.heap.size, 0, none⟩), .pointer (some ⟨W1.heap.size, 0, none⟩)]) rfl rfl ?_
 refine rEnd 2 rfl (nxt (wp_ret ?_))
 have kk1 : Chg [] w W1 := Chg.step ((Chg.refl _).more (by simp)) ch1 trivial
 have kk2 := Chg.step kk1 ch2 trivial
 refine Wk.ret (.func (.func 89) #[] #[.pointer (some ⟨w.heap.size, 0, none⟩), .pointer (some ⟨W1.heap.size, 0, none⟩)]) rfl (by kernel_rfl) ?_
 exact ⟨_, _, rfl, (Chg.hp ch2 hb1 trivial), hb2, ⟨by omega, by omega⟩, ⟨by omega, by omega⟩, by omega, kk2⟩
theorem chunk_seq (q off n c : Nat) (b1 b2 : Nat) (w : World) (hnc : n ≤ c ∧ n ≤ 1000000 ∧ c ≤ 9223372036854775807) (hX1 : w.heap[b1]? = some (.cells #[.slice (some ⟨q, off, none⟩) n c] 22 (0, 0))) (hX2 : w.heap[b2]? = some (.cells #[.int .i64 8] 3 (0, 0))) : Wk.Seq Tryd.prog 89 #[.pointer (some ⟨b1, 0, none⟩), .pointer (some ⟨b2, 0, none⟩)] (Mur.encC q off n) (List.range ((n + 7) / 8)) [b1, b2] w := by
 refine ⟨fun k_ hk_ => ?_, fun l J W hW hJ0 hY hJ => ?_⟩
 ·simp only [List.mem_cons, List.not_mem_nil, or_false] at hk_
  rcases hk_ with rfl | rfl
  ·exact (Array.getElem?_eq_some_iff.1 hX1).1
  exact (Array.getElem?_eq_some_iff.1 hX2).1
 replace hX1 := hW.hp hX1 (by simp)
 replace hX2 := hW.hp hX2 (by simp)
 have hFlt : ∀ k_, k_ ∈ [b1, b2] → k_ < W.heap.size := fun k_ hk_ => by
  simp only [List.mem_cons, List.not_mem_nil, or_false] at hk_
  rcases hk_ with rfl | rfl
  ·exact (Array.getElem?_eq_some_iff.1 hX1).1
  ·exact (Array.getElem?_eq_some_iff.1 hX2).1
 show Calls Tryd.prog 89 #[.func (.yield l) #[] #[], .pointer (some ⟨b1, 0, none⟩), .pointer (some ⟨b2, 0, none⟩)] W _
 refine calls_of_wp Tryd.func89 rfl ?_
 refine wp_seq (reg ?_)
 refine rP 0 4 (.int .i64 0) rfl rfl ?_
 refine rEnd 1 rfl (nxt (wp_block ?_))
 refine Wk.loop (fun m_ a wr => ∃ (k : Nat), m_ = n - 8 * k ∧ a = ChkS_F1 a.tmps (.func (.yield l) #[] #[]) (.pointer (some ⟨b1, 0, none⟩)) (.pointer (some ⟨b2, 0, none⟩)) (.int .i64 ((8 * k : Nat) : Int)) ∧ k ≤ (n + 7) / 8 ∧ J (List.range k) wr ∧ Wk.Keep [b1, b2] W wr ∧ W.heap.size ≤ wr.heap.size) (n - 8 * 0) ?_ ?_
 ·refine ⟨0, rfl, by kernel_rfl, Nat.zero_le _, hJ, Wk.Keep.refl _ _, Nat.le_refl _⟩
 rintro mm1 aa1 W1 ⟨k, hmm1, hF1, hk, hJk, hK, hsW⟩
 generalize aa1.tmps = bb1 at hF1
 subst hF1
 have hmb1 := hK.hp hX1 (by simp)
 have hmb2 := hK.hp hX2 (by simp)
 by_cases hlt : 8 * k < n
 ·obtain ⟨mz, hmz, hmz2⟩ : ∃ m_ : Nat, (if ((n - 8 * k : Nat) : Int) < (8 : Int) then ((n - 8 * k : Nat) : Int) else (8 : Int)) = ((m_ : Nat) : Int) ∧ m_ = min 8 (n - 8 * k) := ⟨min 8 (n - 8 * k), by split <;> omega, rfl⟩
  refine wp_seq (wp_seq (reg ?_))
  refine rP 0 6 (.int .i64 ((8 * k : Nat) : Int)) rfl rfl ?_
  refine rQ 1 7 _ rfl rfl (load1 22 (.tmp 1) rfl (by kernel_rfl) ⟨b1, 0, none⟩ (by kernel_rfl) (.slice (some ⟨q, off, none⟩) n c) ((cell_of_row _ _ 0 _ _ _ hmb1).trans rfl)) ?_
  refine rP 2 8 (.int .i64 ((n : Nat) : Int)) rfl rfl ?_
  refine rQ 3 9 _ rfl rfl (qboolT (b := decide (((8 * k : Nat) : Int) < ((n : Nat) : Int))) (decide_eq_true (by omega))) ?_
  refine rEnd 4 rfl (nxt (wp_cond_true (by kernel_rfl) (wp_skip (nxt (wp_seq (wp_block (wp_seq ?_)))))))
  refine dReg ([]) (by kernel_rfl) ?_
  intro W2 ch1 sz1
  have zz1 := ch1.size
  have sS1 : Chg ([]) W2 W2 := (Chg.refl _).more (by simp)
  have kk1 : Chg [] W1 W2 := Chg.step ((Chg.refl _).more (by simp)) ch1 trivial
  refine dV 0 13 (.int .i64 8) rfl rfl (fun w' hw' => (load1 3 (.tmp 2) rfl (by kernel_rfl) ⟨b2, 0, none⟩ (by kernel_rfl) (.int .i64 8) ((cell_of_row _ _ 0 _ _ _ (Chg.hp hw' (Chg.hp kk1 hmb2 trivial) trivial)).trans rfl))) sS1 ?_
  refine dV 1 14 (.slice (some ⟨q, off, none⟩) n c) rfl rfl (fun w' hw' => (load1 22 (.tmp 1) rfl (by kernel_rfl) ⟨b1, 0, none⟩ (by kernel_rfl) (.slice (some ⟨q, off, none⟩) n c) ((cell_of_row _ _ 0 _ _ _ (Chg.hp hw' (Chg.hp kk1 hmb1 trivial) trivial)).trans rfl))) sS1 ?_
  refine dV 2 15 (.int .i64 ((8 * k : Nat) : Int)) rfl rfl (fun _ _ => by kernel_rfl) sS1 ?_
  refine dV 3 16 (.slice (some ⟨q, off + 8 * k * 97, none⟩) (n - 8 * k) (c - 8 * k)) rfl rfl (fun w' hw' => (Mur.run_fromS 22 (.tmp 14) (.tmp 15) rfl 32 Tryd.underlying22 97 (by kernel_rfl) q off n c (8 * k) (by kernel_rfl) (by kernel_rfl) (by omega) (by omega) (n - 8 * k) rfl)) sS1 ?_
  refine dV 4 17 (.int .i64 ((n - 8 * k : Nat) : Int)) rfl rfl (fun _ _ => by kernel_rfl) sS1 ?_
  refine dV 5 18 (.int .i64 ((mz : Nat) : Int)) rfl rfl (fun w' hw' => (Wk.val (congrArg (Value.int .i64) hmz) (by kernel_rfl))) sS1 ?_
  refine dV 6 5 (.int .i64 ((mz : Nat) : Int)) rfl rfl (fun _ _ => by kernel_rfl) sS1 ?_
  refine dEnd (by kernel_rfl) (nxt (wp_seq (Wk.regW ?_)))
  refine Wk.iPure 0 (some 19) (.func (.yield l) #[] #[]) rfl rfl rfl (by kernel_rfl) (by kernel_rfl) ?_
  refine Wk.iPure 1 (some 20) (.slice (some ⟨q, off, none⟩) n c) rfl rfl rfl (by kernel_rfl) (load1 22 (.tmp 1) rfl (by kernel_rfl) ⟨b1, 0, none⟩ (by kernel_rfl) (.slice (some ⟨q, off, none⟩) n c) ((cell_of_row _ _ 0 _ _ _ (Chg.hp kk1 hmb1 trivial)).trans rfl)) ?_
  refine Wk.iPure 2 (some 21) (.int .i64 ((8 * k : Nat) : Int)) rfl rfl rfl (by kernel_rfl) (by kernel_rfl) ?_
  refine Wk.iPure 3 (some 22) (.int .i64 ((8 * k : Nat) : Int)) rfl rfl rfl (by kernel_rfl) (by kernel_rfl) ?_
  refine Wk.iPure 4 (some 23) (.int .i64 ((mz : Nat) : Int)) rfl rfl rfl (by kernel_rfl) (by kernel_rfl) ?_
  refine Wk.iPure 5 (some 24) (.int .i64 ((8 * k + mz : Nat) : Int)) rfl rfl rfl (by kernel_rfl) (int64 (n := ((8 * k : Nat) : Int) + ((mz : Nat) : Int)) (z := ((8 * k + mz : Nat) : Int)) (by omega) (by omega) (by omega) (by kernel_rfl)) ?_
  refine Wk.iPure 6 (some 25) (.int .i64 ((8 * k : Nat) : Int)) rfl rfl rfl (by kernel_rfl) (by kernel_rfl) ?_
  refine Wk.iPure 7 (some 26) (.int .i64 ((mz : Nat) : Int)) rfl rfl rfl (by kernel_rfl) (by kernel_rfl) ?_
  refine Wk.iPure 8 (some 27) (.int .i64 ((8 * k + mz : Nat) : Int)) rfl rfl rfl (by kernel_rfl) (int64 (n := ((8 * k : Nat) : Int) + ((mz : Nat) : Int)) (z := ((8 * k + mz : Nat) : Int)) (by omega) (by omega) (by omega) (by kernel_rfl)) ?_
  refine Wk.iPure 9 (some 28) (.slice (some ⟨q, off + 8 * k * 97, none⟩) mz mz) rfl rfl rfl (by kernel_rfl) (Mur.run_cutK 22 (.tmp 20) (.tmp 21) (.tmp 24) (.tmp 27) rfl 32 Tryd.underlying22 97 (by kernel_rfl) q off n c (8 * k) (8 * k + mz) (by kernel_rfl) (by kernel_rfl) (by kernel_rfl) (by kernel_rfl) (by omega) (by omega) mz (by omega)) ?_
  refine Wk.iYield 10 (some 29) (.tmp 19) l [.tmp 28] #[22] [.slice (some ⟨q, off + 8 * k * 97, none⟩) mz mz] rfl rfl (by kernel_rfl) rfl (by kernel_rfl) (by kernel_rfl) ((by have h_ := hY _ k _ _ (Mur.range_split (show k < (n + 7) / 8 by omega)) (hJ0 _ _ _ hJk kk1); unfold Mur.encC at h_; rw [← hmz2] at h_; exact h_)) ?_
  rintro _ W9_ ⟨rfl, hJ9, hK9⟩
  refine ⟨_, rfl, ?_⟩
  refine Wk.iPure 11 (some 30) (.bool false) rfl rfl rfl (by kernel_rfl) (by kernel_rfl) ?_
  refine Wk.iEnd 12 rfl (nxt (wp_cond_false (by kernel_rfl) (wp_skip (inN (nxt (reg ?_))))))
  refine rP 0 10 (.int .i64 ((8 * k : Nat) : Int)) rfl rfl ?_
  refine rQ 1 11 _ rfl rfl (load1 3 (.tmp 2) rfl (by kernel_rfl) ⟨b2, 0, none⟩ (by kernel_rfl) (.int .i64 8) ((cell_of_row _ _ 0 _ _ _ (((hK.trans (Wk.Keep.of kk1 (fun k_ hk_ => Nat.lt_of_lt_of_le (hFlt k_ hk_) hsW) (fun _ _ => trivial))).trans hK9).hp hX2 (by simp))).trans rfl)) ?_
  refine rQ 2 12 _ rfl rfl (qint64 (n := ((8 * k : Nat) : Int) + 8) (z := ((8 * (k + 1) : Nat) : Int)) (by omega) (by omega) (by omega)) ?_
  refine rP 3 4 (.int .i64 ((8 * (k + 1) : Nat) : Int)) rfl rfl ?_
  refine rEnd 4 rfl (nxt ?_)
  refine ⟨_, ?_, k + 1, rfl, by kernel_rfl, (by omega), (by rw [List.range_succ]; exact hJ9), ((hK.trans (Wk.Keep.of kk1 (fun k_ hk_ => Nat.lt_of_lt_of_le (hFlt k_ hk_) hsW) (fun _ _ => trivial))).trans hK9), (by have := hK.size; have := hK9.size; omega)⟩
  omega
 obtain rfl : k = (n + 7) / 8 := by omega
 refine wp_seq (wp_seq (reg ?_))
 refine rP 0 6 (.int .i64 ((8 * ((n + 7) / 8) : Nat) : Int)) rfl rfl ?_
 refine rQ 1 7 _ rfl rfl (load1 22 (.tmp 1) rfl (by kernel_rfl) ⟨b1, 0, none⟩ (by kernel_rfl) (.slice (some ⟨q, off, none⟩) n c) ((cell_of_row _ _ 0 _ _ _ hmb1).trans rfl)) ?_
 refine rP 2 8 (.int .i64 ((n : Nat) : Int)) rfl rfl ?_
 refine rQ 3 9 _ rfl rfl (qboolF (b := decide (((8 * ((n + 7) / 8) : Nat) : Int) < ((n : Nat) : Int))) (decide_eq_false (by omega))) ?_
 refine rEnd 4 rfl (nxt (wp_cond_false (by kernel_rfl) (wp_exit (thX (thX (inX ?_))))))
 refine Wk.retN (.tuple #[]) rfl (by kernel_rfl) ?_
 exact ⟨⟨_, rfl⟩, hJk⟩
theorem chunk_seq0 (A : Option Addr) (c : Nat) (b1 b2 : Nat) (w : World) (enc : Nat → Array Value) (hX1 : w.heap[b1]? = some (.cells #[.slice A 0 c] 22 (0, 0))) (hX2 : w.heap[b2]? = some (.cells #[.int .i64 8] 3 (0, 0))) : Wk.Seq Tryd.prog 89 #[.pointer (some ⟨b1, 0, none⟩), .pointer (some ⟨b2, 0, none⟩)] enc ([] : List Nat) [b1, b2] w := by
 refine ⟨fun k_ hk_ => ?_, fun l J W hW hJ0 hY hJ => ?_⟩
 ·simp only [List.mem_cons, List.not_mem_nil, or_false] at hk_
  rcases hk_ with rfl | rfl
  ·exact (Array.getElem?_eq_some_iff.1 hX1).1
  exact (Array.getElem?_eq_some_iff.1 hX2).1
 replace hX1 := hW.hp hX1 (by simp)
 replace hX2 := hW.hp hX2 (by simp)
 show Calls Tryd.prog 89 #[.func (.yield l) #[] #[], .pointer (some ⟨b1, 0, none⟩), .pointer (some ⟨b2, 0, none⟩)] W _
 refine calls_of_wp Tryd.func89 rfl ?_
 refine wp_seq (reg ?_)
 refine rP 0 4 (.int .i64 0) rfl rfl ?_
 refine rEnd 1 rfl (nxt (wp_block ?_))
 refine Wk.loopN 1 ?_
 refine Wk.rdS (wp_seq (wp_seq (reg ?_)))
 refine rP 0 6 (.int .i64 0) rfl rfl ?_
 refine rQ 1 7 _ rfl rfl (load1 22 (.tmp 1) rfl (by kernel_rfl) ⟨b1, 0, none⟩ (by kernel_rfl) (.slice A 0 c) ((cell_of_row _ _ 0 _ _ _ hX1).trans rfl)) ?_
 refine rP 2 8 (.int .i64 0) rfl rfl ?_
 refine rQ 3 9 _ rfl rfl (qboolF (b := decide ((0 : Int) < (0 : Int))) (decide_eq_false (by decide))) ?_
 refine rEnd 4 rfl (nxt (wp_cond_false (by kernel_rfl) (wp_exit (thX (thX (inX ?_))))))
 refine Wk.retN (.tuple #[]) rfl (by kernel_rfl) ?_
 exact ⟨⟨_, rfl⟩, hJ⟩
end Go.Proofs.YtfhneademopciaaDoor
namespace Go.Proofs.YtfhneademopciaaDoor
open Go.RowKit Wk
open Mur (b8s Byt Own8 Seg Segs flat cutA attC Att SlA OwnA rowA msgC)
set_option maxRecDepth 100000
set_option maxHeartbeats 4000000
theorem CloneS_any (q off n c : Nat) (L : List Att) (w : World) (h : SlA w (some ⟨q, off, none⟩) n L) (hn : n ≤ 300) : Calls Tryd.prog 51 #[.slice (some ⟨q, off, none⟩) n c] w fun e w' => ∃ A1 c1, e = .returned (.slice A1 n c1) ∧ OwnA w' w.heap.size 32 A1 n c1 L ∧ Chg [] w w' := by
 have hOl := h.len
 refine calls_of_wp Tryd.func51 rfl ?_
 refine wp_seq (reg ?_)
 refine rP 0 2 (.slice none 0 0) rfl rfl ?_
 refine rEnd 1 rfl (nxt (wp_seq (wp_seq (reg ?_))))
 refine rP 0 3 (.slice (some ⟨q, off, none⟩) n c) rfl rfl ?_
 refine rP 1 4 (.bool false) rfl rfl ?_
 refine rEnd 2 rfl (nxt (wp_cond_false (by kernel_rfl) (wp_skip (nxt (wp_seq (reg ?_))))))
 refine rX 0 5 rfl rfl (new_ex (.slice (some ⟨w.heap.size, 0, none⟩) 0 0) #[] 32 (by kernel_rfl)) ?_
 rintro _ W1 ⟨rfl, hb1, ch1, sz1⟩
 have zz1 := ch1.size
 refine rP 1 6 (.slice (some ⟨q, off, none⟩) n c) rfl rfl ?_
 have ow1 := Mur.ownA_empty hb1 (Nat.le_refl _)
 have kk1 : Chg [] w W1 := Chg.step ((Chg.refl _).more (by simp)) ch1 trivial
 refine rX 2 7 rfl rfl (Mur.appendA (.tmp 5) (.tmp 6) 22 32 rfl Tryd.underlying22 attI w.heap.size (some ⟨w.heap.size, 0, none⟩) 0 0 ([]) (some ⟨q, off, none⟩) n c L (by kernel_rfl) (by kernel_rfl) ow1 (Mur.SlA.chg h kk1 (fun g off e hl => trivial)) (fun h => by cases h) (by omega) (by omega) n (by omega) L rfl) ?_
 rintro _ W2 ⟨AA1, nn1, rfl, ow2, ch2, ha1⟩
 have zz2 := ch2.size
 have hq1 := ow2.nc
 have hq2 := ow2.cm
 refine rP 3 2 (.slice AA1 n nn1) rfl rfl ?_
 refine rEnd 4 rfl (nxt (wp_ret ?_))
 have kk2 := Chg.step kk1 ch2 (newOr_blk (fun g hg => by have := ow1.lt g hg; omega))
 refine Wk.ret (.slice AA1 n nn1) rfl (by kernel_rfl) ?_
 exact ⟨_, _, rfl, ow2, kk2⟩
end Go.Proofs.YtfhneademopciaaDoor
namespace Wk
open Go
def shut (Q : Exit → Act → World → Prop) : Exit → Act → World → Prop
  | .panic _, _, _ => False
  | .outgrown, _, _ => False
  | e, a, w => Q e a w
section
variable {r : Option Nat} {P : Program} {ops : Array Oper} {Q : Exit → Act → World → Prop} {a : Act} {w : World} {S : World → Prop}
theorem shut_le {e : Exit} (h : shut Q e a w) : Q e a w := by
  cases e with
  | panic _ => exact h.elim
  | outgrown => exact h.elim
  | _ => exact h
theorem shut_no : ¬ LetsOut (shut Q) := fun ⟨_, _, h⟩ => h
theorem rows_wf {row : String} {args : Array Value} {R : Value → World → Prop} (h : Rows P row args w R) : RowsIn (WF r) 0 P row args w R :=
  fun c cs _ => let ⟨v, w', k, s⟩ := h c cs; ⟨v, w', k, stepsIn_wide.2 s⟩
theorem opsIn_of (hno : ¬ LetsOut Q) (hd : ops.all (fun o => noDefer o.op) = true) : ∀ (l : List Nat) (a : Act) (w : World), wpOps P ops Q l a w → wpOpsIn (WF r) 0 P ops Q l a w
  | [], _, _, h => h
  | i :: l, a, w, h => by
    unfold wpOps at h
    unfold wpOpsIn
    cases ho : ops[i]? with
    | none =>
      simp only [ho] at h ⊢
      exact opsIn_of hno hd l a w h
    | some o =>
      simp only [ho] at h ⊢
      have hn : noDefer o.op = true := (Array.all_eq_true_iff_forall_mem.1 hd) o (Array.mem_of_getElem? ho)
      by_cases hw : Region.wanted o (yielded ops a.tmps) = true
      · rw [if_pos hw] at h ⊢
        rcases h with h | ⟨_, h⟩
        · refine ⟨fun _ _ => trivial, ?_⟩
          rw [semAt_any hn]
          unfold Oper.wp at h
          generalize (execOp a.eval o).run P w = x at h ⊢
          cases x with
          | ok x w1 =>
            cases x with
            | value v => exact opsIn_of hno hd l _ _ h
            | skip => exact opsIn_of hno hd l _ _ h
            | defer d => exact opsIn_of hno hd l _ _ h
            | enter f args =>
              refine ⟨fun h => (by cases h), calls_wf (Calls.mono h ?_)⟩
              intro e w2 k
              cases e with
              | returned v => exact opsIn_of hno hd l _ _ k
              | panicked c => exact k
              | outgrown => exact k
            | row row args => exact ⟨fun h => (by cases h), rows_wf (Rows.mono h fun v w2 k => opsIn_of hno hd l _ _ k)⟩
            | _ => exact h.elim
          | halt x w1 =>
            cases x with
            | panic v => exact h
            | _ => exact h.elim
        · exact absurd h hno
      · rw [if_neg hw] at h ⊢
        exact ⟨fun _ _ => trivial, opsIn_of hno hd l _ _ h⟩
theorem dRegI {id : Nat} (S : List Nat) (hm : P.follows .mixedOrders = true) (hd : ops.all (fun o => noDefer o.op) = true)
    (h : ∀ w1, Chg [] w w1 → w1.heap.size = w.heap.size → wpAnyH P .any ops (shut Q) (fun w' => Chg S w1 w') ops.size (Array.replicate ops.size false) a w1) : (Code.region id ops true).wpIn (WF r) 0 P Q a w := by
  refine wpIn_mono (wpIn_region_draw (Q := shut Q) fun t => opsIn_of shut_no hd _ _ _ ?_) fun e a w k => shut_le k
  simp only [Region.schedule, hm, Bool.true_or, if_true]
  exact wpAny_sound ops.size t _ a _ (wpAny_of_held _ _ _ _ (h w.drew (Chg.drew w) rfl))
theorem dEndI {fuel : Nat} {listed : Array Bool} (hr : Region.ready .any ops listed = []) (h : Q .normal a w) : wpAnyH P .any ops (shut Q) S fuel listed a w := wpAnyH_done (Q := shut Q) hr h _
end
end Wk
