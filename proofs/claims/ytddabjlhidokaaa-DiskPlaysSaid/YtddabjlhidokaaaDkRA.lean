/- The document's disk: a file; Append. -/
import Derived.Test.YtddabjlhidokaaaProg
import Derived.Test.YtddabjlhidokaaaDkR
namespace Go.Proofs.Ytddabjlhidokaaa
open Go.RowKit
open Mur (Fil Dk Byt b8s hasF fE Ref RefF Own8 ablk)
set_option maxRecDepth 100000
set_option maxHeartbeats 4000000
theorem Has_any (f : Int) (w : World) : Calls Try.prog 16 #[.int .i64 f] w fun e w' => e = .returned (.bool (decide (hasF f))) ∧ w = w' := by
  refine calls_of_wp Try.func16 rfl ?_
  refine wp_seq ?_
  refine Wk.reg ?_
  refine Wk.rPure 0 (some 2) (.bool false) rfl rfl (by kernel_rfl) (by kernel_rfl) ?_
  refine Wk.rEnd 1 rfl ?_
  refine Wk.nxt ?_
  refine wp_seq ?_
  refine Wk.reg ?_
  refine Wk.rPure 0 (some 3) (.int .i64 f) rfl rfl (by kernel_rfl) (by kernel_rfl) ?_
  by_cases hx1 : f = (0 : Int)
  · refine Wk.rPure 1 (some 4) (.bool true) rfl rfl (by kernel_rfl) (Wk.boolT (b := (f == (0 : Int))) (beq_iff_eq.2 (by first | exact hx1 | omega)) (by kernel_rfl)) ?_
    refine Wk.rPure 2 (some 5) (.bool true) rfl rfl (by kernel_rfl) (by kernel_rfl) ?_
    refine Wk.rPass 3 (some 6) rfl rfl (by kernel_rfl) ?_
    refine Wk.rPass 4 (some 7) rfl rfl (by kernel_rfl) ?_
    refine Wk.rPure 5 (some 8) (.bool true) rfl rfl (by kernel_rfl) (by kernel_rfl) ?_
    refine Wk.rPure 6 (some 2) (.bool true) rfl rfl (by kernel_rfl) (by kernel_rfl) ?_
    refine Wk.rEnd 7 rfl ?_
    refine Wk.nxt ?_
    refine wp_ret ?_
    refine Wk.ret (.bool true) rfl (by kernel_rfl) ?_
    exact ⟨by rw [decide_eq_true (show hasF f by unfold hasF; omega)], rfl⟩
  · refine Wk.rPure 1 (some 4) (.bool false) rfl rfl (by kernel_rfl) (Wk.boolF (b := (f == (0 : Int))) (beq_eq_false_iff_ne.2 (by first | exact hx1 | omega)) (by kernel_rfl)) ?_
    refine Wk.rPure 2 (some 5) (.bool false) rfl rfl (by kernel_rfl) (by kernel_rfl) ?_
    refine Wk.rPure 3 (some 6) (.int .i64 f) rfl rfl (by kernel_rfl) (by kernel_rfl) ?_
    by_cases hx2 : f = (1 : Int)
    · refine Wk.rPure 4 (some 7) (.bool true) rfl rfl (by kernel_rfl) (Wk.boolT (b := (f == (1 : Int))) (beq_iff_eq.2 (by first | exact hx2 | omega)) (by kernel_rfl)) ?_
      refine Wk.rPure 5 (some 8) (.bool true) rfl rfl (by kernel_rfl) (by kernel_rfl) ?_
      refine Wk.rPure 6 (some 2) (.bool true) rfl rfl (by kernel_rfl) (by kernel_rfl) ?_
      refine Wk.rEnd 7 rfl ?_
      refine Wk.nxt ?_
      refine wp_ret ?_
      refine Wk.ret (.bool true) rfl (by kernel_rfl) ?_
      exact ⟨by rw [decide_eq_true (show hasF f by unfold hasF; omega)], rfl⟩
    · refine Wk.rPure 4 (some 7) (.bool false) rfl rfl (by kernel_rfl) (Wk.boolF (b := (f == (1 : Int))) (beq_eq_false_iff_ne.2 (by first | exact hx2 | omega)) (by kernel_rfl)) ?_
      refine Wk.rPure 5 (some 8) (.bool false) rfl rfl (by kernel_rfl) (by kernel_rfl) ?_
      refine Wk.rPure 6 (some 2) (.bool false) rfl rfl (by kernel_rfl) (by kernel_rfl) ?_
      refine Wk.rEnd 7 rfl ?_
      refine Wk.nxt ?_
      refine wp_ret ?_
      refine Wk.ret (.bool false) rfl (by kernel_rfl) ?_
      exact ⟨by rw [decide_eq_false (show ¬ hasF f by unfold hasF; omega)], rfl⟩
theorem RAppend_any (g : Nat) (d : Dk) (G : List Nat) (f : Int) (A : Option Addr) (n c : Nat) (l : List UInt8) (w : World) (h : RefF 5 45 w g d G) (hdx : d.x.b.length ≤ 1048576) (hdy : d.y.b.length ≤ 1048576) (hb : Byt w A n l) (ha : A = none → c = 0) (hn : n ≤ 140737488351232) : Calls Try.prog 17 #[.pointer (some ⟨g, 0, none⟩), .int .i64 f, .slice A n c] w fun e w' => ∃ G', e = .returned (.int .i64 (Mur.Dk.appE d f n)) ∧ RefF 5 45 w' g (Mur.Dk.app d f l) G' ∧ Wk.Chg [g] w w' ∧ Wk.NewOr w.heap.size G G' := by
  have hbl := hb.1
  by_cases hf0 : f = 0
  · subst hf0
    obtain ⟨A0, n0, c0, A1, n1, c1, hR, rfl⟩ := h.out
    obtain ⟨⟨xb, xn⟩, ⟨yb, yn⟩⟩ := d
    have hp0 := hR.hp
    have hbX := hR.b0
    have hbY := hR.b1
    have hnc0 := hR.nc0
    have hnc1 := hR.nc1
    have hnil0 := hR.nil0
    have hnil1 := hR.nil1
    have hat0 := hR.at0
    have hat1 := hR.at1
    have hlx := hbX.1
    have hly := hbY.1
    simp only at hp0 hbX hbY hlx hly
    have hgl := (Array.getElem?_eq_some_iff.1 hp0).1
    replace hlx : xb.length = n0 := hlx
    replace hly : yb.length = n1 := hly
    replace hdx : xb.length ≤ 1048576 := hdx
    replace hdy : yb.length ≤ 1048576 := hdy
    refine calls_of_wp Try.func17 rfl ?_
    refine wp_seq ?_
    refine Wk.reg ?_
    refine Wk.rPure 0 (some 6) (.int .i64 0) rfl rfl (by kernel_rfl) (by kernel_rfl) ?_
    refine Wk.rEnd 1 rfl ?_
    refine Wk.nxt ?_
    refine wp_seq ?_
    refine wp_seq ?_
    refine Wk.reg ?_
    refine Wk.rPure 0 (some 7) (.int .i64 0) rfl rfl (by kernel_rfl) (by kernel_rfl) ?_
    refine Wk.rCall 1 (some 8) 16 [.tmp 7] #[3] [.int .i64 0] rfl rfl (by kernel_rfl) rfl (by kernel_rfl) (by kernel_rfl) ?_
    refine (Has_any 0 w).mono ?_
    rw [decide_eq_true ((by decide) : hasF 0)]
    rintro _ _ ⟨rfl, rfl⟩
    refine ⟨_, rfl, ?_⟩
    refine Wk.rPure 2 (some 9) (.bool false) rfl rfl (by kernel_rfl) (by kernel_rfl) ?_
    refine Wk.rEnd 3 rfl ?_
    refine Wk.nxt ?_
    refine wp_cond_false (by kernel_rfl) ?_
    refine wp_skip ?_
    refine Wk.nxt ?_
    refine wp_seq ?_
    refine wp_seq ?_
    refine Wk.reg ?_
    refine Wk.rPure 0 (some 10) (.pointer (some ⟨g, 0, none⟩)) rfl rfl (by kernel_rfl) (by kernel_rfl) ?_
    refine Wk.rPure 1 (some 11) (.int .i64 0) rfl rfl (by kernel_rfl) (by kernel_rfl) ?_
    refine Wk.rPure 2 (some 12) (.pointer (some ⟨g, 0, none⟩)) rfl rfl (by kernel_rfl) (by kernel_rfl) ?_
    refine Wk.rPure 3 (some 13) (.pointer (some ⟨g, 0, none⟩)) rfl rfl (by kernel_rfl) (by kernel_rfl) ?_
    refine Wk.rPure 4 (some 14) (.pointer (some ⟨g, 0, none⟩)) rfl rfl (by kernel_rfl) (Wk.index_arr 43 26 (.tmp 13) (.tmp 11) rfl 2 Try.underlying43 1 (by kernel_rfl) g 0 0 .i64 (by kernel_rfl) (by kernel_rfl) (by decide)) ?_
    refine Wk.rPure 5 (some 15) (.slice A0 n0 c0) rfl rfl (by kernel_rfl) (Wk.load1 26 (.tmp 14) rfl (by kernel_rfl) ⟨g, 0, none⟩ (by kernel_rfl) (.slice A0 n0 c0) ((cell_of_row _ _ 0 _ _ _ hp0).trans rfl)) ?_
    refine Wk.rPure 6 (some 16) (.int .i64 ((n0 : Nat) : Int)) rfl rfl (by kernel_rfl) (by kernel_rfl) ?_
    refine Wk.rPure 7 (some 17) (.slice A n c) rfl rfl (by kernel_rfl) (by kernel_rfl) ?_
    refine Wk.rPure 8 (some 18) (.int .i64 ((n : Nat) : Int)) rfl rfl (by kernel_rfl) (by kernel_rfl) ?_
    refine Wk.rPure 9 (some 19) (.int .i64 ((n0 + n : Nat) : Int)) rfl rfl (by kernel_rfl) (Wk.int64 (n := ((n0 : Nat) : Int) + ((n : Nat) : Int)) (z := ((n0 + n : Nat) : Int)) (by omega) (by omega) (by omega) (by kernel_rfl)) ?_
    by_cases hx1 : ((n0 + n : Nat) : Int) > (1048576 : Int)
    · refine Wk.rPure 10 (some 20) (.bool true) rfl rfl (by kernel_rfl) (Wk.boolT (b := decide (((n0 + n : Nat) : Int) > (1048576 : Int))) (decide_eq_true (by first | exact hx1 | omega)) (by kernel_rfl)) ?_
      refine Wk.rEnd 11 rfl ?_
      refine Wk.nxt ?_
      refine wp_cond_true (by kernel_rfl) ?_
      refine wp_seq ?_
      refine Wk.reg ?_
      refine Wk.rPure 0 (some 6) (.int .i64 8) rfl rfl (by kernel_rfl) (by kernel_rfl) ?_
      refine Wk.rEnd 1 rfl ?_
      refine Wk.nxt ?_
      refine wp_ret ?_
      refine Wk.thR ?_
      have hq := Mur.app_full (⟨⟨xb, xn⟩, ⟨yb, yn⟩⟩ : Dk) 0 l n hb.1 (by decide) (by show (n : Int) > 1048576 - ((xb.length : Nat) : Int); omega)
      rw [hq.1, hq.2]
      refine Wk.ret (.int .i64 8) rfl (by kernel_rfl) ?_
      exact ⟨_, rfl, h, (Wk.Chg.refl _).more (by simp), Mur.newOr_iff.2 fun t ht => .inl ht⟩
    · refine Wk.rPure 10 (some 20) (.bool false) rfl rfl (by kernel_rfl) (Wk.boolF (b := decide (((n0 + n : Nat) : Int) > (1048576 : Int))) (decide_eq_false (by first | exact hx1 | omega)) (by kernel_rfl)) ?_
      refine Wk.rEnd 11 rfl ?_
      refine Wk.nxt ?_
      refine wp_cond_false (by kernel_rfl) ?_
      refine wp_skip ?_
      refine Wk.nxt ?_
      refine wp_seq ?_
      refine Wk.dReg ([g]) (by kernel_rfl) ?_
      intro W1 ch1 sz1
      have zz1 := ch1.size
      have sS1 : Wk.Chg ([g]) W1 W1 := (Wk.Chg.refl _).more (by simp)
      refine Wk.dVal 0 (some 21) (.pointer (some ⟨g, 0, none⟩)) rfl rfl (by kernel_rfl) (by kernel_rfl) (by kernel_rfl) (fun _ _ _ h => h) (by kernel_rfl) (fun w' hw' => by kernel_rfl) sS1 ?_
      refine Wk.dVal 1 (some 22) (.int .i64 0) rfl rfl (by kernel_rfl) (by kernel_rfl) (by kernel_rfl) (fun _ _ _ h => h) (by kernel_rfl) (fun w' hw' => by kernel_rfl) sS1 ?_
      refine Wk.dVal 3 (some 24) (.pointer (some ⟨g, 0, none⟩)) rfl rfl (by kernel_rfl) (by kernel_rfl) (by kernel_rfl) (fun _ _ _ h => h) (by kernel_rfl) (fun w' hw' => by kernel_rfl) sS1 ?_
      refine Wk.dVal 4 (some 25) (.int .i64 0) rfl rfl (by kernel_rfl) (by kernel_rfl) (by kernel_rfl) (fun _ _ _ h => h) (by kernel_rfl) (fun w' hw' => by kernel_rfl) sS1 ?_
      refine Wk.dVal 5 (some 26) (.pointer (some ⟨g, 0, none⟩)) rfl rfl (by kernel_rfl) (by kernel_rfl) (by kernel_rfl) (fun _ _ _ h => h) (by kernel_rfl) (fun w' hw' => by kernel_rfl) sS1 ?_
      refine Wk.dVal 6 (some 27) (.pointer (some ⟨g, 0, none⟩)) rfl rfl (by kernel_rfl) (by kernel_rfl) (by kernel_rfl) (fun _ _ _ h => h) (by kernel_rfl) (fun w' hw' => by kernel_rfl) sS1 ?_
      refine Wk.dVal 7 (some 28) (.pointer (some ⟨g, 0, none⟩)) rfl rfl (by kernel_rfl) (by kernel_rfl) (by kernel_rfl) (fun _ _ _ h => h) (by kernel_rfl) (fun w' hw' => (Wk.index_arr 43 26 (.tmp 27) (.tmp 25) rfl 2 Try.underlying43 1 (by kernel_rfl) g 0 0 .i64 (by kernel_rfl) (by kernel_rfl) (by decide))) sS1 ?_
      refine Wk.dVal 10 (some 31) (.slice A n c) rfl rfl (by kernel_rfl) (by kernel_rfl) (by kernel_rfl) (fun _ _ _ h => h) (by kernel_rfl) (fun w' hw' => by kernel_rfl) sS1 ?_
      refine Wk.dVal 12 (some 33) (.pointer (some ⟨g, 0, none⟩)) rfl rfl (by kernel_rfl) (by kernel_rfl) (by kernel_rfl) (fun _ _ _ h => h) (by kernel_rfl) (fun w' hw' => by kernel_rfl) sS1 ?_
      refine Wk.dVal 13 (some 34) (.pointer (some ⟨g, 0, none⟩)) rfl rfl (by kernel_rfl) (by kernel_rfl) (by kernel_rfl) (fun _ _ _ h => h) (by kernel_rfl) (fun w' hw' => by kernel_rfl) sS1 ?_
      refine Wk.dOp2 2 8 (by kernel_rfl) ?_ ?_
      · refine Wk.oEx (some 23) _ rfl rfl (by kernel_rfl) (Wk.new_ex (.slice (some ⟨W1.heap.size, 0, none⟩) 0 0) #[] 5 (by kernel_rfl)) ?_
        rintro _ W2 ⟨rfl, hb1, ch2, sz2⟩
        have zz2 := ch2.size
        have sS2 := Wk.Chg.step sS1 ch2 trivial
        refine ⟨sS2, ?_⟩
        refine Wk.dOp 8 (by kernel_rfl) ?_
        have kk1 : Wk.Chg [] w W1 := Wk.Chg.step ((Wk.Chg.refl _).more (by simp)) ch1 trivial
        have kk2 := Wk.Chg.step kk1 ch2 trivial
        refine Wk.oVal (some 29) (.slice A0 n0 c0) rfl rfl (by kernel_rfl) (Wk.load1 26 (.tmp 28) rfl (by kernel_rfl) ⟨g, 0, none⟩ (by kernel_rfl) (.slice A0 n0 c0) ((cell_of_row _ _ 0 _ _ _ (Wk.Chg.hp kk2 hp0 trivial)).trans rfl)) ?_
        refine ⟨sS2, ?_⟩
        refine Wk.dOp 9 (by kernel_rfl) ?_
        have ow1 := Mur.own8_empty hb1 (Nat.le_refl _)
        refine Wk.oEx (some 30) _ rfl rfl (by kernel_rfl) (Mur.append8 (.tmp 23) (.tmp 29) 26 5 rfl Try.underlying26 (by kernel_rfl) W1.heap.size (some ⟨W1.heap.size, 0, none⟩) 0 0 ([]) A0 n0 c0 xb (by kernel_rfl) (by kernel_rfl) ow1.own (Mur.byt_chg hbX kk2 (fun g off e hl => trivial)) hnil0 (by omega) (by omega) n0 (by omega) xb rfl) ?_
        rintro _ W3 ⟨AA1, nn1, rfl, ow2, ch3, ha1⟩
        have zz3 := ch3.size
        have hq1 := ow2.nc
        have hq2 := ow2.cm
        have sS3 := Wk.Chg.step sS2 ch3 (Wk.newOr_blk (fun g hg => by have := ow1.lt g hg; omega))
        refine ⟨sS3, ?_⟩
        refine Wk.dOp 11 (by kernel_rfl) ?_
        have kk3 := Wk.Chg.step kk2 ch3 (Wk.newOr_blk (fun g hg => by have := ow1.lt g hg; omega))
        refine Wk.oEx (some 32) _ rfl rfl (by kernel_rfl) (Mur.append8 (.tmp 30) (.tmp 31) 26 5 rfl Try.underlying26 (by kernel_rfl) W1.heap.size AA1 n0 nn1 xb A n c l (by kernel_rfl) (by kernel_rfl) ow2.own (Mur.byt_chg hb kk3 (fun g off e hl => trivial)) ha (by omega) (by omega) (n0 + n) (by omega) (xb ++ l) rfl) ?_
        rintro _ W4 ⟨AA2, nn2, rfl, ow3, ch4, ha2⟩
        have zz4 := ch4.size
        have hq3 := ow3.nc
        have hq4 := ow3.cm
        have sS4 := Wk.Chg.step sS3 ch4 (Wk.newOr_blk (fun g hg => by have := ow2.lt g hg; omega))
        refine ⟨sS4, ?_⟩
        refine Wk.dVal 14 (some 35) (.pointer (some ⟨g, 0, none⟩)) rfl rfl (by kernel_rfl) (by kernel_rfl) (by kernel_rfl) (fun _ _ _ h => h) (by kernel_rfl) (fun w' hw' => (Wk.index_arr 43 26 (.tmp 34) (.tmp 22) rfl 2 Try.underlying43 1 (by kernel_rfl) g 0 0 .i64 (by kernel_rfl) (by kernel_rfl) (by decide))) sS4 ?_
        refine Wk.dOp 15 (by kernel_rfl) ?_
        have kk4 := Wk.Chg.step kk3 ch4 (Wk.newOr_blk (fun g hg => by have := ow2.lt g hg; omega))
        refine Wk.oExS none _ rfl rfl (by kernel_rfl) (Wk.store1 26 (.tmp 35) (.tmp 32) rfl (by kernel_rfl) g 0 (by kernel_rfl) (.slice AA2 (n0 + n) nn2) (by kernel_rfl) rfl 45 #[.slice A0 n0 c0, .slice A1 n1 c1, .int .i64 ((xn : Nat) : Int), .int .i64 ((yn : Nat) : Int)] (Wk.Chg.hp kk4 hp0 trivial) (by simp)) ?_
        rintro W5 ⟨hb2, ch5⟩
        replace hb2 : W5.heap[g]? = some (.cells #[.slice AA2 (n0 + n) nn2, .slice A1 n1 c1, .int .i64 ((xn : Nat) : Int), .int .i64 ((yn : Nat) : Int)] 45 (0, 0)) := hb2
        have zz5 := ch5.size
        have sS5 := Wk.Chg.step sS4 ch5 ⟨.inl (by simp), trivial⟩
        refine ⟨sS5, ?_⟩
        refine Wk.dEnd (by kernel_rfl) ?_
        refine Wk.nxt ?_
        refine wp_seq ?_
        refine Wk.reg ?_
        refine Wk.rPure 0 (some 6) (.int .i64 0) rfl rfl (by kernel_rfl) (by kernel_rfl) ?_
        refine Wk.rEnd 1 rfl ?_
        refine Wk.nxt ?_
        refine wp_ret ?_
        have kk5 : Wk.Chg [g] (w) W1 := Wk.Chg.step ((Wk.Chg.refl _).more (by simp)) ch1 trivial
        have kk6 := Wk.Chg.step kk5 ch2 trivial
        have kk7 := Wk.Chg.step kk6 ch3 (Wk.newOr_blk (fun g hg => by have := ow1.lt g hg; omega))
        have kk8 := Wk.Chg.step kk7 ch4 (Wk.newOr_blk (fun g hg => by have := ow2.lt g hg; omega))
        have kk9 := Wk.Chg.step kk8 ch5 ⟨.inl (by simp), trivial⟩
        have ow4 := Mur.own8 (Wk.own_chg ow3.own ch5 (fun q e _ _ => ⟨by have := ow3.lt q e; omega, trivial⟩))
        have hq := Mur.app_fits (⟨⟨xb, xn⟩, ⟨yb, yn⟩⟩ : Dk) 0 l n hb.1 (by decide) (by show ¬ (n : Int) > 1048576 - ((xb.length : Nat) : Int); omega)
        rw [hq.1, hq.2]
        have hs := Mur.Ref.set0 hR ⟨xb ++ l, xn⟩ kk9 hb2 ow4 (by omega)
        refine Wk.ret (.int .i64 0) rfl (by kernel_rfl) ?_
        exact ⟨_, rfl, hs.1, kk9, hs.2⟩
      · have kk10 : Wk.Chg [] w W1 := Wk.Chg.step ((Wk.Chg.refl _).more (by simp)) ch1 trivial
        refine Wk.oVal (some 29) (.slice A0 n0 c0) rfl rfl (by kernel_rfl) (Wk.load1 26 (.tmp 28) rfl (by kernel_rfl) ⟨g, 0, none⟩ (by kernel_rfl) (.slice A0 n0 c0) ((cell_of_row _ _ 0 _ _ _ (Wk.Chg.hp kk10 hp0 trivial)).trans rfl)) ?_
        refine ⟨sS1, ?_⟩
        refine Wk.dOp 2 (by kernel_rfl) ?_
        refine Wk.oEx (some 23) _ rfl rfl (by kernel_rfl) (Wk.new_ex (.slice (some ⟨W1.heap.size, 0, none⟩) 0 0) #[] 5 (by kernel_rfl)) ?_
        rintro _ W6 ⟨rfl, hb3, ch6, sz3⟩
        have zz6 := ch6.size
        have sS6 := Wk.Chg.step sS1 ch6 trivial
        refine ⟨sS6, ?_⟩
        refine Wk.dOp 9 (by kernel_rfl) ?_
        have ow5 := Mur.own8_empty hb3 (Nat.le_refl _)
        have kk11 := Wk.Chg.step kk10 ch6 trivial
        refine Wk.oEx (some 30) _ rfl rfl (by kernel_rfl) (Mur.append8 (.tmp 23) (.tmp 29) 26 5 rfl Try.underlying26 (by kernel_rfl) W1.heap.size (some ⟨W1.heap.size, 0, none⟩) 0 0 ([]) A0 n0 c0 xb (by kernel_rfl) (by kernel_rfl) ow5.own (Mur.byt_chg hbX kk11 (fun g off e hl => trivial)) hnil0 (by omega) (by omega) n0 (by omega) xb rfl) ?_
        rintro _ W7 ⟨AA3, nn3, rfl, ow6, ch7, ha3⟩
        have zz7 := ch7.size
        have hq5 := ow6.nc
        have hq6 := ow6.cm
        have sS7 := Wk.Chg.step sS6 ch7 (Wk.newOr_blk (fun g hg => by have := ow5.lt g hg; omega))
        refine ⟨sS7, ?_⟩
        refine Wk.dOp 11 (by kernel_rfl) ?_
        have kk12 := Wk.Chg.step kk11 ch7 (Wk.newOr_blk (fun g hg => by have := ow5.lt g hg; omega))
        refine Wk.oEx (some 32) _ rfl rfl (by kernel_rfl) (Mur.append8 (.tmp 30) (.tmp 31) 26 5 rfl Try.underlying26 (by kernel_rfl) W1.heap.size AA3 n0 nn3 xb A n c l (by kernel_rfl) (by kernel_rfl) ow6.own (Mur.byt_chg hb kk12 (fun g off e hl => trivial)) ha (by omega) (by omega) (n0 + n) (by omega) (xb ++ l) rfl) ?_
        rintro _ W8 ⟨AA4, nn4, rfl, ow7, ch8, ha4⟩
        have zz8 := ch8.size
        have hq7 := ow7.nc
        have hq8 := ow7.cm
        have sS8 := Wk.Chg.step sS7 ch8 (Wk.newOr_blk (fun g hg => by have := ow6.lt g hg; omega))
        refine ⟨sS8, ?_⟩
        refine Wk.dVal 14 (some 35) (.pointer (some ⟨g, 0, none⟩)) rfl rfl (by kernel_rfl) (by kernel_rfl) (by kernel_rfl) (fun _ _ _ h => h) (by kernel_rfl) (fun w' hw' => (Wk.index_arr 43 26 (.tmp 34) (.tmp 22) rfl 2 Try.underlying43 1 (by kernel_rfl) g 0 0 .i64 (by kernel_rfl) (by kernel_rfl) (by decide))) sS8 ?_
        refine Wk.dOp 15 (by kernel_rfl) ?_
        have kk13 := Wk.Chg.step kk12 ch8 (Wk.newOr_blk (fun g hg => by have := ow6.lt g hg; omega))
        refine Wk.oExS none _ rfl rfl (by kernel_rfl) (Wk.store1 26 (.tmp 35) (.tmp 32) rfl (by kernel_rfl) g 0 (by kernel_rfl) (.slice AA4 (n0 + n) nn4) (by kernel_rfl) rfl 45 #[.slice A0 n0 c0, .slice A1 n1 c1, .int .i64 ((xn : Nat) : Int), .int .i64 ((yn : Nat) : Int)] (Wk.Chg.hp kk13 hp0 trivial) (by simp)) ?_
        rintro W9 ⟨hb4, ch9⟩
        replace hb4 : W9.heap[g]? = some (.cells #[.slice AA4 (n0 + n) nn4, .slice A1 n1 c1, .int .i64 ((xn : Nat) : Int), .int .i64 ((yn : Nat) : Int)] 45 (0, 0)) := hb4
        have zz9 := ch9.size
        have sS9 := Wk.Chg.step sS8 ch9 ⟨.inl (by simp), trivial⟩
        refine ⟨sS9, ?_⟩
        refine Wk.dEnd (by kernel_rfl) ?_
        refine Wk.nxt ?_
        refine wp_seq ?_
        refine Wk.reg ?_
        refine Wk.rPure 0 (some 6) (.int .i64 0) rfl rfl (by kernel_rfl) (by kernel_rfl) ?_
        refine Wk.rEnd 1 rfl ?_
        refine Wk.nxt ?_
        refine wp_ret ?_
        have kk14 : Wk.Chg [g] (w) W1 := Wk.Chg.step ((Wk.Chg.refl _).more (by simp)) ch1 trivial
        have kk15 := Wk.Chg.step kk14 ch6 trivial
        have kk16 := Wk.Chg.step kk15 ch7 (Wk.newOr_blk (fun g hg => by have := ow5.lt g hg; omega))
        have kk17 := Wk.Chg.step kk16 ch8 (Wk.newOr_blk (fun g hg => by have := ow6.lt g hg; omega))
        have kk18 := Wk.Chg.step kk17 ch9 ⟨.inl (by simp), trivial⟩
        have ow8 := Mur.own8 (Wk.own_chg ow7.own ch9 (fun q e _ _ => ⟨by have := ow7.lt q e; omega, trivial⟩))
        have hq := Mur.app_fits (⟨⟨xb, xn⟩, ⟨yb, yn⟩⟩ : Dk) 0 l n hb.1 (by decide) (by show ¬ (n : Int) > 1048576 - ((xb.length : Nat) : Int); omega)
        rw [hq.1, hq.2]
        have hs := Mur.Ref.set0 hR ⟨xb ++ l, xn⟩ kk18 hb4 ow8 (by omega)
        refine Wk.ret (.int .i64 0) rfl (by kernel_rfl) ?_
        exact ⟨_, rfl, hs.1, kk18, hs.2⟩
  · by_cases hf1 : f = 1
    · subst hf1
      obtain ⟨A0, n0, c0, A1, n1, c1, hR, rfl⟩ := h.out
      obtain ⟨⟨xb, xn⟩, ⟨yb, yn⟩⟩ := d
      have hp0 := hR.hp
      have hbX := hR.b0
      have hbY := hR.b1
      have hnc0 := hR.nc0
      have hnc1 := hR.nc1
      have hnil0 := hR.nil0
      have hnil1 := hR.nil1
      have hat0 := hR.at0
      have hat1 := hR.at1
      have hlx := hbX.1
      have hly := hbY.1
      simp only at hp0 hbX hbY hlx hly
      have hgl := (Array.getElem?_eq_some_iff.1 hp0).1
      replace hlx : xb.length = n0 := hlx
      replace hly : yb.length = n1 := hly
      replace hdx : xb.length ≤ 1048576 := hdx
      replace hdy : yb.length ≤ 1048576 := hdy
      refine calls_of_wp Try.func17 rfl ?_
      refine wp_seq ?_
      refine Wk.reg ?_
      refine Wk.rPure 0 (some 6) (.int .i64 0) rfl rfl (by kernel_rfl) (by kernel_rfl) ?_
      refine Wk.rEnd 1 rfl ?_
      refine Wk.nxt ?_
      refine wp_seq ?_
      refine wp_seq ?_
      refine Wk.reg ?_
      refine Wk.rPure 0 (some 7) (.int .i64 1) rfl rfl (by kernel_rfl) (by kernel_rfl) ?_
      refine Wk.rCall 1 (some 8) 16 [.tmp 7] #[3] [.int .i64 1] rfl rfl (by kernel_rfl) rfl (by kernel_rfl) (by kernel_rfl) ?_
      refine (Has_any 1 w).mono ?_
      rw [decide_eq_true ((by decide) : hasF 1)]
      rintro _ _ ⟨rfl, rfl⟩
      refine ⟨_, rfl, ?_⟩
      refine Wk.rPure 2 (some 9) (.bool false) rfl rfl (by kernel_rfl) (by kernel_rfl) ?_
      refine Wk.rEnd 3 rfl ?_
      refine Wk.nxt ?_
      refine wp_cond_false (by kernel_rfl) ?_
      refine wp_skip ?_
      refine Wk.nxt ?_
      refine wp_seq ?_
      refine wp_seq ?_
      refine Wk.reg ?_
      refine Wk.rPure 0 (some 10) (.pointer (some ⟨g, 0, none⟩)) rfl rfl (by kernel_rfl) (by kernel_rfl) ?_
      refine Wk.rPure 1 (some 11) (.int .i64 1) rfl rfl (by kernel_rfl) (by kernel_rfl) ?_
      refine Wk.rPure 2 (some 12) (.pointer (some ⟨g, 0, none⟩)) rfl rfl (by kernel_rfl) (by kernel_rfl) ?_
      refine Wk.rPure 3 (some 13) (.pointer (some ⟨g, 0, none⟩)) rfl rfl (by kernel_rfl) (by kernel_rfl) ?_
      refine Wk.rPure 4 (some 14) (.pointer (some ⟨g, 1, none⟩)) rfl rfl (by kernel_rfl) (Wk.index_arr 43 26 (.tmp 13) (.tmp 11) rfl 2 Try.underlying43 1 (by kernel_rfl) g 0 1 .i64 (by kernel_rfl) (by kernel_rfl) (by decide)) ?_
      refine Wk.rPure 5 (some 15) (.slice A1 n1 c1) rfl rfl (by kernel_rfl) (Wk.load1 26 (.tmp 14) rfl (by kernel_rfl) ⟨g, 1, none⟩ (by kernel_rfl) (.slice A1 n1 c1) ((cell_of_row _ _ 1 _ _ _ hp0).trans rfl)) ?_
      refine Wk.rPure 6 (some 16) (.int .i64 ((n1 : Nat) : Int)) rfl rfl (by kernel_rfl) (by kernel_rfl) ?_
      refine Wk.rPure 7 (some 17) (.slice A n c) rfl rfl (by kernel_rfl) (by kernel_rfl) ?_
      refine Wk.rPure 8 (some 18) (.int .i64 ((n : Nat) : Int)) rfl rfl (by kernel_rfl) (by kernel_rfl) ?_
      refine Wk.rPure 9 (some 19) (.int .i64 ((n1 + n : Nat) : Int)) rfl rfl (by kernel_rfl) (Wk.int64 (n := ((n1 : Nat) : Int) + ((n : Nat) : Int)) (z := ((n1 + n : Nat) : Int)) (by omega) (by omega) (by omega) (by kernel_rfl)) ?_
      by_cases hx2 : ((n1 + n : Nat) : Int) > (1048576 : Int)
      · refine Wk.rPure 10 (some 20) (.bool true) rfl rfl (by kernel_rfl) (Wk.boolT (b := decide (((n1 + n : Nat) : Int) > (1048576 : Int))) (decide_eq_true (by first | exact hx2 | omega)) (by kernel_rfl)) ?_
        refine Wk.rEnd 11 rfl ?_
        refine Wk.nxt ?_
        refine wp_cond_true (by kernel_rfl) ?_
        refine wp_seq ?_
        refine Wk.reg ?_
        refine Wk.rPure 0 (some 6) (.int .i64 8) rfl rfl (by kernel_rfl) (by kernel_rfl) ?_
        refine Wk.rEnd 1 rfl ?_
        refine Wk.nxt ?_
        refine wp_ret ?_
        refine Wk.thR ?_
        have hq := Mur.app_full (⟨⟨xb, xn⟩, ⟨yb, yn⟩⟩ : Dk) 1 l n hb.1 (by decide) (by show (n : Int) > 1048576 - ((yb.length : Nat) : Int); omega)
        rw [hq.1, hq.2]
        refine Wk.ret (.int .i64 8) rfl (by kernel_rfl) ?_
        exact ⟨_, rfl, h, (Wk.Chg.refl _).more (by simp), Mur.newOr_iff.2 fun t ht => .inl ht⟩
      · refine Wk.rPure 10 (some 20) (.bool false) rfl rfl (by kernel_rfl) (Wk.boolF (b := decide (((n1 + n : Nat) : Int) > (1048576 : Int))) (decide_eq_false (by first | exact hx2 | omega)) (by kernel_rfl)) ?_
        refine Wk.rEnd 11 rfl ?_
        refine Wk.nxt ?_
        refine wp_cond_false (by kernel_rfl) ?_
        refine wp_skip ?_
        refine Wk.nxt ?_
        refine wp_seq ?_
        refine Wk.dReg ([g]) (by kernel_rfl) ?_
        intro W10 ch10 sz4
        have zz10 := ch10.size
        have sS10 : Wk.Chg ([g]) W10 W10 := (Wk.Chg.refl _).more (by simp)
        refine Wk.dVal 0 (some 21) (.pointer (some ⟨g, 0, none⟩)) rfl rfl (by kernel_rfl) (by kernel_rfl) (by kernel_rfl) (fun _ _ _ h => h) (by kernel_rfl) (fun w' hw' => by kernel_rfl) sS10 ?_
        refine Wk.dVal 1 (some 22) (.int .i64 1) rfl rfl (by kernel_rfl) (by kernel_rfl) (by kernel_rfl) (fun _ _ _ h => h) (by kernel_rfl) (fun w' hw' => by kernel_rfl) sS10 ?_
        refine Wk.dVal 3 (some 24) (.pointer (some ⟨g, 0, none⟩)) rfl rfl (by kernel_rfl) (by kernel_rfl) (by kernel_rfl) (fun _ _ _ h => h) (by kernel_rfl) (fun w' hw' => by kernel_rfl) sS10 ?_
        refine Wk.dVal 4 (some 25) (.int .i64 1) rfl rfl (by kernel_rfl) (by kernel_rfl) (by kernel_rfl) (fun _ _ _ h => h) (by kernel_rfl) (fun w' hw' => by kernel_rfl) sS10 ?_
        refine Wk.dVal 5 (some 26) (.pointer (some ⟨g, 0, none⟩)) rfl rfl (by kernel_rfl) (by kernel_rfl) (by kernel_rfl) (fun _ _ _ h => h) (by kernel_rfl) (fun w' hw' => by kernel_rfl) sS10 ?_
        refine Wk.dVal 6 (some 27) (.pointer (some ⟨g, 0, none⟩)) rfl rfl (by kernel_rfl) (by kernel_rfl) (by kernel_rfl) (fun _ _ _ h => h) (by kernel_rfl) (fun w' hw' => by kernel_rfl) sS10 ?_
        refine Wk.dVal 7 (some 28) (.pointer (some ⟨g, 1, none⟩)) rfl rfl (by kernel_rfl) (by kernel_rfl) (by kernel_rfl) (fun _ _ _ h => h) (by kernel_rfl) (fun w' hw' => (Wk.index_arr 43 26 (.tmp 27) (.tmp 25) rfl 2 Try.underlying43 1 (by kernel_rfl) g 0 1 .i64 (by kernel_rfl) (by kernel_rfl) (by decide))) sS10 ?_
        refine Wk.dVal 10 (some 31) (.slice A n c) rfl rfl (by kernel_rfl) (by kernel_rfl) (by kernel_rfl) (fun _ _ _ h => h) (by kernel_rfl) (fun w' hw' => by kernel_rfl) sS10 ?_
        refine Wk.dVal 12 (some 33) (.pointer (some ⟨g, 0, none⟩)) rfl rfl (by kernel_rfl) (by kernel_rfl) (by kernel_rfl) (fun _ _ _ h => h) (by kernel_rfl) (fun w' hw' => by kernel_rfl) sS10 ?_
        refine Wk.dVal 13 (some 34) (.pointer (some ⟨g, 0, none⟩)) rfl rfl (by kernel_rfl) (by kernel_rfl) (by kernel_rfl) (fun _ _ _ h => h) (by kernel_rfl) (fun w' hw' => by kernel_rfl) sS10 ?_
        refine Wk.dOp2 2 8 (by kernel_rfl) ?_ ?_
        · refine Wk.oEx (some 23) _ rfl rfl (by kernel_rfl) (Wk.new_ex (.slice (some ⟨W10.heap.size, 0, none⟩) 0 0) #[] 5 (by kernel_rfl)) ?_
          rintro _ W11 ⟨rfl, hb5, ch11, sz5⟩
          have zz11 := ch11.size
          have sS11 := Wk.Chg.step sS10 ch11 trivial
          refine ⟨sS11, ?_⟩
          refine Wk.dOp 8 (by kernel_rfl) ?_
          have kk19 : Wk.Chg [] w W10 := Wk.Chg.step ((Wk.Chg.refl _).more (by simp)) ch10 trivial
          have kk20 := Wk.Chg.step kk19 ch11 trivial
          refine Wk.oVal (some 29) (.slice A1 n1 c1) rfl rfl (by kernel_rfl) (Wk.load1 26 (.tmp 28) rfl (by kernel_rfl) ⟨g, 1, none⟩ (by kernel_rfl) (.slice A1 n1 c1) ((cell_of_row _ _ 1 _ _ _ (Wk.Chg.hp kk20 hp0 trivial)).trans rfl)) ?_
          refine ⟨sS11, ?_⟩
          refine Wk.dOp 9 (by kernel_rfl) ?_
          have ow9 := Mur.own8_empty hb5 (Nat.le_refl _)
          refine Wk.oEx (some 30) _ rfl rfl (by kernel_rfl) (Mur.append8 (.tmp 23) (.tmp 29) 26 5 rfl Try.underlying26 (by kernel_rfl) W10.heap.size (some ⟨W10.heap.size, 0, none⟩) 0 0 ([]) A1 n1 c1 yb (by kernel_rfl) (by kernel_rfl) ow9.own (Mur.byt_chg hbY kk20 (fun g off e hl => trivial)) hnil1 (by omega) (by omega) n1 (by omega) yb rfl) ?_
          rintro _ W12 ⟨AA5, nn5, rfl, ow10, ch12, ha5⟩
          have zz12 := ch12.size
          have hq9 := ow10.nc
          have hq10 := ow10.cm
          have sS12 := Wk.Chg.step sS11 ch12 (Wk.newOr_blk (fun g hg => by have := ow9.lt g hg; omega))
          refine ⟨sS12, ?_⟩
          refine Wk.dOp 11 (by kernel_rfl) ?_
          have kk21 := Wk.Chg.step kk20 ch12 (Wk.newOr_blk (fun g hg => by have := ow9.lt g hg; omega))
          refine Wk.oEx (some 32) _ rfl rfl (by kernel_rfl) (Mur.append8 (.tmp 30) (.tmp 31) 26 5 rfl Try.underlying26 (by kernel_rfl) W10.heap.size AA5 n1 nn5 yb A n c l (by kernel_rfl) (by kernel_rfl) ow10.own (Mur.byt_chg hb kk21 (fun g off e hl => trivial)) ha (by omega) (by omega) (n1 + n) (by omega) (yb ++ l) rfl) ?_
          rintro _ W13 ⟨AA6, nn6, rfl, ow11, ch13, ha6⟩
          have zz13 := ch13.size
          have hq11 := ow11.nc
          have hq12 := ow11.cm
          have sS13 := Wk.Chg.step sS12 ch13 (Wk.newOr_blk (fun g hg => by have := ow10.lt g hg; omega))
          refine ⟨sS13, ?_⟩
          refine Wk.dVal 14 (some 35) (.pointer (some ⟨g, 1, none⟩)) rfl rfl (by kernel_rfl) (by kernel_rfl) (by kernel_rfl) (fun _ _ _ h => h) (by kernel_rfl) (fun w' hw' => (Wk.index_arr 43 26 (.tmp 34) (.tmp 22) rfl 2 Try.underlying43 1 (by kernel_rfl) g 0 1 .i64 (by kernel_rfl) (by kernel_rfl) (by decide))) sS13 ?_
          refine Wk.dOp 15 (by kernel_rfl) ?_
          have kk22 := Wk.Chg.step kk21 ch13 (Wk.newOr_blk (fun g hg => by have := ow10.lt g hg; omega))
          refine Wk.oExS none _ rfl rfl (by kernel_rfl) (Wk.store1 26 (.tmp 35) (.tmp 32) rfl (by kernel_rfl) g 1 (by kernel_rfl) (.slice AA6 (n1 + n) nn6) (by kernel_rfl) rfl 45 #[.slice A0 n0 c0, .slice A1 n1 c1, .int .i64 ((xn : Nat) : Int), .int .i64 ((yn : Nat) : Int)] (Wk.Chg.hp kk22 hp0 trivial) (by simp)) ?_
          rintro W14 ⟨hb6, ch14⟩
          replace hb6 : W14.heap[g]? = some (.cells #[.slice A0 n0 c0, .slice AA6 (n1 + n) nn6, .int .i64 ((xn : Nat) : Int), .int .i64 ((yn : Nat) : Int)] 45 (0, 0)) := hb6
          have zz14 := ch14.size
          have sS14 := Wk.Chg.step sS13 ch14 ⟨.inl (by simp), trivial⟩
          refine ⟨sS14, ?_⟩
          refine Wk.dEnd (by kernel_rfl) ?_
          refine Wk.nxt ?_
          refine wp_seq ?_
          refine Wk.reg ?_
          refine Wk.rPure 0 (some 6) (.int .i64 0) rfl rfl (by kernel_rfl) (by kernel_rfl) ?_
          refine Wk.rEnd 1 rfl ?_
          refine Wk.nxt ?_
          refine wp_ret ?_
          have kk23 : Wk.Chg [g] (w) W10 := Wk.Chg.step ((Wk.Chg.refl _).more (by simp)) ch10 trivial
          have kk24 := Wk.Chg.step kk23 ch11 trivial
          have kk25 := Wk.Chg.step kk24 ch12 (Wk.newOr_blk (fun g hg => by have := ow9.lt g hg; omega))
          have kk26 := Wk.Chg.step kk25 ch13 (Wk.newOr_blk (fun g hg => by have := ow10.lt g hg; omega))
          have kk27 := Wk.Chg.step kk26 ch14 ⟨.inl (by simp), trivial⟩
          have ow12 := Mur.own8 (Wk.own_chg ow11.own ch14 (fun q e _ _ => ⟨by have := ow11.lt q e; omega, trivial⟩))
          have hq := Mur.app_fits (⟨⟨xb, xn⟩, ⟨yb, yn⟩⟩ : Dk) 1 l n hb.1 (by decide) (by show ¬ (n : Int) > 1048576 - ((yb.length : Nat) : Int); omega)
          rw [hq.1, hq.2]
          have hs := Mur.Ref.set1 hR ⟨yb ++ l, yn⟩ kk27 hb6 ow12 (by omega)
          refine Wk.ret (.int .i64 0) rfl (by kernel_rfl) ?_
          exact ⟨_, rfl, hs.1, kk27, hs.2⟩
        · have kk28 : Wk.Chg [] w W10 := Wk.Chg.step ((Wk.Chg.refl _).more (by simp)) ch10 trivial
          refine Wk.oVal (some 29) (.slice A1 n1 c1) rfl rfl (by kernel_rfl) (Wk.load1 26 (.tmp 28) rfl (by kernel_rfl) ⟨g, 1, none⟩ (by kernel_rfl) (.slice A1 n1 c1) ((cell_of_row _ _ 1 _ _ _ (Wk.Chg.hp kk28 hp0 trivial)).trans rfl)) ?_
          refine ⟨sS10, ?_⟩
          refine Wk.dOp 2 (by kernel_rfl) ?_
          refine Wk.oEx (some 23) _ rfl rfl (by kernel_rfl) (Wk.new_ex (.slice (some ⟨W10.heap.size, 0, none⟩) 0 0) #[] 5 (by kernel_rfl)) ?_
          rintro _ W15 ⟨rfl, hb7, ch15, sz6⟩
          have zz15 := ch15.size
          have sS15 := Wk.Chg.step sS10 ch15 trivial
          refine ⟨sS15, ?_⟩
          refine Wk.dOp 9 (by kernel_rfl) ?_
          have ow13 := Mur.own8_empty hb7 (Nat.le_refl _)
          have kk29 := Wk.Chg.step kk28 ch15 trivial
          refine Wk.oEx (some 30) _ rfl rfl (by kernel_rfl) (Mur.append8 (.tmp 23) (.tmp 29) 26 5 rfl Try.underlying26 (by kernel_rfl) W10.heap.size (some ⟨W10.heap.size, 0, none⟩) 0 0 ([]) A1 n1 c1 yb (by kernel_rfl) (by kernel_rfl) ow13.own (Mur.byt_chg hbY kk29 (fun g off e hl => trivial)) hnil1 (by omega) (by omega) n1 (by omega) yb rfl) ?_
          rintro _ W16 ⟨AA7, nn7, rfl, ow14, ch16, ha7⟩
          have zz16 := ch16.size
          have hq13 := ow14.nc
          have hq14 := ow14.cm
          have sS16 := Wk.Chg.step sS15 ch16 (Wk.newOr_blk (fun g hg => by have := ow13.lt g hg; omega))
          refine ⟨sS16, ?_⟩
          refine Wk.dOp 11 (by kernel_rfl) ?_
          have kk30 := Wk.Chg.step kk29 ch16 (Wk.newOr_blk (fun g hg => by have := ow13.lt g hg; omega))
          refine Wk.oEx (some 32) _ rfl rfl (by kernel_rfl) (Mur.append8 (.tmp 30) (.tmp 31) 26 5 rfl Try.underlying26 (by kernel_rfl) W10.heap.size AA7 n1 nn7 yb A n c l (by kernel_rfl) (by kernel_rfl) ow14.own (Mur.byt_chg hb kk30 (fun g off e hl => trivial)) ha (by omega) (by omega) (n1 + n) (by omega) (yb ++ l) rfl) ?_
          rintro _ W17 ⟨AA8, nn8, rfl, ow15, ch17, ha8⟩
          have zz17 := ch17.size
          have hq15 := ow15.nc
          have hq16 := ow15.cm
          have sS17 := Wk.Chg.step sS16 ch17 (Wk.newOr_blk (fun g hg => by have := ow14.lt g hg; omega))
          refine ⟨sS17, ?_⟩
          refine Wk.dVal 14 (some 35) (.pointer (some ⟨g, 1, none⟩)) rfl rfl (by kernel_rfl) (by kernel_rfl) (by kernel_rfl) (fun _ _ _ h => h) (by kernel_rfl) (fun w' hw' => (Wk.index_arr 43 26 (.tmp 34) (.tmp 22) rfl 2 Try.underlying43 1 (by kernel_rfl) g 0 1 .i64 (by kernel_rfl) (by kernel_rfl) (by decide))) sS17 ?_
          refine Wk.dOp 15 (by kernel_rfl) ?_
          have kk31 := Wk.Chg.step kk30 ch17 (Wk.newOr_blk (fun g hg => by have := ow14.lt g hg; omega))
          refine Wk.oExS none _ rfl rfl (by kernel_rfl) (Wk.store1 26 (.tmp 35) (.tmp 32) rfl (by kernel_rfl) g 1 (by kernel_rfl) (.slice AA8 (n1 + n) nn8) (by kernel_rfl) rfl 45 #[.slice A0 n0 c0, .slice A1 n1 c1, .int .i64 ((xn : Nat) : Int), .int .i64 ((yn : Nat) : Int)] (Wk.Chg.hp kk31 hp0 trivial) (by simp)) ?_
          rintro W18 ⟨hb8, ch18⟩
          replace hb8 : W18.heap[g]? = some (.cells #[.slice A0 n0 c0, .slice AA8 (n1 + n) nn8, .int .i64 ((xn : Nat) : Int), .int .i64 ((yn : Nat) : Int)] 45 (0, 0)) := hb8
          have zz18 := ch18.size
          have sS18 := Wk.Chg.step sS17 ch18 ⟨.inl (by simp), trivial⟩
          refine ⟨sS18, ?_⟩
          refine Wk.dEnd (by kernel_rfl) ?_
          refine Wk.nxt ?_
          refine wp_seq ?_
          refine Wk.reg ?_
          refine Wk.rPure 0 (some 6) (.int .i64 0) rfl rfl (by kernel_rfl) (by kernel_rfl) ?_
          refine Wk.rEnd 1 rfl ?_
          refine Wk.nxt ?_
          refine wp_ret ?_
          have kk32 : Wk.Chg [g] (w) W10 := Wk.Chg.step ((Wk.Chg.refl _).more (by simp)) ch10 trivial
          have kk33 := Wk.Chg.step kk32 ch15 trivial
          have kk34 := Wk.Chg.step kk33 ch16 (Wk.newOr_blk (fun g hg => by have := ow13.lt g hg; omega))
          have kk35 := Wk.Chg.step kk34 ch17 (Wk.newOr_blk (fun g hg => by have := ow14.lt g hg; omega))
          have kk36 := Wk.Chg.step kk35 ch18 ⟨.inl (by simp), trivial⟩
          have ow16 := Mur.own8 (Wk.own_chg ow15.own ch18 (fun q e _ _ => ⟨by have := ow15.lt q e; omega, trivial⟩))
          have hq := Mur.app_fits (⟨⟨xb, xn⟩, ⟨yb, yn⟩⟩ : Dk) 1 l n hb.1 (by decide) (by show ¬ (n : Int) > 1048576 - ((yb.length : Nat) : Int); omega)
          rw [hq.1, hq.2]
          have hs := Mur.Ref.set1 hR ⟨yb ++ l, yn⟩ kk36 hb8 ow16 (by omega)
          refine Wk.ret (.int .i64 0) rfl (by kernel_rfl) ?_
          exact ⟨_, rfl, hs.1, kk36, hs.2⟩
    · obtain ⟨A0, n0, c0, A1, n1, c1, hR, rfl⟩ := h.out
      obtain ⟨⟨xb, xn⟩, ⟨yb, yn⟩⟩ := d
      have hp0 := hR.hp
      have hbX := hR.b0
      have hbY := hR.b1
      have hnc0 := hR.nc0
      have hnc1 := hR.nc1
      have hnil0 := hR.nil0
      have hnil1 := hR.nil1
      have hat0 := hR.at0
      have hat1 := hR.at1
      have hlx := hbX.1
      have hly := hbY.1
      simp only at hp0 hbX hbY hlx hly
      have hgl := (Array.getElem?_eq_some_iff.1 hp0).1
      replace hlx : xb.length = n0 := hlx
      replace hly : yb.length = n1 := hly
      replace hdx : xb.length ≤ 1048576 := hdx
      replace hdy : yb.length ≤ 1048576 := hdy
      have hf : ¬ hasF f := by unfold hasF; omega
      refine calls_of_wp Try.func17 rfl ?_
      refine wp_seq ?_
      refine Wk.reg ?_
      refine Wk.rPure 0 (some 6) (.int .i64 0) rfl rfl (by kernel_rfl) (by kernel_rfl) ?_
      refine Wk.rEnd 1 rfl ?_
      refine Wk.nxt ?_
      refine wp_seq ?_
      refine wp_seq ?_
      refine Wk.reg ?_
      refine Wk.rPure 0 (some 7) (.int .i64 f) rfl rfl (by kernel_rfl) (by kernel_rfl) ?_
      refine Wk.rCall 1 (some 8) 16 [.tmp 7] #[3] [.int .i64 f] rfl rfl (by kernel_rfl) rfl (by kernel_rfl) (by kernel_rfl) ?_
      refine (Has_any f w).mono ?_
      rw [decide_eq_false (hf : ¬ hasF f)]
      rintro _ _ ⟨rfl, rfl⟩
      refine ⟨_, rfl, ?_⟩
      refine Wk.rPure 2 (some 9) (.bool true) rfl rfl (by kernel_rfl) (by kernel_rfl) ?_
      refine Wk.rEnd 3 rfl ?_
      refine Wk.nxt ?_
      refine wp_cond_true (by kernel_rfl) ?_
      refine wp_seq ?_
      refine Wk.reg ?_
      refine Wk.rPure 0 (some 6) (.int .i64 2) rfl rfl (by kernel_rfl) (by kernel_rfl) ?_
      refine Wk.rEnd 1 rfl ?_
      refine Wk.nxt ?_
      refine wp_ret ?_
      refine Wk.thR ?_
      refine Wk.ret (.int .i64 2) rfl (by kernel_rfl) ?_
      exact ⟨_, by rw [show Mur.Dk.appE (⟨⟨xb, xn⟩, ⟨yb, yn⟩⟩ : Dk) f n = 2 from if_neg hf], by rw [Mur.app_out _ _ _ hf]; exact h, (Wk.Chg.refl _).more (by simp), Mur.newOr_iff.2 fun t ht => .inl ht⟩
end Go.Proofs.Ytddabjlhidokaaa
