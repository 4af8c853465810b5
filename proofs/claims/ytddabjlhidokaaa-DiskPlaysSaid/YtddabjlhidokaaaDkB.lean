/- The disk's calls on a file. -/
import Derived.Test.YtddabjlhidokaaaDkA
namespace Go.Proofs.Ytddabjlhidokaaa
open Go.RowKit
open Mur (Fil Dk Dsk DskF Byt b8s foot hasF fE)
set_option maxRecDepth 100000
set_option maxHeartbeats 4000000
theorem Append_any (g : Nat) (d : Dk) (F : List Nat) (f : Int) (A : Option Addr) (n c : Nat) (l : List UInt8) (w : World) (h : DskF 5 51 w g d F) (hb : Byt w A n l) (hA : A = none → c = 0) : Calls Try.prog 10 #[.pointer (some ⟨g, 0, none⟩), .int .i64 f, .slice A n c] w fun e w' => ∃ F', e = .returned (.int .i64 (d.appE f n)) ∧ DskF 5 51 w' g (d.app f l) F' ∧ Wk.Chg F w w' ∧ Wk.NewOr w.heap.size F F' := by
  obtain ⟨⟨xb, xn⟩, ⟨yb, yn⟩⟩ := d
  obtain ⟨vx, vy, hD, rfl⟩ := h.out
  have hkx := hD.kx
  have hky := hD.ky
  simp only [Fil.ok] at hkx hky
  obtain ⟨Ax, cx, rfl, hxc, hxm, hxN, hxS, hxl⟩ := Wk.own_sl hD.ox
  obtain ⟨Ay, cy, rfl, hyc, hym, hyN, hyS, hyl⟩ := Wk.own_sl hD.oy
  have ltx := World.ownsRow.lt hD.ox
  have lty := World.ownsRow.lt hD.oy
  have hgl := hD.lt
  have hp := hD.hp
  simp only at hp
  by_cases hf : hasF f
  · rcases hf with rfl | rfl
    · refine calls_of_wp Try.func10 rfl ?_
      refine wp_seq ?_
      refine Wk.reg ?_
      refine Wk.rPure 0 (some 6) (.int .i64 0) rfl rfl (by kernel_rfl) (by kernel_rfl) ?_
      refine Wk.rEnd 1 rfl ?_
      refine Wk.nxt ?_
      refine wp_seq ?_
      refine wp_seq ?_
      refine Wk.reg ?_
      refine Wk.rPure 0 (some 9) (.pointer (some ⟨g, 0, none⟩)) rfl rfl (by kernel_rfl) (by kernel_rfl) ?_
      refine Wk.rPure 1 (some 10) (.int .i64 0) rfl rfl (by kernel_rfl) (by kernel_rfl) ?_
      refine Wk.rCall 2 (some 11) 20 [.tmp 9, .tmp 10] #[23, 3] [.pointer (some ⟨g, 0, none⟩), .int .i64 0] rfl rfl (by kernel_rfl) rfl (by kernel_rfl) (by kernel_rfl) ?_
      refine (asked_in g 0 w (by decide)).mono ?_
      rintro _ _ ⟨rfl, rfl⟩
      refine ⟨_, rfl, ?_⟩
      refine Wk.rPure 3 (some 7) (.int .i64 0) rfl rfl (by kernel_rfl) (by kernel_rfl) ?_
      refine Wk.rEnd 4 rfl ?_
      refine Wk.nxt ?_
      refine wp_seq ?_
      refine Wk.reg ?_
      refine Wk.rPure 0 (some 12) (.int .i64 0) rfl rfl (by kernel_rfl) (by kernel_rfl) ?_
      refine Wk.rPure 1 (some 13) (.bool false) rfl rfl (by kernel_rfl) (Wk.boolF (b := ((0 : Int) != (0 : Int))) (bne_eq_false_iff_eq.2 (by decide)) (by kernel_rfl)) ?_
      refine Wk.rEnd 2 rfl ?_
      refine Wk.nxt ?_
      refine wp_cond_false (by kernel_rfl) ?_
      refine wp_skip ?_
      refine Wk.nxt ?_
      refine wp_seq ?_
      refine Wk.reg ?_
      refine Wk.rPure 0 (some 15) (.pointer (some ⟨g, 0, none⟩)) rfl rfl (by kernel_rfl) (by kernel_rfl) ?_
      refine Wk.rPure 1 (some 16) (.int .i64 0) rfl rfl (by kernel_rfl) (by kernel_rfl) ?_
      refine Wk.rPure 2 (some 17) (.pointer (some ⟨g, 0, none⟩)) rfl rfl (by kernel_rfl) (by kernel_rfl) ?_
      refine Wk.rPure 3 (some 18) (.pointer (some ⟨g, 0, none⟩)) rfl rfl (by kernel_rfl) (by kernel_rfl) ?_
      refine Wk.rPure 4 (some 19) (.pointer (some ⟨g, 0, none⟩)) rfl rfl (by kernel_rfl) (Wk.index_arr 49 48 (.tmp 18) (.tmp 16) rfl 2 Try.underlying49 2 (by kernel_rfl) g 0 0 .i64 (by kernel_rfl) (by kernel_rfl) (by decide)) ?_
      refine Wk.rPure 5 (some 8) (.pointer (some ⟨g, 0, none⟩)) rfl rfl (by kernel_rfl) (by kernel_rfl) ?_
      refine Wk.rEnd 6 rfl ?_
      refine Wk.nxt ?_
      refine wp_seq ?_
      refine wp_seq ?_
      refine Wk.reg ?_
      refine Wk.rPure 0 (some 20) (.slice A n c) rfl rfl (by kernel_rfl) (by kernel_rfl) ?_
      refine Wk.rPure 1 (some 21) (.int .i64 ((n : Nat) : Int)) rfl rfl (by kernel_rfl) (by kernel_rfl) ?_
      refine Wk.rPure 2 (some 22) (.pointer (some ⟨g, 0, none⟩)) rfl rfl (by kernel_rfl) (by kernel_rfl) ?_
      refine Wk.rPure 3 (some 23) (.pointer (some ⟨g, 0, none⟩)) rfl rfl (by kernel_rfl) (by kernel_rfl) ?_
      refine Wk.rPure 4 (some 24) (.pointer (some ⟨g, 0, none⟩)) rfl rfl (by kernel_rfl) (by kernel_rfl) ?_
      refine Wk.rPure 5 (some 25) (.slice Ax xb.length cx) rfl rfl (by kernel_rfl) (Wk.load1 26 (.tmp 24) rfl (by kernel_rfl) ⟨g, 0, none⟩ (by kernel_rfl) (.slice Ax xb.length cx) ((cell_of_row _ _ 0 _ _ _ hp).trans rfl)) ?_
      refine Wk.rPure 6 (some 26) (.int .i64 ((xb.length : Nat) : Int)) rfl rfl (by kernel_rfl) (by kernel_rfl) ?_
      refine Wk.rPure 7 (some 27) (.int .i64 (1048576 - ((xb.length : Nat) : Int))) rfl rfl (by kernel_rfl) (Wk.int64 (n := 1048576 - ((xb.length : Nat) : Int)) (z := 1048576 - ((xb.length : Nat) : Int)) (by omega) (by omega) (by omega) (by kernel_rfl)) ?_
      by_cases hx1 : ((n : Nat) : Int) > (1048576 - ((xb.length : Nat) : Int))
      · refine Wk.rPure 8 (some 28) (.bool true) rfl rfl (by kernel_rfl) (Wk.boolT (b := decide (((n : Nat) : Int) > (1048576 - ((xb.length : Nat) : Int)))) (decide_eq_true (by first | exact hx1 | omega)) (by kernel_rfl)) ?_
        refine Wk.rEnd 9 rfl ?_
        refine Wk.nxt ?_
        refine wp_cond_true (by kernel_rfl) ?_
        refine wp_seq ?_
        refine Wk.reg ?_
        refine Wk.rPure 0 (some 6) (.int .i64 8) rfl rfl (by kernel_rfl) (by kernel_rfl) ?_
        refine Wk.rEnd 1 rfl ?_
        refine Wk.nxt ?_
        refine wp_ret ?_
        refine Wk.thR ?_
        have he := Mur.app_full (Dk.mk ⟨xb, xn⟩ ⟨yb, yn⟩) 0 l n hb.1 (by decide) (by show (n : Int) > 1048576 - (xb.length : Int); omega)
        rw [he.1, he.2]
        refine Wk.ret (.int .i64 8) rfl (by kernel_rfl) ?_
        exact ⟨_, rfl, h, (Wk.Chg.refl _).more (by simp), Mur.newOr_iff.2 fun t ht => .inl ht⟩
      · refine Wk.rPure 8 (some 28) (.bool false) rfl rfl (by kernel_rfl) (Wk.boolF (b := decide (((n : Nat) : Int) > (1048576 - ((xb.length : Nat) : Int)))) (decide_eq_false (by first | exact hx1 | omega)) (by kernel_rfl)) ?_
        refine Wk.rEnd 9 rfl ?_
        refine Wk.nxt ?_
        refine wp_cond_false (by kernel_rfl) ?_
        refine wp_skip ?_
        refine Wk.nxt ?_
        refine wp_seq ?_
        refine Wk.reg ?_
        refine Wk.rPure 0 (some 29) (.pointer (some ⟨g, 0, none⟩)) rfl rfl (by kernel_rfl) (by kernel_rfl) ?_
        refine Wk.rPure 1 (some 30) (.pointer (some ⟨g, 0, none⟩)) rfl rfl (by kernel_rfl) (by kernel_rfl) ?_
        refine Wk.rPure 2 (some 31) (.pointer (some ⟨g, 0, none⟩)) rfl rfl (by kernel_rfl) (by kernel_rfl) ?_
        refine Wk.rPure 3 (some 32) (.pointer (some ⟨g, 0, none⟩)) rfl rfl (by kernel_rfl) (by kernel_rfl) ?_
        refine Wk.rPure 4 (some 33) (.slice Ax xb.length cx) rfl rfl (by kernel_rfl) (Wk.load1 26 (.tmp 32) rfl (by kernel_rfl) ⟨g, 0, none⟩ (by kernel_rfl) (.slice Ax xb.length cx) ((cell_of_row _ _ 0 _ _ _ hp).trans rfl)) ?_
        refine Wk.rPure 5 (some 34) (.slice A n c) rfl rfl (by kernel_rfl) (by kernel_rfl) ?_
        refine Wk.rEx 6 (some 35) _ rfl rfl (by kernel_rfl) (Wk.append_run (.tmp 33) (.tmp 34) 26 5 rfl Try.underlying26 (.int .u8 0) 1 1 (by kernel_rfl) rfl (by omega) (g + 1) (.slice Ax xb.length cx) xb.length (b8s xb) A n c (b8s l) (by kernel_rfl) (by kernel_rfl) hD.ox (Mur.byt_sl hb) hA (Mur.b8s_one l) (by omega) (by unfold maxLen; omega) (by omega)) ?_
        rintro vv1 W1 ⟨HO1, ch1, ha1⟩
        obtain ⟨AA1, nn1, rfl, hcc1, hmm1, hN1, HS1, hl1⟩ := Wk.own_sl HO1
        have lt1 := World.ownsRow.lt HO1
        have zz1 := ch1.size
        refine Wk.rPure 7 (some 36) (.pointer (some ⟨g, 0, none⟩)) rfl rfl (by kernel_rfl) (by kernel_rfl) ?_
        refine Wk.rPure 8 (some 37) (.pointer (some ⟨g, 0, none⟩)) rfl rfl (by kernel_rfl) (by kernel_rfl) ?_
        refine Wk.rExS 9 none _ rfl rfl (by kernel_rfl) (Wk.store1 26 (.tmp 37) (.tmp 35) rfl (by kernel_rfl) g 0 (by kernel_rfl) (.slice AA1 (xb.length + n) nn1) (by kernel_rfl) rfl 51 #[.slice Ax xb.length cx, .int .i64 ((xn : Nat) : Int), .slice Ay yb.length cy, .int .i64 ((yn : Nat) : Int)] (Wk.Chg.hp ch1 hp (Wk.off_blk (fun g hg => by have := ltx g hg; omega))) (by simp)) ?_
        rintro W2 ⟨hb1, ch2⟩
        replace hb1 : W2.heap[g]? = some (.cells #[.slice AA1 (xb.length + n) nn1, .int .i64 ((xn : Nat) : Int), .slice Ay yb.length cy, .int .i64 ((yn : Nat) : Int)] 51 (0, 0)) := hb1
        have zz2 := ch2.size
        refine Wk.rEnd 10 rfl ?_
        refine Wk.nxt ?_
        refine wp_seq ?_
        refine Wk.reg ?_
        refine Wk.rPure 0 (some 6) (.int .i64 0) rfl rfl (by kernel_rfl) (by kernel_rfl) ?_
        refine Wk.rEnd 1 rfl ?_
        refine Wk.nxt ?_
        refine wp_ret ?_
        have he := Mur.app_fits (Dk.mk ⟨xb, xn⟩ ⟨yb, yn⟩) 0 l n hb.1 (by decide) (by show ¬ (n : Int) > 1048576 - (xb.length : Int); omega)
        rw [he.1, he.2]
        have hll := hb.1
        have kk1 : Wk.Chg (g :: Wk.blk (.slice Ax xb.length cx)) (w) W1 := Wk.Chg.step ((Wk.Chg.refl _).more (by simp)) ch1 (Mur.newOr_iff.2 (fun t ht => .inl (by simp [ht])))
        have kk2 := Wk.Chg.step kk1 ch2 ⟨.inl (by simp), trivial⟩
        obtain ⟨kk3, hcF, hnF⟩ := Mur.Dsk.setx hD ⟨xb ++ l, xn⟩ kk2 hb1 (by rw [Mur.b8s_append, List.length_append, hll]; exact (Wk.own_chg HO1 ch2 (fun g e _ _ => ⟨by have := lt1 g e; omega, trivial⟩))) (Mur.own_new ha1 (by omega)) (by simp only [Fil.ok, List.length_append]; omega)
        refine Wk.ret (.int .i64 0) rfl (by kernel_rfl) ?_
        exact ⟨_, rfl, ⟨⟨_, _, kk3, rfl⟩⟩, hcF, hnF⟩
    · refine calls_of_wp Try.func10 rfl ?_
      refine wp_seq ?_
      refine Wk.reg ?_
      refine Wk.rPure 0 (some 6) (.int .i64 0) rfl rfl (by kernel_rfl) (by kernel_rfl) ?_
      refine Wk.rEnd 1 rfl ?_
      refine Wk.nxt ?_
      refine wp_seq ?_
      refine wp_seq ?_
      refine Wk.reg ?_
      refine Wk.rPure 0 (some 9) (.pointer (some ⟨g, 0, none⟩)) rfl rfl (by kernel_rfl) (by kernel_rfl) ?_
      refine Wk.rPure 1 (some 10) (.int .i64 1) rfl rfl (by kernel_rfl) (by kernel_rfl) ?_
      refine Wk.rCall 2 (some 11) 20 [.tmp 9, .tmp 10] #[23, 3] [.pointer (some ⟨g, 0, none⟩), .int .i64 1] rfl rfl (by kernel_rfl) rfl (by kernel_rfl) (by kernel_rfl) ?_
      refine (asked_in g 1 w (by decide)).mono ?_
      rintro _ _ ⟨rfl, rfl⟩
      refine ⟨_, rfl, ?_⟩
      refine Wk.rPure 3 (some 7) (.int .i64 0) rfl rfl (by kernel_rfl) (by kernel_rfl) ?_
      refine Wk.rEnd 4 rfl ?_
      refine Wk.nxt ?_
      refine wp_seq ?_
      refine Wk.reg ?_
      refine Wk.rPure 0 (some 12) (.int .i64 0) rfl rfl (by kernel_rfl) (by kernel_rfl) ?_
      refine Wk.rPure 1 (some 13) (.bool false) rfl rfl (by kernel_rfl) (Wk.boolF (b := ((0 : Int) != (0 : Int))) (bne_eq_false_iff_eq.2 (by decide)) (by kernel_rfl)) ?_
      refine Wk.rEnd 2 rfl ?_
      refine Wk.nxt ?_
      refine wp_cond_false (by kernel_rfl) ?_
      refine wp_skip ?_
      refine Wk.nxt ?_
      refine wp_seq ?_
      refine Wk.reg ?_
      refine Wk.rPure 0 (some 15) (.pointer (some ⟨g, 0, none⟩)) rfl rfl (by kernel_rfl) (by kernel_rfl) ?_
      refine Wk.rPure 1 (some 16) (.int .i64 1) rfl rfl (by kernel_rfl) (by kernel_rfl) ?_
      refine Wk.rPure 2 (some 17) (.pointer (some ⟨g, 0, none⟩)) rfl rfl (by kernel_rfl) (by kernel_rfl) ?_
      refine Wk.rPure 3 (some 18) (.pointer (some ⟨g, 0, none⟩)) rfl rfl (by kernel_rfl) (by kernel_rfl) ?_
      refine Wk.rPure 4 (some 19) (.pointer (some ⟨g, 2, none⟩)) rfl rfl (by kernel_rfl) (Wk.index_arr 49 48 (.tmp 18) (.tmp 16) rfl 2 Try.underlying49 2 (by kernel_rfl) g 0 1 .i64 (by kernel_rfl) (by kernel_rfl) (by decide)) ?_
      refine Wk.rPure 5 (some 8) (.pointer (some ⟨g, 2, none⟩)) rfl rfl (by kernel_rfl) (by kernel_rfl) ?_
      refine Wk.rEnd 6 rfl ?_
      refine Wk.nxt ?_
      refine wp_seq ?_
      refine wp_seq ?_
      refine Wk.reg ?_
      refine Wk.rPure 0 (some 20) (.slice A n c) rfl rfl (by kernel_rfl) (by kernel_rfl) ?_
      refine Wk.rPure 1 (some 21) (.int .i64 ((n : Nat) : Int)) rfl rfl (by kernel_rfl) (by kernel_rfl) ?_
      refine Wk.rPure 2 (some 22) (.pointer (some ⟨g, 2, none⟩)) rfl rfl (by kernel_rfl) (by kernel_rfl) ?_
      refine Wk.rPure 3 (some 23) (.pointer (some ⟨g, 2, none⟩)) rfl rfl (by kernel_rfl) (by kernel_rfl) ?_
      refine Wk.rPure 4 (some 24) (.pointer (some ⟨g, 2, none⟩)) rfl rfl (by kernel_rfl) (by kernel_rfl) ?_
      refine Wk.rPure 5 (some 25) (.slice Ay yb.length cy) rfl rfl (by kernel_rfl) (Wk.load1 26 (.tmp 24) rfl (by kernel_rfl) ⟨g, 2, none⟩ (by kernel_rfl) (.slice Ay yb.length cy) ((cell_of_row _ _ 2 _ _ _ hp).trans rfl)) ?_
      refine Wk.rPure 6 (some 26) (.int .i64 ((yb.length : Nat) : Int)) rfl rfl (by kernel_rfl) (by kernel_rfl) ?_
      refine Wk.rPure 7 (some 27) (.int .i64 (1048576 - ((yb.length : Nat) : Int))) rfl rfl (by kernel_rfl) (Wk.int64 (n := 1048576 - ((yb.length : Nat) : Int)) (z := 1048576 - ((yb.length : Nat) : Int)) (by omega) (by omega) (by omega) (by kernel_rfl)) ?_
      by_cases hx2 : ((n : Nat) : Int) > (1048576 - ((yb.length : Nat) : Int))
      · refine Wk.rPure 8 (some 28) (.bool true) rfl rfl (by kernel_rfl) (Wk.boolT (b := decide (((n : Nat) : Int) > (1048576 - ((yb.length : Nat) : Int)))) (decide_eq_true (by first | exact hx2 | omega)) (by kernel_rfl)) ?_
        refine Wk.rEnd 9 rfl ?_
        refine Wk.nxt ?_
        refine wp_cond_true (by kernel_rfl) ?_
        refine wp_seq ?_
        refine Wk.reg ?_
        refine Wk.rPure 0 (some 6) (.int .i64 8) rfl rfl (by kernel_rfl) (by kernel_rfl) ?_
        refine Wk.rEnd 1 rfl ?_
        refine Wk.nxt ?_
        refine wp_ret ?_
        refine Wk.thR ?_
        have he := Mur.app_full (Dk.mk ⟨xb, xn⟩ ⟨yb, yn⟩) 1 l n hb.1 (by decide) (by show (n : Int) > 1048576 - (yb.length : Int); omega)
        rw [he.1, he.2]
        refine Wk.ret (.int .i64 8) rfl (by kernel_rfl) ?_
        exact ⟨_, rfl, h, (Wk.Chg.refl _).more (by simp), Mur.newOr_iff.2 fun t ht => .inl ht⟩
      · refine Wk.rPure 8 (some 28) (.bool false) rfl rfl (by kernel_rfl) (Wk.boolF (b := decide (((n : Nat) : Int) > (1048576 - ((yb.length : Nat) : Int)))) (decide_eq_false (by first | exact hx2 | omega)) (by kernel_rfl)) ?_
        refine Wk.rEnd 9 rfl ?_
        refine Wk.nxt ?_
        refine wp_cond_false (by kernel_rfl) ?_
        refine wp_skip ?_
        refine Wk.nxt ?_
        refine wp_seq ?_
        refine Wk.reg ?_
        refine Wk.rPure 0 (some 29) (.pointer (some ⟨g, 2, none⟩)) rfl rfl (by kernel_rfl) (by kernel_rfl) ?_
        refine Wk.rPure 1 (some 30) (.pointer (some ⟨g, 2, none⟩)) rfl rfl (by kernel_rfl) (by kernel_rfl) ?_
        refine Wk.rPure 2 (some 31) (.pointer (some ⟨g, 2, none⟩)) rfl rfl (by kernel_rfl) (by kernel_rfl) ?_
        refine Wk.rPure 3 (some 32) (.pointer (some ⟨g, 2, none⟩)) rfl rfl (by kernel_rfl) (by kernel_rfl) ?_
        refine Wk.rPure 4 (some 33) (.slice Ay yb.length cy) rfl rfl (by kernel_rfl) (Wk.load1 26 (.tmp 32) rfl (by kernel_rfl) ⟨g, 2, none⟩ (by kernel_rfl) (.slice Ay yb.length cy) ((cell_of_row _ _ 2 _ _ _ hp).trans rfl)) ?_
        refine Wk.rPure 5 (some 34) (.slice A n c) rfl rfl (by kernel_rfl) (by kernel_rfl) ?_
        refine Wk.rEx 6 (some 35) _ rfl rfl (by kernel_rfl) (Wk.append_run (.tmp 33) (.tmp 34) 26 5 rfl Try.underlying26 (.int .u8 0) 1 1 (by kernel_rfl) rfl (by omega) (g + 1) (.slice Ay yb.length cy) yb.length (b8s yb) A n c (b8s l) (by kernel_rfl) (by kernel_rfl) hD.oy (Mur.byt_sl hb) hA (Mur.b8s_one l) (by omega) (by unfold maxLen; omega) (by omega)) ?_
        rintro vv2 W3 ⟨HO2, ch3, ha2⟩
        obtain ⟨AA2, nn2, rfl, hcc2, hmm2, hN2, HS2, hl2⟩ := Wk.own_sl HO2
        have lt2 := World.ownsRow.lt HO2
        have zz3 := ch3.size
        refine Wk.rPure 7 (some 36) (.pointer (some ⟨g, 2, none⟩)) rfl rfl (by kernel_rfl) (by kernel_rfl) ?_
        refine Wk.rPure 8 (some 37) (.pointer (some ⟨g, 2, none⟩)) rfl rfl (by kernel_rfl) (by kernel_rfl) ?_
        refine Wk.rExS 9 none _ rfl rfl (by kernel_rfl) (Wk.store1 26 (.tmp 37) (.tmp 35) rfl (by kernel_rfl) g 2 (by kernel_rfl) (.slice AA2 (yb.length + n) nn2) (by kernel_rfl) rfl 51 #[.slice Ax xb.length cx, .int .i64 ((xn : Nat) : Int), .slice Ay yb.length cy, .int .i64 ((yn : Nat) : Int)] (Wk.Chg.hp ch3 hp (Wk.off_blk (fun g hg => by have := lty g hg; omega))) (by simp)) ?_
        rintro W4 ⟨hb2, ch4⟩
        replace hb2 : W4.heap[g]? = some (.cells #[.slice Ax xb.length cx, .int .i64 ((xn : Nat) : Int), .slice AA2 (yb.length + n) nn2, .int .i64 ((yn : Nat) : Int)] 51 (0, 0)) := hb2
        have zz4 := ch4.size
        refine Wk.rEnd 10 rfl ?_
        refine Wk.nxt ?_
        refine wp_seq ?_
        refine Wk.reg ?_
        refine Wk.rPure 0 (some 6) (.int .i64 0) rfl rfl (by kernel_rfl) (by kernel_rfl) ?_
        refine Wk.rEnd 1 rfl ?_
        refine Wk.nxt ?_
        refine wp_ret ?_
        have he := Mur.app_fits (Dk.mk ⟨xb, xn⟩ ⟨yb, yn⟩) 1 l n hb.1 (by decide) (by show ¬ (n : Int) > 1048576 - (yb.length : Int); omega)
        rw [he.1, he.2]
        have hll := hb.1
        have kk4 : Wk.Chg (g :: Wk.blk (.slice Ay yb.length cy)) (w) W3 := Wk.Chg.step ((Wk.Chg.refl _).more (by simp)) ch3 (Mur.newOr_iff.2 (fun t ht => .inl (by simp [ht])))
        have kk5 := Wk.Chg.step kk4 ch4 ⟨.inl (by simp), trivial⟩
        obtain ⟨kk6, hcF, hnF⟩ := Mur.Dsk.sety hD ⟨yb ++ l, yn⟩ kk5 hb2 (by rw [Mur.b8s_append, List.length_append, hll]; exact (Wk.own_chg HO2 ch4 (fun g e _ _ => ⟨by have := lt2 g e; omega, trivial⟩))) (Mur.own_new ha2 (by omega)) (by simp only [Fil.ok, List.length_append]; omega)
        refine Wk.ret (.int .i64 0) rfl (by kernel_rfl) ?_
        exact ⟨_, rfl, ⟨⟨_, _, kk6, rfl⟩⟩, hcF, hnF⟩
  · refine calls_of_wp Try.func10 rfl ?_
    refine wp_seq ?_
    refine Wk.reg ?_
    refine Wk.rPure 0 (some 6) (.int .i64 0) rfl rfl (by kernel_rfl) (by kernel_rfl) ?_
    refine Wk.rEnd 1 rfl ?_
    refine Wk.nxt ?_
    refine wp_seq ?_
    refine wp_seq ?_
    refine Wk.reg ?_
    refine Wk.rPure 0 (some 9) (.pointer (some ⟨g, 0, none⟩)) rfl rfl (by kernel_rfl) (by kernel_rfl) ?_
    refine Wk.rPure 1 (some 10) (.int .i64 f) rfl rfl (by kernel_rfl) (by kernel_rfl) ?_
    refine Wk.rCall 2 (some 11) 20 [.tmp 9, .tmp 10] #[23, 3] [.pointer (some ⟨g, 0, none⟩), .int .i64 f] rfl rfl (by kernel_rfl) rfl (by kernel_rfl) (by kernel_rfl) ?_
    refine (asked_out g f w hf).mono ?_
    rintro _ _ ⟨rfl, rfl⟩
    refine ⟨_, rfl, ?_⟩
    refine Wk.rPure 3 (some 7) (.int .i64 2) rfl rfl (by kernel_rfl) (by kernel_rfl) ?_
    refine Wk.rEnd 4 rfl ?_
    refine Wk.nxt ?_
    refine wp_seq ?_
    refine Wk.reg ?_
    refine Wk.rPure 0 (some 12) (.int .i64 2) rfl rfl (by kernel_rfl) (by kernel_rfl) ?_
    refine Wk.rPure 1 (some 13) (.bool true) rfl rfl (by kernel_rfl) (Wk.boolT (b := ((2 : Int) != (0 : Int))) (bne_iff_ne.2 (by decide)) (by kernel_rfl)) ?_
    refine Wk.rEnd 2 rfl ?_
    refine Wk.nxt ?_
    refine wp_cond_true (by kernel_rfl) ?_
    refine wp_seq ?_
    refine Wk.reg ?_
    refine Wk.rPure 0 (some 14) (.int .i64 2) rfl rfl (by kernel_rfl) (by kernel_rfl) ?_
    refine Wk.rPure 1 (some 6) (.int .i64 2) rfl rfl (by kernel_rfl) (by kernel_rfl) ?_
    refine Wk.rEnd 2 rfl ?_
    refine Wk.nxt ?_
    refine wp_ret ?_
    refine Wk.thR ?_
    have he : (Dk.mk ⟨xb, xn⟩ ⟨yb, yn⟩).appE f n = 2 := by unfold Dk.appE; rw [if_neg hf]
    have hd : (Dk.mk ⟨xb, xn⟩ ⟨yb, yn⟩).app f l = Dk.mk ⟨xb, xn⟩ ⟨yb, yn⟩ := Mur.app_out _ _ _ hf
    rw [he, hd]
    refine Wk.ret (.int .i64 2) rfl (by kernel_rfl) ?_
    exact ⟨_, rfl, h, (Wk.Chg.refl _).more (by simp), Mur.newOr_iff.2 fun t ht => .inl ht⟩
theorem Sync_any (g : Nat) (d : Dk) (F : List Nat) (f : Int) (w : World) (h : DskF 5 51 w g d F) : Calls Try.prog 11 #[.pointer (some ⟨g, 0, none⟩), .int .i64 f] w fun e w' => ∃ F', e = .returned (.int .i64 (fE f)) ∧ DskF 5 51 w' g (d.sync f) F' ∧ Wk.Chg F w w' ∧ Wk.NewOr w.heap.size F F' := by
  obtain ⟨⟨xb, xn⟩, ⟨yb, yn⟩⟩ := d
  obtain ⟨vx, vy, hD, rfl⟩ := h.out
  have hkx := hD.kx
  have hky := hD.ky
  simp only [Fil.ok] at hkx hky
  obtain ⟨Ax, cx, rfl, hxc, hxm, hxN, hxS, hxl⟩ := Wk.own_sl hD.ox
  obtain ⟨Ay, cy, rfl, hyc, hym, hyN, hyS, hyl⟩ := Wk.own_sl hD.oy
  have ltx := World.ownsRow.lt hD.ox
  have lty := World.ownsRow.lt hD.oy
  have hgl := hD.lt
  have hp := hD.hp
  simp only at hp
  by_cases hf : hasF f
  · rcases hf with rfl | rfl
    · refine calls_of_wp Try.func11 rfl ?_
      refine wp_seq ?_
      refine Wk.reg ?_
      refine Wk.rPure 0 (some 4) (.int .i64 0) rfl rfl (by kernel_rfl) (by kernel_rfl) ?_
      refine Wk.rEnd 1 rfl ?_
      refine Wk.nxt ?_
      refine wp_seq ?_
      refine Wk.reg ?_
      refine Wk.rPure 0 (some 6) (.pointer (some ⟨g, 0, none⟩)) rfl rfl (by kernel_rfl) (by kernel_rfl) ?_
      refine Wk.rPure 1 (some 7) (.int .i64 0) rfl rfl (by kernel_rfl) (by kernel_rfl) ?_
      refine Wk.rCall 2 (some 8) 20 [.tmp 6, .tmp 7] #[23, 3] [.pointer (some ⟨g, 0, none⟩), .int .i64 0] rfl rfl (by kernel_rfl) rfl (by kernel_rfl) (by kernel_rfl) ?_
      refine (asked_in g 0 w (by decide)).mono ?_
      rintro _ _ ⟨rfl, rfl⟩
      refine ⟨_, rfl, ?_⟩
      refine Wk.rPure 3 (some 5) (.int .i64 0) rfl rfl (by kernel_rfl) (by kernel_rfl) ?_
      refine Wk.rEnd 4 rfl ?_
      refine Wk.nxt ?_
      refine wp_seq ?_
      refine wp_seq ?_
      refine Wk.reg ?_
      refine Wk.rPure 0 (some 9) (.int .i64 0) rfl rfl (by kernel_rfl) (by kernel_rfl) ?_
      refine Wk.rPure 1 (some 10) (.bool true) rfl rfl (by kernel_rfl) (Wk.boolT (b := ((0 : Int) == (0 : Int))) (beq_iff_eq.2 (by decide)) (by kernel_rfl)) ?_
      refine Wk.rEnd 2 rfl ?_
      refine Wk.nxt ?_
      refine wp_cond_true (by kernel_rfl) ?_
      refine Wk.dReg [g] (by kernel_rfl) ?_
      intro W1 ch1 sz1
      have zz1 := ch1.size
      have sS1 : Wk.Chg [g] W1 W1 := (Wk.Chg.refl _).more (by simp)
      refine Wk.dVal 0 (some 11) (.pointer (some ⟨g, 0, none⟩)) rfl rfl (by kernel_rfl) (by kernel_rfl) (by kernel_rfl) (fun _ _ _ h => h) (by kernel_rfl) (fun w' hw' => by kernel_rfl) sS1 ?_
      refine Wk.dVal 1 (some 12) (.int .i64 0) rfl rfl (by kernel_rfl) (by kernel_rfl) (by kernel_rfl) (fun _ _ _ h => h) (by kernel_rfl) (fun w' hw' => by kernel_rfl) sS1 ?_
      refine Wk.dVal 2 (some 13) (.pointer (some ⟨g, 0, none⟩)) rfl rfl (by kernel_rfl) (by kernel_rfl) (by kernel_rfl) (fun _ _ _ h => h) (by kernel_rfl) (fun w' hw' => by kernel_rfl) sS1 ?_
      refine Wk.dVal 3 (some 14) (.int .i64 0) rfl rfl (by kernel_rfl) (by kernel_rfl) (by kernel_rfl) (fun _ _ _ h => h) (by kernel_rfl) (fun w' hw' => by kernel_rfl) sS1 ?_
      refine Wk.dVal 4 (some 15) (.pointer (some ⟨g, 0, none⟩)) rfl rfl (by kernel_rfl) (by kernel_rfl) (by kernel_rfl) (fun _ _ _ h => h) (by kernel_rfl) (fun w' hw' => by kernel_rfl) sS1 ?_
      refine Wk.dVal 5 (some 16) (.pointer (some ⟨g, 0, none⟩)) rfl rfl (by kernel_rfl) (by kernel_rfl) (by kernel_rfl) (fun _ _ _ h => h) (by kernel_rfl) (fun w' hw' => by kernel_rfl) sS1 ?_
      refine Wk.dVal 6 (some 17) (.pointer (some ⟨g, 0, none⟩)) rfl rfl (by kernel_rfl) (by kernel_rfl) (by kernel_rfl) (fun _ _ _ h => h) (by kernel_rfl) (fun w' hw' => (Wk.index_arr 49 48 (.tmp 16) (.tmp 14) rfl 2 Try.underlying49 2 (by kernel_rfl) g 0 0 .i64 (by kernel_rfl) (by kernel_rfl) (by decide))) sS1 ?_
      refine Wk.dVal 7 (some 18) (.pointer (some ⟨g, 0, none⟩)) rfl rfl (by kernel_rfl) (by kernel_rfl) (by kernel_rfl) (fun _ _ _ h => h) (by kernel_rfl) (fun w' hw' => by kernel_rfl) sS1 ?_
      refine Wk.dVal 10 (some 21) (.pointer (some ⟨g, 0, none⟩)) rfl rfl (by kernel_rfl) (by kernel_rfl) (by kernel_rfl) (fun _ _ _ h => h) (by kernel_rfl) (fun w' hw' => by kernel_rfl) sS1 ?_
      refine Wk.dVal 11 (some 22) (.pointer (some ⟨g, 0, none⟩)) rfl rfl (by kernel_rfl) (by kernel_rfl) (by kernel_rfl) (fun _ _ _ h => h) (by kernel_rfl) (fun w' hw' => by kernel_rfl) sS1 ?_
      refine Wk.dOp 8 (by kernel_rfl) ?_
      refine Wk.oVal (some 19) (.slice Ax xb.length cx) rfl rfl (by kernel_rfl) (Wk.load1 26 (.tmp 18) rfl (by kernel_rfl) ⟨g, 0, none⟩ (by kernel_rfl) (.slice Ax xb.length cx) ((cell_of_row _ _ 0 _ _ _ (Wk.Chg.hp ch1 hp trivial)).trans rfl)) ?_
      refine ⟨sS1, ?_⟩
      refine Wk.dVal 9 (some 20) (.int .i64 ((xb.length : Nat) : Int)) rfl rfl (by kernel_rfl) (by kernel_rfl) (by kernel_rfl) (fun _ _ _ h => h) (by kernel_rfl) (fun w' hw' => by kernel_rfl) sS1 ?_
      refine Wk.dVal 12 (some 23) (.pointer (some ⟨g, 0, none⟩)) rfl rfl (by kernel_rfl) (by kernel_rfl) (by kernel_rfl) (fun _ _ _ h => h) (by kernel_rfl) (fun w' hw' => (Wk.index_arr 49 48 (.tmp 22) (.tmp 12) rfl 2 Try.underlying49 2 (by kernel_rfl) g 0 0 .i64 (by kernel_rfl) (by kernel_rfl) (by decide))) sS1 ?_
      refine Wk.dVal 13 (some 24) (.pointer (some ⟨g, 1, none⟩)) rfl rfl (by kernel_rfl) (by kernel_rfl) (by kernel_rfl) (fun _ _ _ h => h) (by kernel_rfl) (fun w' hw' => by kernel_rfl) sS1 ?_
      refine Wk.dOp 14 (by kernel_rfl) ?_
      refine Wk.oExS none _ rfl rfl (by kernel_rfl) (Wk.store1 3 (.tmp 24) (.tmp 20) rfl (by kernel_rfl) g 1 (by kernel_rfl) (.int .i64 ((xb.length : Nat) : Int)) (by kernel_rfl) rfl 51 #[.slice Ax xb.length cx, .int .i64 ((xn : Nat) : Int), .slice Ay yb.length cy, .int .i64 ((yn : Nat) : Int)] (Wk.Chg.hp ch1 hp trivial) (by simp)) ?_
      rintro W2 ⟨hb1, ch2⟩
      replace hb1 : W2.heap[g]? = some (.cells #[.slice Ax xb.length cx, .int .i64 ((xb.length : Nat) : Int), .slice Ay yb.length cy, .int .i64 ((yn : Nat) : Int)] 51 (0, 0)) := hb1
      have zz2 := ch2.size
      have sS2 := Wk.Chg.step sS1 ch2 ⟨.inl (by simp), trivial⟩
      refine ⟨sS2, ?_⟩
      refine Wk.dEnd (by kernel_rfl) ?_
      refine Wk.nxt ?_
      refine wp_seq ?_
      refine Wk.reg ?_
      refine Wk.rPure 0 (some 25) (.int .i64 0) rfl rfl (by kernel_rfl) (by kernel_rfl) ?_
      refine Wk.rPure 1 (some 4) (.int .i64 0) rfl rfl (by kernel_rfl) (by kernel_rfl) ?_
      refine Wk.rEnd 2 rfl ?_
      refine Wk.nxt ?_
      refine wp_ret ?_
      have kk1 : Wk.Chg (g :: Wk.blk (.slice Ax xb.length cx)) (w) W1 := Wk.Chg.step ((Wk.Chg.refl _).more (by simp)) ch1 trivial
      have kk2 := Wk.Chg.step kk1 ch2 ⟨.inl (by simp), trivial⟩
      obtain ⟨kk3, hcF, hnF⟩ := Mur.Dsk.setx hD ⟨xb, xb.length⟩ kk2 hb1 (Wk.own_chg (Wk.own_chg hD.ox ch1 (fun g e _ _ => trivial)) ch2 (fun g e _ _ => ⟨by have := ltx g e; omega, trivial⟩)) (.inl rfl) (by simp only [Fil.ok]; omega)
      refine Wk.ret (.int .i64 0) rfl (by kernel_rfl) ?_
      exact ⟨_, rfl, ⟨⟨_, _, kk3, rfl⟩⟩, hcF, hnF⟩
    · refine calls_of_wp Try.func11 rfl ?_
      refine wp_seq ?_
      refine Wk.reg ?_
      refine Wk.rPure 0 (some 4) (.int .i64 0) rfl rfl (by kernel_rfl) (by kernel_rfl) ?_
      refine Wk.rEnd 1 rfl ?_
      refine Wk.nxt ?_
      refine wp_seq ?_
      refine Wk.reg ?_
      refine Wk.rPure 0 (some 6) (.pointer (some ⟨g, 0, none⟩)) rfl rfl (by kernel_rfl) (by kernel_rfl) ?_
      refine Wk.rPure 1 (some 7) (.int .i64 1) rfl rfl (by kernel_rfl) (by kernel_rfl) ?_
      refine Wk.rCall 2 (some 8) 20 [.tmp 6, .tmp 7] #[23, 3] [.pointer (some ⟨g, 0, none⟩), .int .i64 1] rfl rfl (by kernel_rfl) rfl (by kernel_rfl) (by kernel_rfl) ?_
      refine (asked_in g 1 w (by decide)).mono ?_
      rintro _ _ ⟨rfl, rfl⟩
      refine ⟨_, rfl, ?_⟩
      refine Wk.rPure 3 (some 5) (.int .i64 0) rfl rfl (by kernel_rfl) (by kernel_rfl) ?_
      refine Wk.rEnd 4 rfl ?_
      refine Wk.nxt ?_
      refine wp_seq ?_
      refine wp_seq ?_
      refine Wk.reg ?_
      refine Wk.rPure 0 (some 9) (.int .i64 0) rfl rfl (by kernel_rfl) (by kernel_rfl) ?_
      refine Wk.rPure 1 (some 10) (.bool true) rfl rfl (by kernel_rfl) (Wk.boolT (b := ((0 : Int) == (0 : Int))) (beq_iff_eq.2 (by decide)) (by kernel_rfl)) ?_
      refine Wk.rEnd 2 rfl ?_
      refine Wk.nxt ?_
      refine wp_cond_true (by kernel_rfl) ?_
      refine Wk.dReg [g] (by kernel_rfl) ?_
      intro W3 ch3 sz2
      have zz3 := ch3.size
      have sS3 : Wk.Chg [g] W3 W3 := (Wk.Chg.refl _).more (by simp)
      refine Wk.dVal 0 (some 11) (.pointer (some ⟨g, 0, none⟩)) rfl rfl (by kernel_rfl) (by kernel_rfl) (by kernel_rfl) (fun _ _ _ h => h) (by kernel_rfl) (fun w' hw' => by kernel_rfl) sS3 ?_
      refine Wk.dVal 1 (some 12) (.int .i64 1) rfl rfl (by kernel_rfl) (by kernel_rfl) (by kernel_rfl) (fun _ _ _ h => h) (by kernel_rfl) (fun w' hw' => by kernel_rfl) sS3 ?_
      refine Wk.dVal 2 (some 13) (.pointer (some ⟨g, 0, none⟩)) rfl rfl (by kernel_rfl) (by kernel_rfl) (by kernel_rfl) (fun _ _ _ h => h) (by kernel_rfl) (fun w' hw' => by kernel_rfl) sS3 ?_
      refine Wk.dVal 3 (some 14) (.int .i64 1) rfl rfl (by kernel_rfl) (by kernel_rfl) (by kernel_rfl) (fun _ _ _ h => h) (by kernel_rfl) (fun w' hw' => by kernel_rfl) sS3 ?_
      refine Wk.dVal 4 (some 15) (.pointer (some ⟨g, 0, none⟩)) rfl rfl (by kernel_rfl) (by kernel_rfl) (by kernel_rfl) (fun _ _ _ h => h) (by kernel_rfl) (fun w' hw' => by kernel_rfl) sS3 ?_
      refine Wk.dVal 5 (some 16) (.pointer (some ⟨g, 0, none⟩)) rfl rfl (by kernel_rfl) (by kernel_rfl) (by kernel_rfl) (fun _ _ _ h => h) (by kernel_rfl) (fun w' hw' => by kernel_rfl) sS3 ?_
      refine Wk.dVal 6 (some 17) (.pointer (some ⟨g, 2, none⟩)) rfl rfl (by kernel_rfl) (by kernel_rfl) (by kernel_rfl) (fun _ _ _ h => h) (by kernel_rfl) (fun w' hw' => (Wk.index_arr 49 48 (.tmp 16) (.tmp 14) rfl 2 Try.underlying49 2 (by kernel_rfl) g 0 1 .i64 (by kernel_rfl) (by kernel_rfl) (by decide))) sS3 ?_
      refine Wk.dVal 7 (some 18) (.pointer (some ⟨g, 2, none⟩)) rfl rfl (by kernel_rfl) (by kernel_rfl) (by kernel_rfl) (fun _ _ _ h => h) (by kernel_rfl) (fun w' hw' => by kernel_rfl) sS3 ?_
      refine Wk.dVal 10 (some 21) (.pointer (some ⟨g, 0, none⟩)) rfl rfl (by kernel_rfl) (by kernel_rfl) (by kernel_rfl) (fun _ _ _ h => h) (by kernel_rfl) (fun w' hw' => by kernel_rfl) sS3 ?_
      refine Wk.dVal 11 (some 22) (.pointer (some ⟨g, 0, none⟩)) rfl rfl (by kernel_rfl) (by kernel_rfl) (by kernel_rfl) (fun _ _ _ h => h) (by kernel_rfl) (fun w' hw' => by kernel_rfl) sS3 ?_
      refine Wk.dOp 8 (by kernel_rfl) ?_
      refine Wk.oVal (some 19) (.slice Ay yb.length cy) rfl rfl (by kernel_rfl) (Wk.load1 26 (.tmp 18) rfl (by kernel_rfl) ⟨g, 2, none⟩ (by kernel_rfl) (.slice Ay yb.length cy) ((cell_of_row _ _ 2 _ _ _ (Wk.Chg.hp ch3 hp trivial)).trans rfl)) ?_
      refine ⟨sS3, ?_⟩
      refine Wk.dVal 9 (some 20) (.int .i64 ((yb.length : Nat) : Int)) rfl rfl (by kernel_rfl) (by kernel_rfl) (by kernel_rfl) (fun _ _ _ h => h) (by kernel_rfl) (fun w' hw' => by kernel_rfl) sS3 ?_
      refine Wk.dVal 12 (some 23) (.pointer (some ⟨g, 2, none⟩)) rfl rfl (by kernel_rfl) (by kernel_rfl) (by kernel_rfl) (fun _ _ _ h => h) (by kernel_rfl) (fun w' hw' => (Wk.index_arr 49 48 (.tmp 22) (.tmp 12) rfl 2 Try.underlying49 2 (by kernel_rfl) g 0 1 .i64 (by kernel_rfl) (by kernel_rfl) (by decide))) sS3 ?_
      refine Wk.dVal 13 (some 24) (.pointer (some ⟨g, 3, none⟩)) rfl rfl (by kernel_rfl) (by kernel_rfl) (by kernel_rfl) (fun _ _ _ h => h) (by kernel_rfl) (fun w' hw' => by kernel_rfl) sS3 ?_
      refine Wk.dOp 14 (by kernel_rfl) ?_
      refine Wk.oExS none _ rfl rfl (by kernel_rfl) (Wk.store1 3 (.tmp 24) (.tmp 20) rfl (by kernel_rfl) g 3 (by kernel_rfl) (.int .i64 ((yb.length : Nat) : Int)) (by kernel_rfl) rfl 51 #[.slice Ax xb.length cx, .int .i64 ((xn : Nat) : Int), .slice Ay yb.length cy, .int .i64 ((yn : Nat) : Int)] (Wk.Chg.hp ch3 hp trivial) (by simp)) ?_
      rintro W4 ⟨hb2, ch4⟩
      replace hb2 : W4.heap[g]? = some (.cells #[.slice Ax xb.length cx, .int .i64 ((xn : Nat) : Int), .slice Ay yb.length cy, .int .i64 ((yb.length : Nat) : Int)] 51 (0, 0)) := hb2
      have zz4 := ch4.size
      have sS4 := Wk.Chg.step sS3 ch4 ⟨.inl (by simp), trivial⟩
      refine ⟨sS4, ?_⟩
      refine Wk.dEnd (by kernel_rfl) ?_
      refine Wk.nxt ?_
      refine wp_seq ?_
      refine Wk.reg ?_
      refine Wk.rPure 0 (some 25) (.int .i64 0) rfl rfl (by kernel_rfl) (by kernel_rfl) ?_
      refine Wk.rPure 1 (some 4) (.int .i64 0) rfl rfl (by kernel_rfl) (by kernel_rfl) ?_
      refine Wk.rEnd 2 rfl ?_
      refine Wk.nxt ?_
      refine wp_ret ?_
      have kk4 : Wk.Chg (g :: Wk.blk (.slice Ay yb.length cy)) (w) W3 := Wk.Chg.step ((Wk.Chg.refl _).more (by simp)) ch3 trivial
      have kk5 := Wk.Chg.step kk4 ch4 ⟨.inl (by simp), trivial⟩
      obtain ⟨kk6, hcF, hnF⟩ := Mur.Dsk.sety hD ⟨yb, yb.length⟩ kk5 hb2 (Wk.own_chg (Wk.own_chg hD.oy ch3 (fun g e _ _ => trivial)) ch4 (fun g e _ _ => ⟨by have := lty g e; omega, trivial⟩)) (.inl rfl) (by simp only [Fil.ok]; omega)
      refine Wk.ret (.int .i64 0) rfl (by kernel_rfl) ?_
      exact ⟨_, rfl, ⟨⟨_, _, kk6, rfl⟩⟩, hcF, hnF⟩
  · refine calls_of_wp Try.func11 rfl ?_
    refine wp_seq ?_
    refine Wk.reg ?_
    refine Wk.rPure 0 (some 4) (.int .i64 0) rfl rfl (by kernel_rfl) (by kernel_rfl) ?_
    refine Wk.rEnd 1 rfl ?_
    refine Wk.nxt ?_
    refine wp_seq ?_
    refine Wk.reg ?_
    refine Wk.rPure 0 (some 6) (.pointer (some ⟨g, 0, none⟩)) rfl rfl (by kernel_rfl) (by kernel_rfl) ?_
    refine Wk.rPure 1 (some 7) (.int .i64 f) rfl rfl (by kernel_rfl) (by kernel_rfl) ?_
    refine Wk.rCall 2 (some 8) 20 [.tmp 6, .tmp 7] #[23, 3] [.pointer (some ⟨g, 0, none⟩), .int .i64 f] rfl rfl (by kernel_rfl) rfl (by kernel_rfl) (by kernel_rfl) ?_
    refine (asked_out g f w hf).mono ?_
    rintro _ _ ⟨rfl, rfl⟩
    refine ⟨_, rfl, ?_⟩
    refine Wk.rPure 3 (some 5) (.int .i64 2) rfl rfl (by kernel_rfl) (by kernel_rfl) ?_
    refine Wk.rEnd 4 rfl ?_
    refine Wk.nxt ?_
    refine wp_seq ?_
    refine wp_seq ?_
    refine Wk.reg ?_
    refine Wk.rPure 0 (some 9) (.int .i64 2) rfl rfl (by kernel_rfl) (by kernel_rfl) ?_
    refine Wk.rPure 1 (some 10) (.bool false) rfl rfl (by kernel_rfl) (Wk.boolF (b := ((2 : Int) == (0 : Int))) (beq_eq_false_iff_ne.2 (by decide)) (by kernel_rfl)) ?_
    refine Wk.rEnd 2 rfl ?_
    refine Wk.nxt ?_
    refine wp_cond_false (by kernel_rfl) ?_
    refine wp_skip ?_
    refine Wk.nxt ?_
    refine wp_seq ?_
    refine Wk.reg ?_
    refine Wk.rPure 0 (some 25) (.int .i64 2) rfl rfl (by kernel_rfl) (by kernel_rfl) ?_
    refine Wk.rPure 1 (some 4) (.int .i64 2) rfl rfl (by kernel_rfl) (by kernel_rfl) ?_
    refine Wk.rEnd 2 rfl ?_
    refine Wk.nxt ?_
    refine wp_ret ?_
    have hd : (Dk.mk ⟨xb, xn⟩ ⟨yb, yn⟩).sync f = Dk.mk ⟨xb, xn⟩ ⟨yb, yn⟩ := Mur.put_out _ _ _ hf
    rw [hd, show fE f = 2 from if_neg hf]
    refine Wk.ret (.int .i64 2) rfl (by kernel_rfl) ?_
    exact ⟨_, rfl, h, (Wk.Chg.refl _).more (by simp), Mur.newOr_iff.2 fun t ht => .inl ht⟩
theorem Clear_any (g : Nat) (d : Dk) (F : List Nat) (f : Int) (w : World) (h : DskF 5 51 w g d F) : Calls Try.prog 12 #[.pointer (some ⟨g, 0, none⟩), .int .i64 f] w fun e w' => ∃ F', e = .returned (.int .i64 (fE f)) ∧ DskF 5 51 w' g (d.clear f) F' ∧ Wk.Chg F w w' ∧ Wk.NewOr w.heap.size F F' := by
  obtain ⟨⟨xb, xn⟩, ⟨yb, yn⟩⟩ := d
  obtain ⟨vx, vy, hD, rfl⟩ := h.out
  have hkx := hD.kx
  have hky := hD.ky
  simp only [Fil.ok] at hkx hky
  obtain ⟨Ax, cx, rfl, hxc, hxm, hxN, hxS, hxl⟩ := Wk.own_sl hD.ox
  obtain ⟨Ay, cy, rfl, hyc, hym, hyN, hyS, hyl⟩ := Wk.own_sl hD.oy
  have ltx := World.ownsRow.lt hD.ox
  have lty := World.ownsRow.lt hD.oy
  have hgl := hD.lt
  have hp := hD.hp
  simp only at hp
  by_cases hf : hasF f
  · rcases hf with rfl | rfl
    · refine calls_of_wp Try.func12 rfl ?_
      refine wp_seq ?_
      refine Wk.reg ?_
      refine Wk.rPure 0 (some 4) (.int .i64 0) rfl rfl (by kernel_rfl) (by kernel_rfl) ?_
      refine Wk.rEnd 1 rfl ?_
      refine Wk.nxt ?_
      refine wp_seq ?_
      refine Wk.reg ?_
      refine Wk.rPure 0 (some 6) (.pointer (some ⟨g, 0, none⟩)) rfl rfl (by kernel_rfl) (by kernel_rfl) ?_
      refine Wk.rPure 1 (some 7) (.int .i64 0) rfl rfl (by kernel_rfl) (by kernel_rfl) ?_
      refine Wk.rCall 2 (some 8) 20 [.tmp 6, .tmp 7] #[23, 3] [.pointer (some ⟨g, 0, none⟩), .int .i64 0] rfl rfl (by kernel_rfl) rfl (by kernel_rfl) (by kernel_rfl) ?_
      refine (asked_in g 0 w (by decide)).mono ?_
      rintro _ _ ⟨rfl, rfl⟩
      refine ⟨_, rfl, ?_⟩
      refine Wk.rPure 3 (some 5) (.int .i64 0) rfl rfl (by kernel_rfl) (by kernel_rfl) ?_
      refine Wk.rEnd 4 rfl ?_
      refine Wk.nxt ?_
      refine wp_seq ?_
      refine wp_seq ?_
      refine Wk.reg ?_
      refine Wk.rPure 0 (some 9) (.int .i64 0) rfl rfl (by kernel_rfl) (by kernel_rfl) ?_
      refine Wk.rPure 1 (some 10) (.bool true) rfl rfl (by kernel_rfl) (Wk.boolT (b := ((0 : Int) == (0 : Int))) (beq_iff_eq.2 (by decide)) (by kernel_rfl)) ?_
      refine Wk.rEnd 2 rfl ?_
      refine Wk.nxt ?_
      refine wp_cond_true (by kernel_rfl) ?_
      refine Wk.reg ?_
      refine Wk.rPure 0 (some 11) (.pointer (some ⟨g, 0, none⟩)) rfl rfl (by kernel_rfl) (by kernel_rfl) ?_
      refine Wk.rPure 1 (some 12) (.int .i64 0) rfl rfl (by kernel_rfl) (by kernel_rfl) ?_
      refine Wk.rPure 2 (some 13) (.agg #[.slice none 0 0, .int .i64 0]) rfl rfl (by kernel_rfl) (by kernel_rfl) ?_
      refine Wk.rPure 3 (some 14) (.pointer (some ⟨g, 0, none⟩)) rfl rfl (by kernel_rfl) (by kernel_rfl) ?_
      refine Wk.rPure 4 (some 15) (.pointer (some ⟨g, 0, none⟩)) rfl rfl (by kernel_rfl) (by kernel_rfl) ?_
      refine Wk.rPure 5 (some 16) (.pointer (some ⟨g, 0, none⟩)) rfl rfl (by kernel_rfl) (Wk.index_arr 49 48 (.tmp 15) (.tmp 12) rfl 2 Try.underlying49 2 (by kernel_rfl) g 0 0 .i64 (by kernel_rfl) (by kernel_rfl) (by decide)) ?_
      refine Wk.rExS 6 none _ rfl rfl (by kernel_rfl) (Wk.storeR 48 (.tmp 16) (.tmp 13) rfl g 0 (by kernel_rfl) ([.slice none 0 0, .int .i64 0]) (by kernel_rfl) (by kernel_rfl) (by intro v hv; simp at hv; rcases hv with h | h <;> (subst h; rfl)) 51 ([.slice Ax xb.length cx, .int .i64 ((xn : Nat) : Int), .slice Ay yb.length cy, .int .i64 ((yn : Nat) : Int)]) hp (by simp)) ?_
      rintro W1 ⟨hb1, ch1⟩
      replace hb1 : W1.heap[g]? = some (.cells #[.slice none 0 0, .int .i64 0, .slice Ay yb.length cy, .int .i64 ((yn : Nat) : Int)] 51 (0, 0)) := hb1
      have zz1 := ch1.size
      refine Wk.rEnd 7 rfl ?_
      refine Wk.nxt ?_
      refine wp_seq ?_
      refine Wk.reg ?_
      refine Wk.rPure 0 (some 17) (.int .i64 0) rfl rfl (by kernel_rfl) (by kernel_rfl) ?_
      refine Wk.rPure 1 (some 4) (.int .i64 0) rfl rfl (by kernel_rfl) (by kernel_rfl) ?_
      refine Wk.rEnd 2 rfl ?_
      refine Wk.nxt ?_
      refine wp_ret ?_
      have kk1 : Wk.Chg (g :: Wk.blk (.slice Ax xb.length cx)) (w) W1 := Wk.Chg.step ((Wk.Chg.refl _).more (by simp)) ch1 ⟨.inl (by simp), trivial⟩
      obtain ⟨kk2, hcF, hnF⟩ := Mur.Dsk.setx hD ⟨[], 0⟩ kk1 hb1 (Mur.own_nil _ _ _) (.inr (fun k hk => by cases hk)) ⟨Nat.le_refl _, Nat.zero_le _⟩
      refine Wk.ret (.int .i64 0) rfl (by kernel_rfl) ?_
      exact ⟨_, rfl, ⟨⟨_, _, kk2, rfl⟩⟩, hcF, hnF⟩
    · refine calls_of_wp Try.func12 rfl ?_
      refine wp_seq ?_
      refine Wk.reg ?_
      refine Wk.rPure 0 (some 4) (.int .i64 0) rfl rfl (by kernel_rfl) (by kernel_rfl) ?_
      refine Wk.rEnd 1 rfl ?_
      refine Wk.nxt ?_
      refine wp_seq ?_
      refine Wk.reg ?_
      refine Wk.rPure 0 (some 6) (.pointer (some ⟨g, 0, none⟩)) rfl rfl (by kernel_rfl) (by kernel_rfl) ?_
      refine Wk.rPure 1 (some 7) (.int .i64 1) rfl rfl (by kernel_rfl) (by kernel_rfl) ?_
      refine Wk.rCall 2 (some 8) 20 [.tmp 6, .tmp 7] #[23, 3] [.pointer (some ⟨g, 0, none⟩), .int .i64 1] rfl rfl (by kernel_rfl) rfl (by kernel_rfl) (by kernel_rfl) ?_
      refine (asked_in g 1 w (by decide)).mono ?_
      rintro _ _ ⟨rfl, rfl⟩
      refine ⟨_, rfl, ?_⟩
      refine Wk.rPure 3 (some 5) (.int .i64 0) rfl rfl (by kernel_rfl) (by kernel_rfl) ?_
      refine Wk.rEnd 4 rfl ?_
      refine Wk.nxt ?_
      refine wp_seq ?_
      refine wp_seq ?_
      refine Wk.reg ?_
      refine Wk.rPure 0 (some 9) (.int .i64 0) rfl rfl (by kernel_rfl) (by kernel_rfl) ?_
      refine Wk.rPure 1 (some 10) (.bool true) rfl rfl (by kernel_rfl) (Wk.boolT (b := ((0 : Int) == (0 : Int))) (beq_iff_eq.2 (by decide)) (by kernel_rfl)) ?_
      refine Wk.rEnd 2 rfl ?_
      refine Wk.nxt ?_
      refine wp_cond_true (by kernel_rfl) ?_
      refine Wk.reg ?_
      refine Wk.rPure 0 (some 11) (.pointer (some ⟨g, 0, none⟩)) rfl rfl (by kernel_rfl) (by kernel_rfl) ?_
      refine Wk.rPure 1 (some 12) (.int .i64 1) rfl rfl (by kernel_rfl) (by kernel_rfl) ?_
      refine Wk.rPure 2 (some 13) (.agg #[.slice none 0 0, .int .i64 0]) rfl rfl (by kernel_rfl) (by kernel_rfl) ?_
      refine Wk.rPure 3 (some 14) (.pointer (some ⟨g, 0, none⟩)) rfl rfl (by kernel_rfl) (by kernel_rfl) ?_
      refine Wk.rPure 4 (some 15) (.pointer (some ⟨g, 0, none⟩)) rfl rfl (by kernel_rfl) (by kernel_rfl) ?_
      refine Wk.rPure 5 (some 16) (.pointer (some ⟨g, 2, none⟩)) rfl rfl (by kernel_rfl) (Wk.index_arr 49 48 (.tmp 15) (.tmp 12) rfl 2 Try.underlying49 2 (by kernel_rfl) g 0 1 .i64 (by kernel_rfl) (by kernel_rfl) (by decide)) ?_
      refine Wk.rExS 6 none _ rfl rfl (by kernel_rfl) (Wk.storeR 48 (.tmp 16) (.tmp 13) rfl g 2 (by kernel_rfl) ([.slice none 0 0, .int .i64 0]) (by kernel_rfl) (by kernel_rfl) (by intro v hv; simp at hv; rcases hv with h | h <;> (subst h; rfl)) 51 ([.slice Ax xb.length cx, .int .i64 ((xn : Nat) : Int), .slice Ay yb.length cy, .int .i64 ((yn : Nat) : Int)]) hp (by simp)) ?_
      rintro W2 ⟨hb2, ch2⟩
      replace hb2 : W2.heap[g]? = some (.cells #[.slice Ax xb.length cx, .int .i64 ((xn : Nat) : Int), .slice none 0 0, .int .i64 0] 51 (0, 0)) := hb2
      have zz2 := ch2.size
      refine Wk.rEnd 7 rfl ?_
      refine Wk.nxt ?_
      refine wp_seq ?_
      refine Wk.reg ?_
      refine Wk.rPure 0 (some 17) (.int .i64 0) rfl rfl (by kernel_rfl) (by kernel_rfl) ?_
      refine Wk.rPure 1 (some 4) (.int .i64 0) rfl rfl (by kernel_rfl) (by kernel_rfl) ?_
      refine Wk.rEnd 2 rfl ?_
      refine Wk.nxt ?_
      refine wp_ret ?_
      have kk3 : Wk.Chg (g :: Wk.blk (.slice Ay yb.length cy)) (w) W2 := Wk.Chg.step ((Wk.Chg.refl _).more (by simp)) ch2 ⟨.inl (by simp), trivial⟩
      obtain ⟨kk4, hcF, hnF⟩ := Mur.Dsk.sety hD ⟨[], 0⟩ kk3 hb2 (Mur.own_nil _ _ _) (.inr (fun k hk => by cases hk)) ⟨Nat.le_refl _, Nat.zero_le _⟩
      refine Wk.ret (.int .i64 0) rfl (by kernel_rfl) ?_
      exact ⟨_, rfl, ⟨⟨_, _, kk4, rfl⟩⟩, hcF, hnF⟩
  · refine calls_of_wp Try.func12 rfl ?_
    refine wp_seq ?_
    refine Wk.reg ?_
    refine Wk.rPure 0 (some 4) (.int .i64 0) rfl rfl (by kernel_rfl) (by kernel_rfl) ?_
    refine Wk.rEnd 1 rfl ?_
    refine Wk.nxt ?_
    refine wp_seq ?_
    refine Wk.reg ?_
    refine Wk.rPure 0 (some 6) (.pointer (some ⟨g, 0, none⟩)) rfl rfl (by kernel_rfl) (by kernel_rfl) ?_
    refine Wk.rPure 1 (some 7) (.int .i64 f) rfl rfl (by kernel_rfl) (by kernel_rfl) ?_
    refine Wk.rCall 2 (some 8) 20 [.tmp 6, .tmp 7] #[23, 3] [.pointer (some ⟨g, 0, none⟩), .int .i64 f] rfl rfl (by kernel_rfl) rfl (by kernel_rfl) (by kernel_rfl) ?_
    refine (asked_out g f w hf).mono ?_
    rintro _ _ ⟨rfl, rfl⟩
    refine ⟨_, rfl, ?_⟩
    refine Wk.rPure 3 (some 5) (.int .i64 2) rfl rfl (by kernel_rfl) (by kernel_rfl) ?_
    refine Wk.rEnd 4 rfl ?_
    refine Wk.nxt ?_
    refine wp_seq ?_
    refine wp_seq ?_
    refine Wk.reg ?_
    refine Wk.rPure 0 (some 9) (.int .i64 2) rfl rfl (by kernel_rfl) (by kernel_rfl) ?_
    refine Wk.rPure 1 (some 10) (.bool false) rfl rfl (by kernel_rfl) (Wk.boolF (b := ((2 : Int) == (0 : Int))) (beq_eq_false_iff_ne.2 (by decide)) (by kernel_rfl)) ?_
    refine Wk.rEnd 2 rfl ?_
    refine Wk.nxt ?_
    refine wp_cond_false (by kernel_rfl) ?_
    refine wp_skip ?_
    refine Wk.nxt ?_
    refine wp_seq ?_
    refine Wk.reg ?_
    refine Wk.rPure 0 (some 17) (.int .i64 2) rfl rfl (by kernel_rfl) (by kernel_rfl) ?_
    refine Wk.rPure 1 (some 4) (.int .i64 2) rfl rfl (by kernel_rfl) (by kernel_rfl) ?_
    refine Wk.rEnd 2 rfl ?_
    refine Wk.nxt ?_
    refine wp_ret ?_
    have hd : (Dk.mk ⟨xb, xn⟩ ⟨yb, yn⟩).clear f = Dk.mk ⟨xb, xn⟩ ⟨yb, yn⟩ := Mur.put_out _ _ _ hf
    rw [hd, show fE f = 2 from if_neg hf]
    refine Wk.ret (.int .i64 2) rfl (by kernel_rfl) ?_
    exact ⟨_, rfl, h, (Wk.Chg.refl _).more (by simp), Mur.newOr_iff.2 fun t ht => .inl ht⟩
theorem Bytes_any (g : Nat) (d : Dk) (F : List Nat) (f : Int) (w : World) (h : DskF 5 51 w g d F) : Calls Try.prog 13 #[.pointer (some ⟨g, 0, none⟩), .int .i64 f] w fun e w' => ∃ v, e = .returned v ∧ w'.ownsRow w.heap.size 5 1 v (d.bytes f).length (b8s (d.bytes f)) ∧ Wk.Chg [] w w' := by
  obtain ⟨⟨xb, xn⟩, ⟨yb, yn⟩⟩ := d
  obtain ⟨vx, vy, hD, rfl⟩ := h.out
  have hkx := hD.kx
  have hky := hD.ky
  simp only [Fil.ok] at hkx hky
  obtain ⟨Ax, cx, rfl, hxc, hxm, hxN, hxS, hxl⟩ := Wk.own_sl hD.ox
  obtain ⟨Ay, cy, rfl, hyc, hym, hyN, hyS, hyl⟩ := Wk.own_sl hD.oy
  have ltx := World.ownsRow.lt hD.ox
  have lty := World.ownsRow.lt hD.oy
  have hgl := hD.lt
  have hp := hD.hp
  simp only at hp
  by_cases hf : hasF f
  · rcases hf with rfl | rfl
    · obtain ⟨_, _, e_, _, _, hby0⟩ := Mur.own_byt hD.ox
      cases e_
      refine calls_of_wp Try.func13 rfl ?_
      refine wp_seq ?_
      refine Wk.reg ?_
      refine Wk.rPure 0 (some 4) (.slice none 0 0) rfl rfl (by kernel_rfl) (by kernel_rfl) ?_
      refine Wk.rEnd 1 rfl ?_
      refine Wk.nxt ?_
      refine wp_seq ?_
      refine wp_seq ?_
      refine Wk.reg ?_
      refine Wk.rPure 0 (some 5) (.pointer (some ⟨g, 0, none⟩)) rfl rfl (by kernel_rfl) (by kernel_rfl) ?_
      refine Wk.rPure 1 (some 6) (.int .i64 0) rfl rfl (by kernel_rfl) (by kernel_rfl) ?_
      refine Wk.rCall 2 (some 7) 20 [.tmp 5, .tmp 6] #[23, 3] [.pointer (some ⟨g, 0, none⟩), .int .i64 0] rfl rfl (by kernel_rfl) rfl (by kernel_rfl) (by kernel_rfl) ?_
      refine (asked_in g 0 w (by decide)).mono ?_
      rintro _ _ ⟨rfl, rfl⟩
      refine ⟨_, rfl, ?_⟩
      refine Wk.rPure 3 (some 8) (.bool false) rfl rfl (by kernel_rfl) (Wk.boolF (b := ((0 : Int) != (0 : Int))) (bne_eq_false_iff_eq.2 (by decide)) (by kernel_rfl)) ?_
      refine Wk.rEnd 4 rfl ?_
      refine Wk.nxt ?_
      refine wp_cond_false (by kernel_rfl) ?_
      refine wp_skip ?_
      refine Wk.nxt ?_
      refine wp_seq ?_
      refine Wk.reg ?_
      refine Wk.rPure 0 (some 9) (.pointer (some ⟨g, 0, none⟩)) rfl rfl (by kernel_rfl) (by kernel_rfl) ?_
      refine Wk.rPure 1 (some 10) (.int .i64 0) rfl rfl (by kernel_rfl) (by kernel_rfl) ?_
      refine Wk.rPure 2 (some 11) (.pointer (some ⟨g, 0, none⟩)) rfl rfl (by kernel_rfl) (by kernel_rfl) ?_
      refine Wk.rPure 3 (some 12) (.pointer (some ⟨g, 0, none⟩)) rfl rfl (by kernel_rfl) (by kernel_rfl) ?_
      refine Wk.rPure 4 (some 13) (.pointer (some ⟨g, 0, none⟩)) rfl rfl (by kernel_rfl) (Wk.index_arr 49 48 (.tmp 12) (.tmp 10) rfl 2 Try.underlying49 2 (by kernel_rfl) g 0 0 .i64 (by kernel_rfl) (by kernel_rfl) (by decide)) ?_
      refine Wk.rPure 5 (some 14) (.pointer (some ⟨g, 0, none⟩)) rfl rfl (by kernel_rfl) (by kernel_rfl) ?_
      refine Wk.rPure 6 (some 15) (.slice Ax xb.length cx) rfl rfl (by kernel_rfl) (Wk.load1 26 (.tmp 14) rfl (by kernel_rfl) ⟨g, 0, none⟩ (by kernel_rfl) (.slice Ax xb.length cx) ((cell_of_row _ _ 0 _ _ _ hp).trans rfl)) ?_
      refine Wk.rCall 7 (some 16) 21 [.tmp 15] #[26] [.slice Ax xb.length cx] rfl rfl (by kernel_rfl) rfl (by kernel_rfl) (by kernel_rfl) ?_
      refine (Clone_any Ax xb.length cx xb w hby0 hxc hxN (by omega)).mono ?_
      rintro _ W1 ⟨vv1, rfl, HO1, ch1⟩
      obtain ⟨AA1, nn1, rfl, hcc1, hmm1, hN1, HS1, hl1⟩ := Wk.own_sl HO1
      have zz1 := ch1.size
      have lt1 := World.ownsRow.lt HO1
      refine ⟨_, rfl, ?_⟩
      refine Wk.rPure 8 (some 4) (.slice AA1 xb.length nn1) rfl rfl (by kernel_rfl) (by kernel_rfl) ?_
      refine Wk.rEnd 9 rfl ?_
      refine Wk.nxt ?_
      refine wp_ret ?_
      have kk1 : Wk.Chg [] (w) W1 := Wk.Chg.step ((Wk.Chg.refl _).more (by simp)) ch1 trivial
      refine Wk.ret (.slice AA1 xb.length nn1) rfl (by kernel_rfl) ?_
      exact ⟨_, rfl, HO1, kk1⟩
    · obtain ⟨_, _, e_, _, _, hby1⟩ := Mur.own_byt hD.oy
      cases e_
      refine calls_of_wp Try.func13 rfl ?_
      refine wp_seq ?_
      refine Wk.reg ?_
      refine Wk.rPure 0 (some 4) (.slice none 0 0) rfl rfl (by kernel_rfl) (by kernel_rfl) ?_
      refine Wk.rEnd 1 rfl ?_
      refine Wk.nxt ?_
      refine wp_seq ?_
      refine wp_seq ?_
      refine Wk.reg ?_
      refine Wk.rPure 0 (some 5) (.pointer (some ⟨g, 0, none⟩)) rfl rfl (by kernel_rfl) (by kernel_rfl) ?_
      refine Wk.rPure 1 (some 6) (.int .i64 1) rfl rfl (by kernel_rfl) (by kernel_rfl) ?_
      refine Wk.rCall 2 (some 7) 20 [.tmp 5, .tmp 6] #[23, 3] [.pointer (some ⟨g, 0, none⟩), .int .i64 1] rfl rfl (by kernel_rfl) rfl (by kernel_rfl) (by kernel_rfl) ?_
      refine (asked_in g 1 w (by decide)).mono ?_
      rintro _ _ ⟨rfl, rfl⟩
      refine ⟨_, rfl, ?_⟩
      refine Wk.rPure 3 (some 8) (.bool false) rfl rfl (by kernel_rfl) (Wk.boolF (b := ((0 : Int) != (0 : Int))) (bne_eq_false_iff_eq.2 (by decide)) (by kernel_rfl)) ?_
      refine Wk.rEnd 4 rfl ?_
      refine Wk.nxt ?_
      refine wp_cond_false (by kernel_rfl) ?_
      refine wp_skip ?_
      refine Wk.nxt ?_
      refine wp_seq ?_
      refine Wk.reg ?_
      refine Wk.rPure 0 (some 9) (.pointer (some ⟨g, 0, none⟩)) rfl rfl (by kernel_rfl) (by kernel_rfl) ?_
      refine Wk.rPure 1 (some 10) (.int .i64 1) rfl rfl (by kernel_rfl) (by kernel_rfl) ?_
      refine Wk.rPure 2 (some 11) (.pointer (some ⟨g, 0, none⟩)) rfl rfl (by kernel_rfl) (by kernel_rfl) ?_
      refine Wk.rPure 3 (some 12) (.pointer (some ⟨g, 0, none⟩)) rfl rfl (by kernel_rfl) (by kernel_rfl) ?_
      refine Wk.rPure 4 (some 13) (.pointer (some ⟨g, 2, none⟩)) rfl rfl (by kernel_rfl) (Wk.index_arr 49 48 (.tmp 12) (.tmp 10) rfl 2 Try.underlying49 2 (by kernel_rfl) g 0 1 .i64 (by kernel_rfl) (by kernel_rfl) (by decide)) ?_
      refine Wk.rPure 5 (some 14) (.pointer (some ⟨g, 2, none⟩)) rfl rfl (by kernel_rfl) (by kernel_rfl) ?_
      refine Wk.rPure 6 (some 15) (.slice Ay yb.length cy) rfl rfl (by kernel_rfl) (Wk.load1 26 (.tmp 14) rfl (by kernel_rfl) ⟨g, 2, none⟩ (by kernel_rfl) (.slice Ay yb.length cy) ((cell_of_row _ _ 2 _ _ _ hp).trans rfl)) ?_
      refine Wk.rCall 7 (some 16) 21 [.tmp 15] #[26] [.slice Ay yb.length cy] rfl rfl (by kernel_rfl) rfl (by kernel_rfl) (by kernel_rfl) ?_
      refine (Clone_any Ay yb.length cy yb w hby1 hyc hyN (by omega)).mono ?_
      rintro _ W2 ⟨vv2, rfl, HO2, ch2⟩
      obtain ⟨AA2, nn2, rfl, hcc2, hmm2, hN2, HS2, hl2⟩ := Wk.own_sl HO2
      have zz2 := ch2.size
      have lt2 := World.ownsRow.lt HO2
      refine ⟨_, rfl, ?_⟩
      refine Wk.rPure 8 (some 4) (.slice AA2 yb.length nn2) rfl rfl (by kernel_rfl) (by kernel_rfl) ?_
      refine Wk.rEnd 9 rfl ?_
      refine Wk.nxt ?_
      refine wp_ret ?_
      have kk2 : Wk.Chg [] (w) W2 := Wk.Chg.step ((Wk.Chg.refl _).more (by simp)) ch2 trivial
      refine Wk.ret (.slice AA2 yb.length nn2) rfl (by kernel_rfl) ?_
      exact ⟨_, rfl, HO2, kk2⟩
  · refine calls_of_wp Try.func13 rfl ?_
    refine wp_seq ?_
    refine Wk.reg ?_
    refine Wk.rPure 0 (some 4) (.slice none 0 0) rfl rfl (by kernel_rfl) (by kernel_rfl) ?_
    refine Wk.rEnd 1 rfl ?_
    refine Wk.nxt ?_
    refine wp_seq ?_
    refine wp_seq ?_
    refine Wk.reg ?_
    refine Wk.rPure 0 (some 5) (.pointer (some ⟨g, 0, none⟩)) rfl rfl (by kernel_rfl) (by kernel_rfl) ?_
    refine Wk.rPure 1 (some 6) (.int .i64 f) rfl rfl (by kernel_rfl) (by kernel_rfl) ?_
    refine Wk.rCall 2 (some 7) 20 [.tmp 5, .tmp 6] #[23, 3] [.pointer (some ⟨g, 0, none⟩), .int .i64 f] rfl rfl (by kernel_rfl) rfl (by kernel_rfl) (by kernel_rfl) ?_
    refine (asked_out g f w hf).mono ?_
    rintro _ _ ⟨rfl, rfl⟩
    refine ⟨_, rfl, ?_⟩
    refine Wk.rPure 3 (some 8) (.bool true) rfl rfl (by kernel_rfl) (Wk.boolT (b := ((2 : Int) != (0 : Int))) (bne_iff_ne.2 (by decide)) (by kernel_rfl)) ?_
    refine Wk.rEnd 4 rfl ?_
    refine Wk.nxt ?_
    refine wp_cond_true (by kernel_rfl) ?_
    refine wp_seq ?_
    refine Wk.reg ?_
    refine Wk.rPure 0 (some 4) (.slice none 0 0) rfl rfl (by kernel_rfl) (by kernel_rfl) ?_
    refine Wk.rEnd 1 rfl ?_
    refine Wk.nxt ?_
    refine wp_ret ?_
    refine Wk.thR ?_
    have hd : (Dk.mk ⟨xb, xn⟩ ⟨yb, yn⟩).bytes f = [] := if_neg hf
    rw [hd]
    refine Wk.ret (.slice none 0 0) rfl (by kernel_rfl) ?_
    exact ⟨_, rfl, Mur.own_nil _ _ _, (Wk.Chg.refl _)⟩
theorem Synced_any (g : Nat) (d : Dk) (F : List Nat) (f : Int) (w : World) (h : DskF 5 51 w g d F) : Calls Try.prog 14 #[.pointer (some ⟨g, 0, none⟩), .int .i64 f] w fun e w' => e = .returned (.int .i64 (d.synced f : Nat)) ∧ w = w' := by
  obtain ⟨⟨xb, xn⟩, ⟨yb, yn⟩⟩ := d
  obtain ⟨vx, vy, hD, rfl⟩ := h.out
  have hkx := hD.kx
  have hky := hD.ky
  simp only [Fil.ok] at hkx hky
  obtain ⟨Ax, cx, rfl, hxc, hxm, hxN, hxS, hxl⟩ := Wk.own_sl hD.ox
  obtain ⟨Ay, cy, rfl, hyc, hym, hyN, hyS, hyl⟩ := Wk.own_sl hD.oy
  have ltx := World.ownsRow.lt hD.ox
  have lty := World.ownsRow.lt hD.oy
  have hgl := hD.lt
  have hp := hD.hp
  simp only at hp
  by_cases hf : hasF f
  · rcases hf with rfl | rfl
    · refine calls_of_wp Try.func14 rfl ?_
      refine wp_seq ?_
      refine Wk.reg ?_
      refine Wk.rPure 0 (some 4) (.int .i64 0) rfl rfl (by kernel_rfl) (by kernel_rfl) ?_
      refine Wk.rEnd 1 rfl ?_
      refine Wk.nxt ?_
      refine wp_seq ?_
      refine wp_seq ?_
      refine Wk.reg ?_
      refine Wk.rPure 0 (some 5) (.pointer (some ⟨g, 0, none⟩)) rfl rfl (by kernel_rfl) (by kernel_rfl) ?_
      refine Wk.rPure 1 (some 6) (.int .i64 0) rfl rfl (by kernel_rfl) (by kernel_rfl) ?_
      refine Wk.rCall 2 (some 7) 20 [.tmp 5, .tmp 6] #[23, 3] [.pointer (some ⟨g, 0, none⟩), .int .i64 0] rfl rfl (by kernel_rfl) rfl (by kernel_rfl) (by kernel_rfl) ?_
      refine (asked_in g 0 w (by decide)).mono ?_
      rintro _ _ ⟨rfl, rfl⟩
      refine ⟨_, rfl, ?_⟩
      refine Wk.rPure 3 (some 8) (.bool false) rfl rfl (by kernel_rfl) (Wk.boolF (b := ((0 : Int) != (0 : Int))) (bne_eq_false_iff_eq.2 (by decide)) (by kernel_rfl)) ?_
      refine Wk.rEnd 4 rfl ?_
      refine Wk.nxt ?_
      refine wp_cond_false (by kernel_rfl) ?_
      refine wp_skip ?_
      refine Wk.nxt ?_
      refine wp_seq ?_
      refine Wk.reg ?_
      refine Wk.rPure 0 (some 9) (.pointer (some ⟨g, 0, none⟩)) rfl rfl (by kernel_rfl) (by kernel_rfl) ?_
      refine Wk.rPure 1 (some 10) (.int .i64 0) rfl rfl (by kernel_rfl) (by kernel_rfl) ?_
      refine Wk.rPure 2 (some 11) (.pointer (some ⟨g, 0, none⟩)) rfl rfl (by kernel_rfl) (by kernel_rfl) ?_
      refine Wk.rPure 3 (some 12) (.pointer (some ⟨g, 0, none⟩)) rfl rfl (by kernel_rfl) (by kernel_rfl) ?_
      refine Wk.rPure 4 (some 13) (.pointer (some ⟨g, 0, none⟩)) rfl rfl (by kernel_rfl) (Wk.index_arr 49 48 (.tmp 12) (.tmp 10) rfl 2 Try.underlying49 2 (by kernel_rfl) g 0 0 .i64 (by kernel_rfl) (by kernel_rfl) (by decide)) ?_
      refine Wk.rPure 5 (some 14) (.pointer (some ⟨g, 1, none⟩)) rfl rfl (by kernel_rfl) (by kernel_rfl) ?_
      refine Wk.rPure 6 (some 15) (.int .i64 ((xn : Nat) : Int)) rfl rfl (by kernel_rfl) (Wk.load1 3 (.tmp 14) rfl (by kernel_rfl) ⟨g, 1, none⟩ (by kernel_rfl) (.int .i64 ((xn : Nat) : Int)) ((cell_of_row _ _ 1 _ _ _ hp).trans rfl)) ?_
      refine Wk.rPure 7 (some 4) (.int .i64 ((xn : Nat) : Int)) rfl rfl (by kernel_rfl) (by kernel_rfl) ?_
      refine Wk.rEnd 8 rfl ?_
      refine Wk.nxt ?_
      refine wp_ret ?_
      refine Wk.ret (.int .i64 ((xn : Nat) : Int)) rfl (by kernel_rfl) ?_
      exact ⟨rfl, rfl⟩
    · refine calls_of_wp Try.func14 rfl ?_
      refine wp_seq ?_
      refine Wk.reg ?_
      refine Wk.rPure 0 (some 4) (.int .i64 0) rfl rfl (by kernel_rfl) (by kernel_rfl) ?_
      refine Wk.rEnd 1 rfl ?_
      refine Wk.nxt ?_
      refine wp_seq ?_
      refine wp_seq ?_
      refine Wk.reg ?_
      refine Wk.rPure 0 (some 5) (.pointer (some ⟨g, 0, none⟩)) rfl rfl (by kernel_rfl) (by kernel_rfl) ?_
      refine Wk.rPure 1 (some 6) (.int .i64 1) rfl rfl (by kernel_rfl) (by kernel_rfl) ?_
      refine Wk.rCall 2 (some 7) 20 [.tmp 5, .tmp 6] #[23, 3] [.pointer (some ⟨g, 0, none⟩), .int .i64 1] rfl rfl (by kernel_rfl) rfl (by kernel_rfl) (by kernel_rfl) ?_
      refine (asked_in g 1 w (by decide)).mono ?_
      rintro _ _ ⟨rfl, rfl⟩
      refine ⟨_, rfl, ?_⟩
      refine Wk.rPure 3 (some 8) (.bool false) rfl rfl (by kernel_rfl) (Wk.boolF (b := ((0 : Int) != (0 : Int))) (bne_eq_false_iff_eq.2 (by decide)) (by kernel_rfl)) ?_
      refine Wk.rEnd 4 rfl ?_
      refine Wk.nxt ?_
      refine wp_cond_false (by kernel_rfl) ?_
      refine wp_skip ?_
      refine Wk.nxt ?_
      refine wp_seq ?_
      refine Wk.reg ?_
      refine Wk.rPure 0 (some 9) (.pointer (some ⟨g, 0, none⟩)) rfl rfl (by kernel_rfl) (by kernel_rfl) ?_
      refine Wk.rPure 1 (some 10) (.int .i64 1) rfl rfl (by kernel_rfl) (by kernel_rfl) ?_
      refine Wk.rPure 2 (some 11) (.pointer (some ⟨g, 0, none⟩)) rfl rfl (by kernel_rfl) (by kernel_rfl) ?_
      refine Wk.rPure 3 (some 12) (.pointer (some ⟨g, 0, none⟩)) rfl rfl (by kernel_rfl) (by kernel_rfl) ?_
      refine Wk.rPure 4 (some 13) (.pointer (some ⟨g, 2, none⟩)) rfl rfl (by kernel_rfl) (Wk.index_arr 49 48 (.tmp 12) (.tmp 10) rfl 2 Try.underlying49 2 (by kernel_rfl) g 0 1 .i64 (by kernel_rfl) (by kernel_rfl) (by decide)) ?_
      refine Wk.rPure 5 (some 14) (.pointer (some ⟨g, 3, none⟩)) rfl rfl (by kernel_rfl) (by kernel_rfl) ?_
      refine Wk.rPure 6 (some 15) (.int .i64 ((yn : Nat) : Int)) rfl rfl (by kernel_rfl) (Wk.load1 3 (.tmp 14) rfl (by kernel_rfl) ⟨g, 3, none⟩ (by kernel_rfl) (.int .i64 ((yn : Nat) : Int)) ((cell_of_row _ _ 3 _ _ _ hp).trans rfl)) ?_
      refine Wk.rPure 7 (some 4) (.int .i64 ((yn : Nat) : Int)) rfl rfl (by kernel_rfl) (by kernel_rfl) ?_
      refine Wk.rEnd 8 rfl ?_
      refine Wk.nxt ?_
      refine wp_ret ?_
      refine Wk.ret (.int .i64 ((yn : Nat) : Int)) rfl (by kernel_rfl) ?_
      exact ⟨rfl, rfl⟩
  · refine calls_of_wp Try.func14 rfl ?_
    refine wp_seq ?_
    refine Wk.reg ?_
    refine Wk.rPure 0 (some 4) (.int .i64 0) rfl rfl (by kernel_rfl) (by kernel_rfl) ?_
    refine Wk.rEnd 1 rfl ?_
    refine Wk.nxt ?_
    refine wp_seq ?_
    refine wp_seq ?_
    refine Wk.reg ?_
    refine Wk.rPure 0 (some 5) (.pointer (some ⟨g, 0, none⟩)) rfl rfl (by kernel_rfl) (by kernel_rfl) ?_
    refine Wk.rPure 1 (some 6) (.int .i64 f) rfl rfl (by kernel_rfl) (by kernel_rfl) ?_
    refine Wk.rCall 2 (some 7) 20 [.tmp 5, .tmp 6] #[23, 3] [.pointer (some ⟨g, 0, none⟩), .int .i64 f] rfl rfl (by kernel_rfl) rfl (by kernel_rfl) (by kernel_rfl) ?_
    refine (asked_out g f w hf).mono ?_
    rintro _ _ ⟨rfl, rfl⟩
    refine ⟨_, rfl, ?_⟩
    refine Wk.rPure 3 (some 8) (.bool true) rfl rfl (by kernel_rfl) (Wk.boolT (b := ((2 : Int) != (0 : Int))) (bne_iff_ne.2 (by decide)) (by kernel_rfl)) ?_
    refine Wk.rEnd 4 rfl ?_
    refine Wk.nxt ?_
    refine wp_cond_true (by kernel_rfl) ?_
    refine wp_seq ?_
    refine Wk.reg ?_
    refine Wk.rPure 0 (some 4) (.int .i64 0) rfl rfl (by kernel_rfl) (by kernel_rfl) ?_
    refine Wk.rEnd 1 rfl ?_
    refine Wk.nxt ?_
    refine wp_ret ?_
    refine Wk.thR ?_
    rw [show (Dk.mk ⟨xb, xn⟩ ⟨yb, yn⟩).synced f = 0 from if_neg hf]
    refine Wk.ret (.int .i64 0) rfl (by kernel_rfl) ?_
    exact ⟨rfl, rfl⟩
end Go.Proofs.Ytddabjlhidokaaa
