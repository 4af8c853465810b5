/- The disk's crash. -/
import Derived.Test.YtddabjlhidokaaaDkB
namespace Go.Proofs.Ytddabjlhidokaaa
open Go.RowKit
open Mur (Fil Dk Dsk DskF Byt b8s foot hasF fE)
set_option maxRecDepth 100000
set_option maxHeartbeats 4000000
theorem Crash_any (g : Nat) (d : Dk) (F : List Nat) (k0 k1 : Int) (w : World) (h : DskF 5 51 w g d F) : Calls Try.prog 15 #[.pointer (some ⟨g, 0, none⟩), .agg #[.int .i64 k0, .int .i64 k1]] w fun e w' => ∃ F', e = .returned (.tuple #[]) ∧ DskF 5 51 w' g (d.crash k0 k1) F' ∧ Wk.Chg F w w' ∧ Wk.NewOr w.heap.size F F' := by
  obtain ⟨⟨xb, xn⟩, ⟨yb, yn⟩⟩ := d
  obtain ⟨vx, vy, hD, rfl⟩ := h.out
  have hkx := hD.kx
  have hky := hD.ky
  simp only [Fil.ok] at hkx hky
  obtain ⟨Ax, cx, rfl, hxc, hxm, hxN, hxS, hxl⟩ := Wk.own_sl hD.ox
  obtain ⟨Ay, cy, rfl, hyc, hym, hyN, hyS, hyl⟩ := Wk.own_sl hD.oy
  have ltx := World.ownsRow.lt hD.ox
  have lty := World.ownsRow.lt hD.oy
  have hgl := hD.lt
  have hp := hD.hp
  simp only at hp
  rw [show (Dk.mk ⟨xb, xn⟩ ⟨yb, yn⟩).crash k0 k1 = ⟨⟨xb.take ((⟨xb, xn⟩ : Fil).left k0), (⟨xb, xn⟩ : Fil).left k0⟩, ⟨yb.take ((⟨yb, yn⟩ : Fil).left k1), (⟨yb, yn⟩ : Fil).left k1⟩⟩ from rfl]
  obtain ⟨nlx, ex⟩ : ∃ m, (⟨xb, xn⟩ : Fil).left k0 = m := ⟨_, rfl⟩
  have hx1 : xn ≤ xb.length := hkx.1
  have hlx := Mur.left_le k0 hx1
  rw [ex] at hlx
  obtain ⟨nly, ey⟩ : ∃ m, (⟨yb, yn⟩ : Fil).left k1 = m := ⟨_, rfl⟩
  have hy1 : yn ≤ yb.length := hky.1
  have hly := Mur.left_le k1 hy1
  rw [ey] at hly
  rw [ex, ey]
  refine calls_of_wp Try.func15 rfl ?_
  refine wp_seq ?_
  refine Wk.reg ?_
  refine Wk.rEx 0 (some 3) _ rfl rfl (by kernel_rfl) (Wk.new_ex (.pointer (some ⟨w.heap.size, 0, none⟩)) #[.int .i64 k0, .int .i64 k1] 27 (by kernel_rfl)) ?_
  rintro _ W1 ⟨rfl, hb1, ch1, sz1⟩
  have zz1 := ch1.size
  refine Wk.rEnd 1 rfl ?_
  refine Wk.nxt ?_
  refine wp_seq ?_
  refine Wk.reg ?_
  refine Wk.rPure 0 (some 4) (.int .i64 0) rfl rfl (by kernel_rfl) (by kernel_rfl) ?_
  refine Wk.rEnd 1 rfl ?_
  refine Wk.nxt ?_
  refine wp_block ?_
  refine Wk.loopN 3 ?_
  refine Wk.rdS ?_
  refine wp_seq ?_
  refine wp_seq ?_
  refine Wk.reg ?_
  refine Wk.rPure 0 (some 7) (.pointer (some ⟨g, 0, none⟩)) rfl rfl (by kernel_rfl) (by kernel_rfl) ?_
  refine Wk.rPure 1 (some 8) (.bool true) rfl rfl (by kernel_rfl) (by kernel_rfl) ?_
  refine Wk.rPure 2 (some 9) (.bool true) rfl rfl (by kernel_rfl) (by kernel_rfl) ?_
  refine Wk.rPure 3 (some 10) (.int .i64 0) rfl rfl (by kernel_rfl) (by kernel_rfl) ?_
  refine Wk.rPure 4 (some 11) (.bool true) rfl rfl (by kernel_rfl) (Wk.boolT (b := decide ((0 : Int) < (2 : Int))) (decide_eq_true (by decide)) (by kernel_rfl)) ?_
  refine Wk.rPure 5 (some 12) (.bool true) rfl rfl (by kernel_rfl) (by kernel_rfl) ?_
  refine Wk.rEnd 6 rfl ?_
  refine Wk.nxt ?_
  refine wp_cond_true (by kernel_rfl) ?_
  refine wp_skip ?_
  refine Wk.nxt ?_
  refine wp_seq ?_
  refine wp_block ?_
  refine wp_seq ?_
  refine Wk.reg ?_
  refine Wk.rPure 0 (some 15) (.pointer (some ⟨g, 0, none⟩)) rfl rfl (by kernel_rfl) (by kernel_rfl) ?_
  refine Wk.rPure 1 (some 16) (.int .i64 0) rfl rfl (by kernel_rfl) (by kernel_rfl) ?_
  refine Wk.rPure 2 (some 17) (.pointer (some ⟨g, 0, none⟩)) rfl rfl (by kernel_rfl) (by kernel_rfl) ?_
  refine Wk.rPure 3 (some 18) (.pointer (some ⟨g, 0, none⟩)) rfl rfl (by kernel_rfl) (by kernel_rfl) ?_
  refine Wk.rPure 4 (some 19) (.pointer (some ⟨g, 0, none⟩)) rfl rfl (by kernel_rfl) (Wk.index_arr 49 48 (.tmp 18) (.tmp 16) rfl 2 Try.underlying49 2 (by kernel_rfl) g 0 0 .i64 (by kernel_rfl) (by kernel_rfl) (by decide)) ?_
  refine Wk.rPure 5 (some 5) (.pointer (some ⟨g, 0, none⟩)) rfl rfl (by kernel_rfl) (by kernel_rfl) ?_
  refine Wk.rEnd 6 rfl ?_
  refine Wk.nxt ?_
  refine wp_seq ?_
  refine Wk.dReg [] (by kernel_rfl) ?_
  intro W2 ch2 sz2
  have zz2 := ch2.size
  have sS1 : Wk.Chg [] W2 W2 := (Wk.Chg.refl _).more (by simp)
  refine Wk.dVal 0 (some 20) (.pointer (some ⟨g, 0, none⟩)) rfl rfl (by kernel_rfl) (by kernel_rfl) (by kernel_rfl) (fun _ _ _ h => h) (by kernel_rfl) (fun w' hw' => by kernel_rfl) sS1 ?_
  refine Wk.dVal 1 (some 21) (.pointer (some ⟨g, 0, none⟩)) rfl rfl (by kernel_rfl) (by kernel_rfl) (by kernel_rfl) (fun _ _ _ h => h) (by kernel_rfl) (fun w' hw' => by kernel_rfl) sS1 ?_
  refine Wk.dVal 2 (some 22) (.pointer (some ⟨g, 1, none⟩)) rfl rfl (by kernel_rfl) (by kernel_rfl) (by kernel_rfl) (fun _ _ _ h => h) (by kernel_rfl) (fun w' hw' => by kernel_rfl) sS1 ?_
  refine Wk.dVal 3 (some 23) (.int .i64 ((xn : Nat) : Int)) rfl rfl (by kernel_rfl) (by kernel_rfl) (by kernel_rfl) (fun _ _ _ h => h) (by kernel_rfl) (fun w' hw' => (Wk.load1 3 (.tmp 22) rfl (by kernel_rfl) ⟨g, 1, none⟩ (by kernel_rfl) (.int .i64 ((xn : Nat) : Int)) ((cell_of_row _ _ 1 _ _ _ (Wk.Chg.hp hw' (Wk.Chg.hp ch2 (Wk.Chg.hp ch1 hp trivial) trivial) trivial)).trans rfl))) sS1 ?_
  refine Wk.dVal 4 (some 24) (.int .i64 0) rfl rfl (by kernel_rfl) (by kernel_rfl) (by kernel_rfl) (fun _ _ _ h => h) (by kernel_rfl) (fun w' hw' => by kernel_rfl) sS1 ?_
  refine Wk.dVal 5 (some 25) (.pointer (some ⟨w.heap.size, 0, none⟩)) rfl rfl (by kernel_rfl) (by kernel_rfl) (by kernel_rfl) (fun _ _ _ h => h) (by kernel_rfl) (fun w' hw' => (Wk.index_arr 27 3 (.tmp 3) (.tmp 24) rfl 2 Try.underlying27 1 (by kernel_rfl) w.heap.size 0 0 .i64 (by kernel_rfl) (by kernel_rfl) (by decide))) sS1 ?_
  refine Wk.dVal 6 (some 26) (.int .i64 k0) rfl rfl (by kernel_rfl) (by kernel_rfl) (by kernel_rfl) (fun _ _ _ h => h) (by kernel_rfl) (fun w' hw' => (Wk.load1 3 (.tmp 25) rfl (by kernel_rfl) ⟨w.heap.size, 0, none⟩ (by kernel_rfl) (.int .i64 k0) ((cell_of_row _ _ 0 _ _ _ (Wk.Chg.hp hw' (Wk.Chg.hp ch2 hb1 trivial) trivial)).trans rfl))) sS1 ?_
  refine Wk.dVal 7 (some 27) (.int .i64 (if (0 : Int) > k0 then (0 : Int) else k0)) rfl rfl (by kernel_rfl) (by kernel_rfl) (by kernel_rfl) (fun _ _ _ h => h) (by kernel_rfl) (fun w' hw' => by kernel_rfl) sS1 ?_
  refine Wk.dVal 8 (some 28) (.pointer (some ⟨g, 0, none⟩)) rfl rfl (by kernel_rfl) (by kernel_rfl) (by kernel_rfl) (fun _ _ _ h => h) (by kernel_rfl) (fun w' hw' => by kernel_rfl) sS1 ?_
  refine Wk.dVal 9 (some 29) (.pointer (some ⟨g, 0, none⟩)) rfl rfl (by kernel_rfl) (by kernel_rfl) (by kernel_rfl) (fun _ _ _ h => h) (by kernel_rfl) (fun w' hw' => by kernel_rfl) sS1 ?_
  refine Wk.dVal 10 (some 30) (.pointer (some ⟨g, 0, none⟩)) rfl rfl (by kernel_rfl) (by kernel_rfl) (by kernel_rfl) (fun _ _ _ h => h) (by kernel_rfl) (fun w' hw' => by kernel_rfl) sS1 ?_
  refine Wk.dVal 11 (some 31) (.slice Ax xb.length cx) rfl rfl (by kernel_rfl) (by kernel_rfl) (by kernel_rfl) (fun _ _ _ h => h) (by kernel_rfl) (fun w' hw' => (Wk.load1 26 (.tmp 30) rfl (by kernel_rfl) ⟨g, 0, none⟩ (by kernel_rfl) (.slice Ax xb.length cx) ((cell_of_row _ _ 0 _ _ _ (Wk.Chg.hp hw' (Wk.Chg.hp ch2 (Wk.Chg.hp ch1 hp trivial) trivial) trivial)).trans rfl))) sS1 ?_
  refine Wk.dVal 12 (some 32) (.int .i64 ((xb.length : Nat) : Int)) rfl rfl (by kernel_rfl) (by kernel_rfl) (by kernel_rfl) (fun _ _ _ h => h) (by kernel_rfl) (fun w' hw' => by kernel_rfl) sS1 ?_
  refine Wk.dVal 13 (some 33) (.pointer (some ⟨g, 0, none⟩)) rfl rfl (by kernel_rfl) (by kernel_rfl) (by kernel_rfl) (fun _ _ _ h => h) (by kernel_rfl) (fun w' hw' => by kernel_rfl) sS1 ?_
  refine Wk.dVal 14 (some 34) (.pointer (some ⟨g, 0, none⟩)) rfl rfl (by kernel_rfl) (by kernel_rfl) (by kernel_rfl) (fun _ _ _ h => h) (by kernel_rfl) (fun w' hw' => by kernel_rfl) sS1 ?_
  refine Wk.dVal 15 (some 35) (.pointer (some ⟨g, 1, none⟩)) rfl rfl (by kernel_rfl) (by kernel_rfl) (by kernel_rfl) (fun _ _ _ h => h) (by kernel_rfl) (fun w' hw' => by kernel_rfl) sS1 ?_
  refine Wk.dVal 16 (some 36) (.int .i64 ((xn : Nat) : Int)) rfl rfl (by kernel_rfl) (by kernel_rfl) (by kernel_rfl) (fun _ _ _ h => h) (by kernel_rfl) (fun w' hw' => (Wk.load1 3 (.tmp 35) rfl (by kernel_rfl) ⟨g, 1, none⟩ (by kernel_rfl) (.int .i64 ((xn : Nat) : Int)) ((cell_of_row _ _ 1 _ _ _ (Wk.Chg.hp hw' (Wk.Chg.hp ch2 (Wk.Chg.hp ch1 hp trivial) trivial) trivial)).trans rfl))) sS1 ?_
  refine Wk.dVal 17 (some 37) (.int .i64 (((xb.length : Nat) : Int) - ((xn : Nat) : Int))) rfl rfl (by kernel_rfl) (by kernel_rfl) (by kernel_rfl) (fun _ _ _ h => h) (by kernel_rfl) (fun w' hw' => (Wk.int64 (n := ((xb.length : Nat) : Int) - ((xn : Nat) : Int)) (z := ((xb.length : Nat) : Int) - ((xn : Nat) : Int)) (by omega) (by omega) (by omega) (by kernel_rfl))) sS1 ?_
  refine Wk.dVal 18 (some 38) (.int .i64 (if (((xb.length : Nat) : Int) - ((xn : Nat) : Int)) < (if (0 : Int) > k0 then (0 : Int) else k0) then (((xb.length : Nat) : Int) - ((xn : Nat) : Int)) else (if (0 : Int) > k0 then (0 : Int) else k0))) rfl rfl (by kernel_rfl) (by kernel_rfl) (by kernel_rfl) (fun _ _ _ h => h) (by kernel_rfl) (fun w' hw' => by kernel_rfl) sS1 ?_
  refine Wk.dVal 19 (some 39) (.int .i64 ((nlx : Nat) : Int)) rfl rfl (by kernel_rfl) (by kernel_rfl) (by kernel_rfl) (fun _ _ _ h => h) (by kernel_rfl) (fun w' hw' => (Wk.int64 (n := ((xn : Nat) : Int) + (if (((xb.length : Nat) : Int) - ((xn : Nat) : Int)) < (if (0 : Int) > k0 then (0 : Int) else k0) then (((xb.length : Nat) : Int) - ((xn : Nat) : Int)) else (if (0 : Int) > k0 then (0 : Int) else k0))) (z := ((nlx : Nat) : Int)) (by rw [← ex]; exact Mur.left_eq k0 hx1) (by omega) (by omega) (by kernel_rfl))) sS1 ?_
  refine Wk.dVal 20 (some 6) (.int .i64 ((nlx : Nat) : Int)) rfl rfl (by kernel_rfl) (by kernel_rfl) (by kernel_rfl) (fun _ _ _ h => h) (by kernel_rfl) (fun w' hw' => by kernel_rfl) sS1 ?_
  refine Wk.dEnd (by kernel_rfl) ?_
  refine Wk.nxt ?_
  refine Wk.reg ?_
  refine Wk.rPure 0 (some 40) (.pointer (some ⟨g, 0, none⟩)) rfl rfl (by kernel_rfl) (by kernel_rfl) ?_
  refine Wk.rPure 1 (some 41) (.pointer (some ⟨g, 0, none⟩)) rfl rfl (by kernel_rfl) (by kernel_rfl) ?_
  refine Wk.rPure 2 (some 42) (.pointer (some ⟨g, 0, none⟩)) rfl rfl (by kernel_rfl) (by kernel_rfl) ?_
  refine Wk.rPure 3 (some 43) (.pointer (some ⟨g, 0, none⟩)) rfl rfl (by kernel_rfl) (by kernel_rfl) ?_
  refine Wk.rPure 4 (some 44) (.pointer (some ⟨g, 0, none⟩)) rfl rfl (by kernel_rfl) (by kernel_rfl) ?_
  refine Wk.rPure 5 (some 45) (.slice Ax xb.length cx) rfl rfl (by kernel_rfl) (Wk.load1 26 (.tmp 44) rfl (by kernel_rfl) ⟨g, 0, none⟩ (by kernel_rfl) (.slice Ax xb.length cx) ((cell_of_row _ _ 0 _ _ _ (Wk.Chg.hp ch2 (Wk.Chg.hp ch1 hp trivial) trivial)).trans rfl)) ?_
  refine Wk.rPure 6 (some 46) (.int .i64 ((nlx : Nat) : Int)) rfl rfl (by kernel_rfl) (by kernel_rfl) ?_
  refine Wk.rPure 7 (some 47) (.slice (Mur.cutA Ax cx 0) nlx cx) rfl rfl (by kernel_rfl) (Mur.run_op_cut_to 26 (.tmp 45) (.tmp 46) rfl 5 Try.underlying26 (by kernel_rfl) Ax xb.length cx nlx (by kernel_rfl) (by kernel_rfl) (by omega) hxc) ?_
  refine Wk.rCall 8 (some 48) 21 [.tmp 47] #[26] [.slice (Mur.cutA Ax cx 0) nlx cx] rfl rfl (by kernel_rfl) rfl (by kernel_rfl) (by kernel_rfl) ?_
  obtain ⟨_, _, e_, _, _, hbyx0⟩ := Mur.own_byt hD.ox
  cases e_
  replace hbyx0 : Byt w Ax xb.length xb := hbyx0
  have kk1 : Wk.Chg [g] (w) W1 := Wk.Chg.step ((Wk.Chg.refl _).more (by simp)) ch1 trivial
  have kk2 := Wk.Chg.step kk1 ch2 trivial
  refine (Clone_any (Mur.cutA Ax cx 0) nlx cx (xb.take nlx) W2 (Mur.byt_to (Mur.byt_chg hbyx0 kk2 (fun q off e hl => ⟨by have := hxl q off e; omega, trivial⟩)) nlx (by omega) hxc) (by simp only at hxc; omega) (Mur.cut_none hxN) (by omega)).mono ?_
  rintro _ W3 ⟨vv1, rfl, HO1, ch3⟩
  obtain ⟨AA1, nn1, rfl, hcc1, hmm1, hN1, HS1, hl1⟩ := Wk.own_sl HO1
  have zz3 := ch3.size
  have lt1 := World.ownsRow.lt HO1
  refine ⟨_, rfl, ?_⟩
  refine Wk.rPure 9 (some 49) (.int .i64 ((nlx : Nat) : Int)) rfl rfl (by kernel_rfl) (by kernel_rfl) ?_
  refine Wk.rPure 10 (some 50) (.pointer (some ⟨g, 0, none⟩)) rfl rfl (by kernel_rfl) (by kernel_rfl) ?_
  refine Wk.rPure 11 (some 51) (.pointer (some ⟨g, 0, none⟩)) rfl rfl (by kernel_rfl) (by kernel_rfl) ?_
  refine Wk.rExS 12 none _ rfl rfl (by kernel_rfl) (Wk.store1 26 (.tmp 51) (.tmp 48) rfl (by kernel_rfl) g 0 (by kernel_rfl) (.slice AA1 nlx nn1) (by kernel_rfl) rfl 51 #[.slice Ax xb.length cx, .int .i64 ((xn : Nat) : Int), .slice Ay yb.length cy, .int .i64 ((yn : Nat) : Int)] (Wk.Chg.hp ch3 (Wk.Chg.hp ch2 (Wk.Chg.hp ch1 hp trivial) trivial) trivial) (by simp)) ?_
  rintro W4 ⟨hb2, ch4⟩
  replace hb2 : W4.heap[g]? = some (.cells #[.slice AA1 nlx nn1, .int .i64 ((xn : Nat) : Int), .slice Ay yb.length cy, .int .i64 ((yn : Nat) : Int)] 51 (0, 0)) := hb2
  have zz4 := ch4.size
  refine Wk.rPure 13 (some 52) (.pointer (some ⟨g, 0, none⟩)) rfl rfl (by kernel_rfl) (by kernel_rfl) ?_
  refine Wk.rPure 14 (some 53) (.pointer (some ⟨g, 1, none⟩)) rfl rfl (by kernel_rfl) (by kernel_rfl) ?_
  refine Wk.rExS 15 none _ rfl rfl (by kernel_rfl) (Wk.store1 3 (.tmp 53) (.tmp 49) rfl (by kernel_rfl) g 1 (by kernel_rfl) (.int .i64 ((nlx : Nat) : Int)) (by kernel_rfl) rfl 51 #[.slice AA1 nlx nn1, .int .i64 ((xn : Nat) : Int), .slice Ay yb.length cy, .int .i64 ((yn : Nat) : Int)] hb2 (by simp)) ?_
  rintro W5 ⟨hb3, ch5⟩
  replace hb3 : W5.heap[g]? = some (.cells #[.slice AA1 nlx nn1, .int .i64 ((nlx : Nat) : Int), .slice Ay yb.length cy, .int .i64 ((yn : Nat) : Int)] 51 (0, 0)) := hb3
  have zz5 := ch5.size
  refine Wk.rEnd 16 rfl ?_
  refine Wk.inN ?_
  refine Wk.nxt ?_
  refine Wk.reg ?_
  refine Wk.rPure 0 (some 13) (.int .i64 0) rfl rfl (by kernel_rfl) (by kernel_rfl) ?_
  refine Wk.rPure 1 (some 14) (.int .i64 1) rfl rfl (by kernel_rfl) (Wk.int64 (n := 0 + 1) (z := 1) (by omega) (by omega) (by omega) (by kernel_rfl)) ?_
  refine Wk.rPure 2 (some 4) (.int .i64 1) rfl rfl (by kernel_rfl) (by kernel_rfl) ?_
  refine Wk.rEnd 3 rfl ?_
  refine Wk.nxt ?_
  refine Wk.rdS ?_
  refine wp_seq ?_
  refine wp_seq ?_
  refine Wk.reg ?_
  refine Wk.rPure 0 (some 7) (.pointer (some ⟨g, 0, none⟩)) rfl rfl (by kernel_rfl) (by kernel_rfl) ?_
  refine Wk.rPure 1 (some 8) (.bool true) rfl rfl (by kernel_rfl) (by kernel_rfl) ?_
  refine Wk.rPure 2 (some 9) (.bool true) rfl rfl (by kernel_rfl) (by kernel_rfl) ?_
  refine Wk.rPure 3 (some 10) (.int .i64 1) rfl rfl (by kernel_rfl) (by kernel_rfl) ?_
  refine Wk.rPure 4 (some 11) (.bool true) rfl rfl (by kernel_rfl) (Wk.boolT (b := decide ((1 : Int) < (2 : Int))) (decide_eq_true (by decide)) (by kernel_rfl)) ?_
  refine Wk.rPure 5 (some 12) (.bool true) rfl rfl (by kernel_rfl) (by kernel_rfl) ?_
  refine Wk.rEnd 6 rfl ?_
  refine Wk.nxt ?_
  refine wp_cond_true (by kernel_rfl) ?_
  refine wp_skip ?_
  refine Wk.nxt ?_
  refine wp_seq ?_
  refine wp_block ?_
  refine wp_seq ?_
  refine Wk.reg ?_
  refine Wk.rPure 0 (some 15) (.pointer (some ⟨g, 0, none⟩)) rfl rfl (by kernel_rfl) (by kernel_rfl) ?_
  refine Wk.rPure 1 (some 16) (.int .i64 1) rfl rfl (by kernel_rfl) (by kernel_rfl) ?_
  refine Wk.rPure 2 (some 17) (.pointer (some ⟨g, 0, none⟩)) rfl rfl (by kernel_rfl) (by kernel_rfl) ?_
  refine Wk.rPure 3 (some 18) (.pointer (some ⟨g, 0, none⟩)) rfl rfl (by kernel_rfl) (by kernel_rfl) ?_
  refine Wk.rPure 4 (some 19) (.pointer (some ⟨g, 2, none⟩)) rfl rfl (by kernel_rfl) (Wk.index_arr 49 48 (.tmp 18) (.tmp 16) rfl 2 Try.underlying49 2 (by kernel_rfl) g 0 1 .i64 (by kernel_rfl) (by kernel_rfl) (by decide)) ?_
  refine Wk.rPure 5 (some 5) (.pointer (some ⟨g, 2, none⟩)) rfl rfl (by kernel_rfl) (by kernel_rfl) ?_
  refine Wk.rEnd 6 rfl ?_
  refine Wk.nxt ?_
  refine wp_seq ?_
  refine Wk.dReg [] (by kernel_rfl) ?_
  intro W6 ch6 sz3
  have zz6 := ch6.size
  have sS2 : Wk.Chg [] W6 W6 := (Wk.Chg.refl _).more (by simp)
  refine Wk.dVal 0 (some 20) (.pointer (some ⟨g, 2, none⟩)) rfl rfl (by kernel_rfl) (by kernel_rfl) (by kernel_rfl) (fun _ _ _ h => h) (by kernel_rfl) (fun w' hw' => by kernel_rfl) sS2 ?_
  refine Wk.dVal 1 (some 21) (.pointer (some ⟨g, 2, none⟩)) rfl rfl (by kernel_rfl) (by kernel_rfl) (by kernel_rfl) (fun _ _ _ h => h) (by kernel_rfl) (fun w' hw' => by kernel_rfl) sS2 ?_
  refine Wk.dVal 2 (some 22) (.pointer (some ⟨g, 3, none⟩)) rfl rfl (by kernel_rfl) (by kernel_rfl) (by kernel_rfl) (fun _ _ _ h => h) (by kernel_rfl) (fun w' hw' => by kernel_rfl) sS2 ?_
  refine Wk.dVal 3 (some 23) (.int .i64 ((yn : Nat) : Int)) rfl rfl (by kernel_rfl) (by kernel_rfl) (by kernel_rfl) (fun _ _ _ h => h) (by kernel_rfl) (fun w' hw' => (Wk.load1 3 (.tmp 22) rfl (by kernel_rfl) ⟨g, 3, none⟩ (by kernel_rfl) (.int .i64 ((yn : Nat) : Int)) ((cell_of_row _ _ 3 _ _ _ (Wk.Chg.hp hw' (Wk.Chg.hp ch6 hb3 trivial) trivial)).trans rfl))) sS2 ?_
  refine Wk.dVal 4 (some 24) (.int .i64 1) rfl rfl (by kernel_rfl) (by kernel_rfl) (by kernel_rfl) (fun _ _ _ h => h) (by kernel_rfl) (fun w' hw' => by kernel_rfl) sS2 ?_
  refine Wk.dVal 5 (some 25) (.pointer (some ⟨w.heap.size, 1, none⟩)) rfl rfl (by kernel_rfl) (by kernel_rfl) (by kernel_rfl) (fun _ _ _ h => h) (by kernel_rfl) (fun w' hw' => (Wk.index_arr 27 3 (.tmp 3) (.tmp 24) rfl 2 Try.underlying27 1 (by kernel_rfl) w.heap.size 0 1 .i64 (by kernel_rfl) (by kernel_rfl) (by decide))) sS2 ?_
  refine Wk.dVal 6 (some 26) (.int .i64 k1) rfl rfl (by kernel_rfl) (by kernel_rfl) (by kernel_rfl) (fun _ _ _ h => h) (by kernel_rfl) (fun w' hw' => (Wk.load1 3 (.tmp 25) rfl (by kernel_rfl) ⟨w.heap.size, 1, none⟩ (by kernel_rfl) (.int .i64 k1) ((cell_of_row _ _ 1 _ _ _ (Wk.Chg.hp hw' (Wk.Chg.hp ch6 (Wk.Chg.hp ch5 (Wk.Chg.hp ch4 (Wk.Chg.hp ch3 (Wk.Chg.hp ch2 hb1 trivial) trivial) ⟨by omega, trivial⟩) ⟨by omega, trivial⟩) trivial) trivial)).trans rfl))) sS2 ?_
  refine Wk.dVal 7 (some 27) (.int .i64 (if (0 : Int) > k1 then (0 : Int) else k1)) rfl rfl (by kernel_rfl) (by kernel_rfl) (by kernel_rfl) (fun _ _ _ h => h) (by kernel_rfl) (fun w' hw' => by kernel_rfl) sS2 ?_
  refine Wk.dVal 8 (some 28) (.pointer (some ⟨g, 2, none⟩)) rfl rfl (by kernel_rfl) (by kernel_rfl) (by kernel_rfl) (fun _ _ _ h => h) (by kernel_rfl) (fun w' hw' => by kernel_rfl) sS2 ?_
  refine Wk.dVal 9 (some 29) (.pointer (some ⟨g, 2, none⟩)) rfl rfl (by kernel_rfl) (by kernel_rfl) (by kernel_rfl) (fun _ _ _ h => h) (by kernel_rfl) (fun w' hw' => by kernel_rfl) sS2 ?_
  refine Wk.dVal 10 (some 30) (.pointer (some ⟨g, 2, none⟩)) rfl rfl (by kernel_rfl) (by kernel_rfl) (by kernel_rfl) (fun _ _ _ h => h) (by kernel_rfl) (fun w' hw' => by kernel_rfl) sS2 ?_
  refine Wk.dVal 11 (some 31) (.slice Ay yb.length cy) rfl rfl (by kernel_rfl) (by kernel_rfl) (by kernel_rfl) (fun _ _ _ h => h) (by kernel_rfl) (fun w' hw' => (Wk.load1 26 (.tmp 30) rfl (by kernel_rfl) ⟨g, 2, none⟩ (by kernel_rfl) (.slice Ay yb.length cy) ((cell_of_row _ _ 2 _ _ _ (Wk.Chg.hp hw' (Wk.Chg.hp ch6 hb3 trivial) trivial)).trans rfl))) sS2 ?_
  refine Wk.dVal 12 (some 32) (.int .i64 ((yb.length : Nat) : Int)) rfl rfl (by kernel_rfl) (by kernel_rfl) (by kernel_rfl) (fun _ _ _ h => h) (by kernel_rfl) (fun w' hw' => by kernel_rfl) sS2 ?_
  refine Wk.dVal 13 (some 33) (.pointer (some ⟨g, 2, none⟩)) rfl rfl (by kernel_rfl) (by kernel_rfl) (by kernel_rfl) (fun _ _ _ h => h) (by kernel_rfl) (fun w' hw' => by kernel_rfl) sS2 ?_
  refine Wk.dVal 14 (some 34) (.pointer (some ⟨g, 2, none⟩)) rfl rfl (by kernel_rfl) (by kernel_rfl) (by kernel_rfl) (fun _ _ _ h => h) (by kernel_rfl) (fun w' hw' => by kernel_rfl) sS2 ?_
  refine Wk.dVal 15 (some 35) (.pointer (some ⟨g, 3, none⟩)) rfl rfl (by kernel_rfl) (by kernel_rfl) (by kernel_rfl) (fun _ _ _ h => h) (by kernel_rfl) (fun w' hw' => by kernel_rfl) sS2 ?_
  refine Wk.dVal 16 (some 36) (.int .i64 ((yn : Nat) : Int)) rfl rfl (by kernel_rfl) (by kernel_rfl) (by kernel_rfl) (fun _ _ _ h => h) (by kernel_rfl) (fun w' hw' => (Wk.load1 3 (.tmp 35) rfl (by kernel_rfl) ⟨g, 3, none⟩ (by kernel_rfl) (.int .i64 ((yn : Nat) : Int)) ((cell_of_row _ _ 3 _ _ _ (Wk.Chg.hp hw' (Wk.Chg.hp ch6 hb3 trivial) trivial)).trans rfl))) sS2 ?_
  refine Wk.dVal 17 (some 37) (.int .i64 (((yb.length : Nat) : Int) - ((yn : Nat) : Int))) rfl rfl (by kernel_rfl) (by kernel_rfl) (by kernel_rfl) (fun _ _ _ h => h) (by kernel_rfl) (fun w' hw' => (Wk.int64 (n := ((yb.length : Nat) : Int) - ((yn : Nat) : Int)) (z := ((yb.length : Nat) : Int) - ((yn : Nat) : Int)) (by omega) (by omega) (by omega) (by kernel_rfl))) sS2 ?_
  refine Wk.dVal 18 (some 38) (.int .i64 (if (((yb.length : Nat) : Int) - ((yn : Nat) : Int)) < (if (0 : Int) > k1 then (0 : Int) else k1) then (((yb.length : Nat) : Int) - ((yn : Nat) : Int)) else (if (0 : Int) > k1 then (0 : Int) else k1))) rfl rfl (by kernel_rfl) (by kernel_rfl) (by kernel_rfl) (fun _ _ _ h => h) (by kernel_rfl) (fun w' hw' => by kernel_rfl) sS2 ?_
  refine Wk.dVal 19 (some 39) (.int .i64 ((nly : Nat) : Int)) rfl rfl (by kernel_rfl) (by kernel_rfl) (by kernel_rfl) (fun _ _ _ h => h) (by kernel_rfl) (fun w' hw' => (Wk.int64 (n := ((yn : Nat) : Int) + (if (((yb.length : Nat) : Int) - ((yn : Nat) : Int)) < (if (0 : Int) > k1 then (0 : Int) else k1) then (((yb.length : Nat) : Int) - ((yn : Nat) : Int)) else (if (0 : Int) > k1 then (0 : Int) else k1))) (z := ((nly : Nat) : Int)) (by rw [← ey]; exact Mur.left_eq k1 hy1) (by omega) (by omega) (by kernel_rfl))) sS2 ?_
  refine Wk.dVal 20 (some 6) (.int .i64 ((nly : Nat) : Int)) rfl rfl (by kernel_rfl) (by kernel_rfl) (by kernel_rfl) (fun _ _ _ h => h) (by kernel_rfl) (fun w' hw' => by kernel_rfl) sS2 ?_
  refine Wk.dEnd (by kernel_rfl) ?_
  refine Wk.nxt ?_
  refine Wk.reg ?_
  refine Wk.rPure 0 (some 40) (.pointer (some ⟨g, 2, none⟩)) rfl rfl (by kernel_rfl) (by kernel_rfl) ?_
  refine Wk.rPure 1 (some 41) (.pointer (some ⟨g, 2, none⟩)) rfl rfl (by kernel_rfl) (by kernel_rfl) ?_
  refine Wk.rPure 2 (some 42) (.pointer (some ⟨g, 2, none⟩)) rfl rfl (by kernel_rfl) (by kernel_rfl) ?_
  refine Wk.rPure 3 (some 43) (.pointer (some ⟨g, 2, none⟩)) rfl rfl (by kernel_rfl) (by kernel_rfl) ?_
  refine Wk.rPure 4 (some 44) (.pointer (some ⟨g, 2, none⟩)) rfl rfl (by kernel_rfl) (by kernel_rfl) ?_
  refine Wk.rPure 5 (some 45) (.slice Ay yb.length cy) rfl rfl (by kernel_rfl) (Wk.load1 26 (.tmp 44) rfl (by kernel_rfl) ⟨g, 2, none⟩ (by kernel_rfl) (.slice Ay yb.length cy) ((cell_of_row _ _ 2 _ _ _ (Wk.Chg.hp ch6 hb3 trivial)).trans rfl)) ?_
  refine Wk.rPure 6 (some 46) (.int .i64 ((nly : Nat) : Int)) rfl rfl (by kernel_rfl) (by kernel_rfl) ?_
  refine Wk.rPure 7 (some 47) (.slice (Mur.cutA Ay cy 0) nly cy) rfl rfl (by kernel_rfl) (Mur.run_op_cut_to 26 (.tmp 45) (.tmp 46) rfl 5 Try.underlying26 (by kernel_rfl) Ay yb.length cy nly (by kernel_rfl) (by kernel_rfl) (by omega) hyc) ?_
  refine Wk.rCall 8 (some 48) 21 [.tmp 47] #[26] [.slice (Mur.cutA Ay cy 0) nly cy] rfl rfl (by kernel_rfl) rfl (by kernel_rfl) (by kernel_rfl) ?_
  obtain ⟨_, _, e_, _, _, hbyy0⟩ := Mur.own_byt hD.oy
  cases e_
  replace hbyy0 : Byt w Ay yb.length yb := hbyy0
  have kk3 := Wk.Chg.step kk2 ch3 trivial
  have kk4 := Wk.Chg.step kk3 ch4 ⟨.inl (by simp), trivial⟩
  have kk5 := Wk.Chg.step kk4 ch5 ⟨.inl (by simp), trivial⟩
  have kk6 := Wk.Chg.step kk5 ch6 trivial
  refine (Clone_any (Mur.cutA Ay cy 0) nly cy (yb.take nly) W6 (Mur.byt_to (Mur.byt_chg hbyy0 kk6 (fun q off e hl => ⟨by have := hyl q off e; omega, trivial⟩)) nly (by omega) hyc) (by simp only at hyc; omega) (Mur.cut_none hyN) (by omega)).mono ?_
  rintro _ W7 ⟨vv2, rfl, HO2, ch7⟩
  obtain ⟨AA2, nn2, rfl, hcc2, hmm2, hN2, HS2, hl2⟩ := Wk.own_sl HO2
  have zz7 := ch7.size
  have lt2 := World.ownsRow.lt HO2
  refine ⟨_, rfl, ?_⟩
  refine Wk.rPure 9 (some 49) (.int .i64 ((nly : Nat) : Int)) rfl rfl (by kernel_rfl) (by kernel_rfl) ?_
  refine Wk.rPure 10 (some 50) (.pointer (some ⟨g, 2, none⟩)) rfl rfl (by kernel_rfl) (by kernel_rfl) ?_
  refine Wk.rPure 11 (some 51) (.pointer (some ⟨g, 2, none⟩)) rfl rfl (by kernel_rfl) (by kernel_rfl) ?_
  refine Wk.rExS 12 none _ rfl rfl (by kernel_rfl) (Wk.store1 26 (.tmp 51) (.tmp 48) rfl (by kernel_rfl) g 2 (by kernel_rfl) (.slice AA2 nly nn2) (by kernel_rfl) rfl 51 #[.slice AA1 nlx nn1, .int .i64 ((nlx : Nat) : Int), .slice Ay yb.length cy, .int .i64 ((yn : Nat) : Int)] (Wk.Chg.hp ch7 (Wk.Chg.hp ch6 hb3 trivial) trivial) (by simp)) ?_
  rintro W8 ⟨hb4, ch8⟩
  replace hb4 : W8.heap[g]? = some (.cells #[.slice AA1 nlx nn1, .int .i64 ((nlx : Nat) : Int), .slice AA2 nly nn2, .int .i64 ((yn : Nat) : Int)] 51 (0, 0)) := hb4
  have zz8 := ch8.size
  refine Wk.rPure 13 (some 52) (.pointer (some ⟨g, 2, none⟩)) rfl rfl (by kernel_rfl) (by kernel_rfl) ?_
  refine Wk.rPure 14 (some 53) (.pointer (some ⟨g, 3, none⟩)) rfl rfl (by kernel_rfl) (by kernel_rfl) ?_
  refine Wk.rExS 15 none _ rfl rfl (by kernel_rfl) (Wk.store1 3 (.tmp 53) (.tmp 49) rfl (by kernel_rfl) g 3 (by kernel_rfl) (.int .i64 ((nly : Nat) : Int)) (by kernel_rfl) rfl 51 #[.slice AA1 nlx nn1, .int .i64 ((nlx : Nat) : Int), .slice AA2 nly nn2, .int .i64 ((yn : Nat) : Int)] hb4 (by simp)) ?_
  rintro W9 ⟨hb5, ch9⟩
  replace hb5 : W9.heap[g]? = some (.cells #[.slice AA1 nlx nn1, .int .i64 ((nlx : Nat) : Int), .slice AA2 nly nn2, .int .i64 ((nly : Nat) : Int)] 51 (0, 0)) := hb5
  have zz9 := ch9.size
  refine Wk.rEnd 16 rfl ?_
  refine Wk.inN ?_
  refine Wk.nxt ?_
  refine Wk.reg ?_
  refine Wk.rPure 0 (some 13) (.int .i64 1) rfl rfl (by kernel_rfl) (by kernel_rfl) ?_
  refine Wk.rPure 1 (some 14) (.int .i64 2) rfl rfl (by kernel_rfl) (Wk.int64 (n := 1 + 1) (z := 2) (by omega) (by omega) (by omega) (by kernel_rfl)) ?_
  refine Wk.rPure 2 (some 4) (.int .i64 2) rfl rfl (by kernel_rfl) (by kernel_rfl) ?_
  refine Wk.rEnd 3 rfl ?_
  refine Wk.nxt ?_
  refine Wk.rdS ?_
  refine wp_seq ?_
  refine wp_seq ?_
  refine Wk.reg ?_
  refine Wk.rPure 0 (some 7) (.pointer (some ⟨g, 0, none⟩)) rfl rfl (by kernel_rfl) (by kernel_rfl) ?_
  refine Wk.rPure 1 (some 8) (.bool true) rfl rfl (by kernel_rfl) (by kernel_rfl) ?_
  refine Wk.rPure 2 (some 9) (.bool true) rfl rfl (by kernel_rfl) (by kernel_rfl) ?_
  refine Wk.rPure 3 (some 10) (.int .i64 2) rfl rfl (by kernel_rfl) (by kernel_rfl) ?_
  refine Wk.rPure 4 (some 11) (.bool false) rfl rfl (by kernel_rfl) (Wk.boolF (b := decide ((2 : Int) < (2 : Int))) (decide_eq_false (by decide)) (by kernel_rfl)) ?_
  refine Wk.rPure 5 (some 12) (.bool false) rfl rfl (by kernel_rfl) (by kernel_rfl) ?_
  refine Wk.rEnd 6 rfl ?_
  refine Wk.nxt ?_
  refine wp_cond_false (by kernel_rfl) ?_
  refine wp_exit ?_
  refine Wk.thX ?_
  refine Wk.thX ?_
  refine Wk.inX ?_
  have kk7 := Wk.Chg.step kk6 ch7 trivial
  have kk8 := Wk.Chg.step kk7 ch8 ⟨.inl (by simp), trivial⟩
  have kk9 := Wk.Chg.step kk8 ch9 ⟨.inl (by simp), trivial⟩
  refine Wk.retN (.tuple #[]) rfl (by kernel_rfl) ?_
  refine ⟨foot g (.slice AA1 nlx nn1) (.slice AA2 nly nn2), rfl, ⟨_, _, ⟨hb5, (by rw [show (xb.take nlx).length = nlx by simp only [List.length_take]; omega]; exact (Mur.own_le (Wk.own_chg (Wk.own_chg (Wk.own_chg (Wk.own_chg (Wk.own_chg (Wk.own_chg HO1 ch4 (fun g e _ _ => ⟨by have := lt1 g e; omega, trivial⟩)) ch5 (fun g e _ _ => ⟨by have := lt1 g e; omega, trivial⟩)) ch6 (fun g e _ _ => trivial)) ch7 (fun g e _ _ => trivial)) ch8 (fun g e _ _ => ⟨by have := lt1 g e; omega, trivial⟩)) ch9 (fun g e _ _ => ⟨by have := lt1 g e; omega, trivial⟩)) (by omega))), (by rw [show (yb.take nly).length = nly by simp only [List.length_take]; omega]; exact (Mur.own_le (Wk.own_chg (Wk.own_chg HO2 ch8 (fun g e _ _ => ⟨by have := lt2 g e; omega, trivial⟩)) ch9 (fun g e _ _ => ⟨by have := lt2 g e; omega, trivial⟩)) (by omega))), ?_, ⟨(by simp only [List.length_take]; omega), (by simp only [List.length_take]; omega)⟩, ⟨(by simp only [List.length_take]; omega), (by simp only [List.length_take]; omega)⟩⟩, rfl⟩, kk9.more (by simp [foot]), ?_⟩
  · intro k h1 h2; have := lt1 k h1; have := lt2 k h2; omega
  · refine Mur.newOr_iff.2 fun t ht => ?_
    rcases List.mem_cons.1 ht with rfl | ht
    · exact .inl (by simp [foot])
    · rcases List.mem_append.1 ht with ht | ht
      · exact .inr (by have := lt1 t (Mur.mem_blk_iff.1 ht); omega)
      · exact .inr (by have := lt2 t (Mur.mem_blk_iff.1 ht); omega)
end Go.Proofs.Ytddabjlhidokaaa
