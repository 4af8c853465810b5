/- The disk's copy; calls on none. -/
import Derived.Test.YtddabjlhidokaaaDkC
namespace Go.Proofs.Ytddabjlhidokaaa
open Go.RowKit
open Mur (Fil Dk Dsk DskF Byt b8s foot hasF fE)
set_option maxRecDepth 100000
set_option maxHeartbeats 4000000
theorem Copy_any (g : Nat) (d : Dk) (F : List Nat) (w : World) (h : DskF 5 51 w g d F) : Calls Try.prog 19 #[.pointer (some ⟨g, 0, none⟩)] w fun e w' => ∃ F', e = .returned (.pointer (some ⟨w.heap.size, 0, none⟩)) ∧ DskF 5 51 w' w.heap.size d F' ∧ Wk.Chg [] w w' := by
  obtain ⟨⟨xb, xn⟩, ⟨yb, yn⟩⟩ := d
  obtain ⟨vx, vy, hD, rfl⟩ := h.out
  have hkx := hD.kx
  have hky := hD.ky
  simp only [Fil.ok] at hkx hky
  obtain ⟨Ax, cx, rfl, hxc, hxm, hxN, hxS, hxl⟩ := Wk.own_sl hD.ox
  obtain ⟨Ay, cy, rfl, hyc, hym, hyN, hyS, hyl⟩ := Wk.own_sl hD.oy
  have ltx := World.ownsRow.lt hD.ox
  have lty := World.ownsRow.lt hD.oy
  have hgl := hD.lt
  have hp := hD.hp
  simp only at hp
  obtain ⟨_, _, e_, _, _, hbyx0⟩ := Mur.own_byt hD.ox
  cases e_
  replace hbyx0 : Byt w Ax xb.length xb := hbyx0
  obtain ⟨_, _, e_, _, _, hbyy0⟩ := Mur.own_byt hD.oy
  cases e_
  replace hbyy0 : Byt w Ay yb.length yb := hbyy0
  refine calls_of_wp Try.func19 rfl ?_
  refine wp_seq ?_
  refine Wk.reg ?_
  refine Wk.rPure 0 (some 2) (.pointer none) rfl rfl (by kernel_rfl) (by kernel_rfl) ?_
  refine Wk.rEnd 1 rfl ?_
  refine Wk.nxt ?_
  refine wp_seq ?_
  refine wp_seq ?_
  refine Wk.reg ?_
  refine Wk.rPure 0 (some 5) (.pointer (some ⟨g, 0, none⟩)) rfl rfl (by kernel_rfl) (by kernel_rfl) ?_
  refine Wk.rPure 1 (some 6) (.bool false) rfl rfl (by kernel_rfl) (by kernel_rfl) ?_
  refine Wk.rEnd 2 rfl ?_
  refine Wk.nxt ?_
  refine wp_cond_false (by kernel_rfl) ?_
  refine wp_skip ?_
  refine Wk.nxt ?_
  refine wp_seq ?_
  refine Wk.reg ?_
  refine Wk.rPure 0 (some 7) (.pointer (some ⟨g, 0, none⟩)) rfl rfl (by kernel_rfl) (by kernel_rfl) ?_
  refine Wk.rPure 1 (some 8) (.pointer (some ⟨g, 0, none⟩)) rfl rfl (by kernel_rfl) (by kernel_rfl) ?_
  refine Wk.rPure 2 (some 9) (.agg #[.slice Ax xb.length cx, .int .i64 ((xn : Nat) : Int), .slice Ay yb.length cy, .int .i64 ((yn : Nat) : Int)]) rfl rfl (by kernel_rfl) (Wk.loadR 51 (.tmp 8) rfl _ Try.underlying51 rfl g 0 (by kernel_rfl) ([.slice Ax xb.length cx, .int .i64 ((xn : Nat) : Int), .slice Ay yb.length cy, .int .i64 ((yn : Nat) : Int)]) (by kernel_rfl) (Wk.range_row hp)) ?_
  refine Wk.rEx 3 (some 3) _ rfl rfl (by kernel_rfl) (Wk.new_ex (.pointer (some ⟨w.heap.size, 0, none⟩)) #[.slice none 0 0, .int .i64 0, .slice none 0 0, .int .i64 0] 51 (by kernel_rfl)) ?_
  rintro _ W1 ⟨rfl, hb1, ch1, sz1⟩
  have zz1 := ch1.size
  refine Wk.rExS 4 none _ rfl rfl (by kernel_rfl) (Wk.storeR 51 (.tmp 3) (.tmp 9) rfl w.heap.size 0 (by kernel_rfl) ([.slice Ax xb.length cx, .int .i64 ((xn : Nat) : Int), .slice Ay yb.length cy, .int .i64 ((yn : Nat) : Int)]) (by kernel_rfl) (by kernel_rfl) (by intro v hv; simp at hv; rcases hv with h | h | h | h <;> (subst h; rfl)) 51 ([.slice none 0 0, .int .i64 0, .slice none 0 0, .int .i64 0]) hb1 (by simp)) ?_
  rintro W2 ⟨hb2, ch2⟩
  replace hb2 : W2.heap[w.heap.size]? = some (.cells #[.slice Ax xb.length cx, .int .i64 ((xn : Nat) : Int), .slice Ay yb.length cy, .int .i64 ((yn : Nat) : Int)] 51 (0, 0)) := hb2
  have zz2 := ch2.size
  refine Wk.rEnd 5 rfl ?_
  refine Wk.nxt ?_
  refine wp_seq ?_
  refine wp_seq ?_
  refine Wk.reg ?_
  refine Wk.rPure 0 (some 10) (.int .i64 0) rfl rfl (by kernel_rfl) (by kernel_rfl) ?_
  refine Wk.rEnd 1 rfl ?_
  refine Wk.nxt ?_
  refine wp_block ?_
  refine Wk.loopN 3 ?_
  refine Wk.rdS ?_
  refine wp_seq ?_
  refine Wk.reg ?_
  refine Wk.rPure 0 (some 11) (.bool true) rfl rfl (by kernel_rfl) (Wk.boolT (b := decide ((0 : Int) < (2 : Int))) (decide_eq_true (by decide)) (by kernel_rfl)) ?_
  refine Wk.rEnd 1 rfl ?_
  refine Wk.nxt ?_
  refine wp_seq ?_
  refine wp_cond_true (by kernel_rfl) ?_
  refine wp_skip ?_
  refine Wk.nxt ?_
  refine wp_seq ?_
  refine wp_block ?_
  refine wp_seq ?_
  refine Wk.reg ?_
  refine Wk.rPure 0 (some 12) (.int .i64 0) rfl rfl (by kernel_rfl) (by kernel_rfl) ?_
  refine Wk.rPure 1 (some 4) (.int .i64 0) rfl rfl (by kernel_rfl) (by kernel_rfl) ?_
  refine Wk.rEnd 2 rfl ?_
  refine Wk.nxt ?_
  refine Wk.reg ?_
  refine Wk.rPure 0 (some 13) (.int .i64 0) rfl rfl (by kernel_rfl) (by kernel_rfl) ?_
  refine Wk.rPure 1 (some 14) (.int .i64 0) rfl rfl (by kernel_rfl) (by kernel_rfl) ?_
  refine Wk.rPure 2 (some 15) (.pointer (some ⟨w.heap.size, 0, none⟩)) rfl rfl (by kernel_rfl) (by kernel_rfl) ?_
  refine Wk.rPure 3 (some 16) (.pointer (some ⟨w.heap.size, 0, none⟩)) rfl rfl (by kernel_rfl) (Wk.index_arr 49 48 (.tmp 15) (.tmp 14) rfl 2 Try.underlying49 2 (by kernel_rfl) w.heap.size 0 0 .i64 (by kernel_rfl) (by kernel_rfl) (by decide)) ?_
  refine Wk.rPure 4 (some 17) (.pointer (some ⟨w.heap.size, 0, none⟩)) rfl rfl (by kernel_rfl) (by kernel_rfl) ?_
  refine Wk.rPure 5 (some 18) (.slice Ax xb.length cx) rfl rfl (by kernel_rfl) (Wk.load1 26 (.tmp 17) rfl (by kernel_rfl) ⟨w.heap.size, 0, none⟩ (by kernel_rfl) (.slice Ax xb.length cx) ((cell_of_row _ _ 0 _ _ _ hb2).trans rfl)) ?_
  refine Wk.rCall 6 (some 19) 21 [.tmp 18] #[26] [.slice Ax xb.length cx] rfl rfl (by kernel_rfl) rfl (by kernel_rfl) (by kernel_rfl) ?_
  have kk1 : Wk.Chg [] w W1 := Wk.Chg.step ((Wk.Chg.refl _).more (by simp)) ch1 trivial
  have kk2 := Wk.Chg.step kk1 ch2 ⟨.inr (by omega), trivial⟩
  refine (Clone_any Ax xb.length cx xb W2 (Mur.byt_chg hbyx0 kk2 (fun _ _ _ _ => trivial)) (by simp only at hxc; omega) hxN (by omega)).mono ?_
  rintro _ W3 ⟨vv1, rfl, HO1, ch3⟩
  obtain ⟨AA1, nn1, rfl, hcc1, hmm1, hN1, HS1, hl1⟩ := Wk.own_sl HO1
  have zz3 := ch3.size
  have lt1 := World.ownsRow.lt HO1
  refine ⟨_, rfl, ?_⟩
  refine Wk.rPure 7 (some 20) (.pointer (some ⟨w.heap.size, 0, none⟩)) rfl rfl (by kernel_rfl) (by kernel_rfl) ?_
  refine Wk.rPure 8 (some 21) (.pointer (some ⟨w.heap.size, 0, none⟩)) rfl rfl (by kernel_rfl) (Wk.index_arr 49 48 (.tmp 20) (.tmp 13) rfl 2 Try.underlying49 2 (by kernel_rfl) w.heap.size 0 0 .i64 (by kernel_rfl) (by kernel_rfl) (by decide)) ?_
  refine Wk.rPure 9 (some 22) (.pointer (some ⟨w.heap.size, 0, none⟩)) rfl rfl (by kernel_rfl) (by kernel_rfl) ?_
  refine Wk.rExS 10 none _ rfl rfl (by kernel_rfl) (Wk.store1 26 (.tmp 22) (.tmp 19) rfl (by kernel_rfl) w.heap.size 0 (by kernel_rfl) (.slice AA1 xb.length nn1) (by kernel_rfl) rfl 51 #[.slice Ax xb.length cx, .int .i64 ((xn : Nat) : Int), .slice Ay yb.length cy, .int .i64 ((yn : Nat) : Int)] (Wk.Chg.hp ch3 hb2 trivial) (by simp)) ?_
  rintro W4 ⟨hb3, ch4⟩
  replace hb3 : W4.heap[w.heap.size]? = some (.cells #[.slice AA1 xb.length nn1, .int .i64 ((xn : Nat) : Int), .slice Ay yb.length cy, .int .i64 ((yn : Nat) : Int)] 51 (0, 0)) := hb3
  have zz4 := ch4.size
  refine Wk.rEnd 11 rfl ?_
  refine Wk.inN ?_
  refine Wk.nxt ?_
  refine Wk.reg ?_
  refine Wk.rPure 0 (some 23) (.int .i64 1) rfl rfl (by kernel_rfl) (Wk.int64 (n := 0 + 1) (z := 1) (by omega) (by omega) (by omega) (by kernel_rfl)) ?_
  refine Wk.rPure 1 (some 10) (.int .i64 1) rfl rfl (by kernel_rfl) (by kernel_rfl) ?_
  refine Wk.rEnd 2 rfl ?_
  refine Wk.nxt ?_
  refine Wk.rdS ?_
  refine wp_seq ?_
  refine Wk.reg ?_
  refine Wk.rPure 0 (some 11) (.bool true) rfl rfl (by kernel_rfl) (Wk.boolT (b := decide ((1 : Int) < (2 : Int))) (decide_eq_true (by decide)) (by kernel_rfl)) ?_
  refine Wk.rEnd 1 rfl ?_
  refine Wk.nxt ?_
  refine wp_seq ?_
  refine wp_cond_true (by kernel_rfl) ?_
  refine wp_skip ?_
  refine Wk.nxt ?_
  refine wp_seq ?_
  refine wp_block ?_
  refine wp_seq ?_
  refine Wk.reg ?_
  refine Wk.rPure 0 (some 12) (.int .i64 1) rfl rfl (by kernel_rfl) (by kernel_rfl) ?_
  refine Wk.rPure 1 (some 4) (.int .i64 1) rfl rfl (by kernel_rfl) (by kernel_rfl) ?_
  refine Wk.rEnd 2 rfl ?_
  refine Wk.nxt ?_
  refine Wk.reg ?_
  refine Wk.rPure 0 (some 13) (.int .i64 1) rfl rfl (by kernel_rfl) (by kernel_rfl) ?_
  refine Wk.rPure 1 (some 14) (.int .i64 1) rfl rfl (by kernel_rfl) (by kernel_rfl) ?_
  refine Wk.rPure 2 (some 15) (.pointer (some ⟨w.heap.size, 0, none⟩)) rfl rfl (by kernel_rfl) (by kernel_rfl) ?_
  refine Wk.rPure 3 (some 16) (.pointer (some ⟨w.heap.size, 2, none⟩)) rfl rfl (by kernel_rfl) (Wk.index_arr 49 48 (.tmp 15) (.tmp 14) rfl 2 Try.underlying49 2 (by kernel_rfl) w.heap.size 0 1 .i64 (by kernel_rfl) (by kernel_rfl) (by decide)) ?_
  refine Wk.rPure 4 (some 17) (.pointer (some ⟨w.heap.size, 2, none⟩)) rfl rfl (by kernel_rfl) (by kernel_rfl) ?_
  refine Wk.rPure 5 (some 18) (.slice Ay yb.length cy) rfl rfl (by kernel_rfl) (Wk.load1 26 (.tmp 17) rfl (by kernel_rfl) ⟨w.heap.size, 2, none⟩ (by kernel_rfl) (.slice Ay yb.length cy) ((cell_of_row _ _ 2 _ _ _ hb3).trans rfl)) ?_
  refine Wk.rCall 6 (some 19) 21 [.tmp 18] #[26] [.slice Ay yb.length cy] rfl rfl (by kernel_rfl) rfl (by kernel_rfl) (by kernel_rfl) ?_
  have kk3 := Wk.Chg.step kk2 ch3 trivial
  have kk4 := Wk.Chg.step kk3 ch4 ⟨.inr (by omega), trivial⟩
  refine (Clone_any Ay yb.length cy yb W4 (Mur.byt_chg hbyy0 kk4 (fun _ _ _ _ => trivial)) (by simp only at hyc; omega) hyN (by omega)).mono ?_
  rintro _ W5 ⟨vv2, rfl, HO2, ch5⟩
  obtain ⟨AA2, nn2, rfl, hcc2, hmm2, hN2, HS2, hl2⟩ := Wk.own_sl HO2
  have zz5 := ch5.size
  have lt2 := World.ownsRow.lt HO2
  refine ⟨_, rfl, ?_⟩
  refine Wk.rPure 7 (some 20) (.pointer (some ⟨w.heap.size, 0, none⟩)) rfl rfl (by kernel_rfl) (by kernel_rfl) ?_
  refine Wk.rPure 8 (some 21) (.pointer (some ⟨w.heap.size, 2, none⟩)) rfl rfl (by kernel_rfl) (Wk.index_arr 49 48 (.tmp 20) (.tmp 13) rfl 2 Try.underlying49 2 (by kernel_rfl) w.heap.size 0 1 .i64 (by kernel_rfl) (by kernel_rfl) (by decide)) ?_
  refine Wk.rPure 9 (some 22) (.pointer (some ⟨w.heap.size, 2, none⟩)) rfl rfl (by kernel_rfl) (by kernel_rfl) ?_
  refine Wk.rExS 10 none _ rfl rfl (by kernel_rfl) (Wk.store1 26 (.tmp 22) (.tmp 19) rfl (by kernel_rfl) w.heap.size 2 (by kernel_rfl) (.slice AA2 yb.length nn2) (by kernel_rfl) rfl 51 #[.slice AA1 xb.length nn1, .int .i64 ((xn : Nat) : Int), .slice Ay yb.length cy, .int .i64 ((yn : Nat) : Int)] (Wk.Chg.hp ch5 hb3 trivial) (by simp)) ?_
  rintro W6 ⟨hb4, ch6⟩
  replace hb4 : W6.heap[w.heap.size]? = some (.cells #[.slice AA1 xb.length nn1, .int .i64 ((xn : Nat) : Int), .slice AA2 yb.length nn2, .int .i64 ((yn : Nat) : Int)] 51 (0, 0)) := hb4
  have zz6 := ch6.size
  refine Wk.rEnd 11 rfl ?_
  refine Wk.inN ?_
  refine Wk.nxt ?_
  refine Wk.reg ?_
  refine Wk.rPure 0 (some 23) (.int .i64 2) rfl rfl (by kernel_rfl) (Wk.int64 (n := 1 + 1) (z := 2) (by omega) (by omega) (by omega) (by kernel_rfl)) ?_
  refine Wk.rPure 1 (some 10) (.int .i64 2) rfl rfl (by kernel_rfl) (by kernel_rfl) ?_
  refine Wk.rEnd 2 rfl ?_
  refine Wk.nxt ?_
  refine Wk.rdS ?_
  refine wp_seq ?_
  refine Wk.reg ?_
  refine Wk.rPure 0 (some 11) (.bool false) rfl rfl (by kernel_rfl) (Wk.boolF (b := decide ((2 : Int) < (2 : Int))) (decide_eq_false (by decide)) (by kernel_rfl)) ?_
  refine Wk.rEnd 1 rfl ?_
  refine Wk.nxt ?_
  refine wp_seq ?_
  refine wp_cond_false (by kernel_rfl) ?_
  refine wp_exit ?_
  refine Wk.thX ?_
  refine Wk.thX ?_
  refine Wk.inX ?_
  refine Wk.nxt ?_
  refine wp_seq ?_
  refine Wk.reg ?_
  refine Wk.rPure 0 (some 2) (.pointer (some ⟨w.heap.size, 0, none⟩)) rfl rfl (by kernel_rfl) (by kernel_rfl) ?_
  refine Wk.rEnd 1 rfl ?_
  refine Wk.nxt ?_
  refine wp_ret ?_
  have kk5 := Wk.Chg.step kk4 ch5 trivial
  have kk6 := Wk.Chg.step kk5 ch6 ⟨.inr (by omega), trivial⟩
  refine Wk.ret (.pointer (some ⟨w.heap.size, 0, none⟩)) rfl (by kernel_rfl) ?_
  refine ⟨foot w.heap.size (.slice AA1 xb.length nn1) (.slice AA2 yb.length nn2), rfl, ⟨_, _, ⟨hb4, (Mur.own_le (Wk.own_chg (Wk.own_chg (Wk.own_chg HO1 ch4 (fun g e _ _ => ⟨by have := lt1 g e; omega, trivial⟩)) ch5 (fun g e _ _ => trivial)) ch6 (fun g e _ _ => ⟨by have := lt1 g e; omega, trivial⟩)) (by omega)), (Mur.own_le (Wk.own_chg HO2 ch6 (fun g e _ _ => ⟨by have := lt2 g e; omega, trivial⟩)) (by omega)), ?_, hkx, hky⟩, rfl⟩, kk6⟩
  intro k h1 h2; have := lt1 k h1; have := lt2 k h2; omega
theorem Append_nil (f : Int) (A : Option Addr) (n c : Nat) (w : World) : Calls Try.prog 10 #[.pointer none, .int .i64 f, .slice A n c] w fun e w' => e = .returned (.int .i64 1) ∧ w = w' := by
  refine calls_of_wp Try.func10 rfl ?_
  refine wp_seq ?_
  refine Wk.reg ?_
  refine Wk.rPure 0 (some 6) (.int .i64 0) rfl rfl (by kernel_rfl) (by kernel_rfl) ?_
  refine Wk.rEnd 1 rfl ?_
  refine Wk.nxt ?_
  refine wp_seq ?_
  refine wp_seq ?_
  refine Wk.reg ?_
  refine Wk.rPure 0 (some 9) (.pointer none) rfl rfl (by kernel_rfl) (by kernel_rfl) ?_
  refine Wk.rPure 1 (some 10) (.int .i64 f) rfl rfl (by kernel_rfl) (by kernel_rfl) ?_
  refine Wk.rCall 2 (some 11) 20 [.tmp 9, .tmp 10] #[23, 3] [.pointer none, .int .i64 f] rfl rfl (by kernel_rfl) rfl (by kernel_rfl) (by kernel_rfl) ?_
  refine (asked_nil f w).mono ?_
  rintro _ _ ⟨rfl, rfl⟩
  refine ⟨_, rfl, ?_⟩
  refine Wk.rPure 3 (some 7) (.int .i64 1) rfl rfl (by kernel_rfl) (by kernel_rfl) ?_
  refine Wk.rEnd 4 rfl ?_
  refine Wk.nxt ?_
  refine wp_seq ?_
  refine Wk.reg ?_
  refine Wk.rPure 0 (some 12) (.int .i64 1) rfl rfl (by kernel_rfl) (by kernel_rfl) ?_
  refine Wk.rPure 1 (some 13) (.bool true) rfl rfl (by kernel_rfl) (Wk.boolT (b := ((1 : Int) != (0 : Int))) (bne_iff_ne.2 (by decide)) (by kernel_rfl)) ?_
  refine Wk.rEnd 2 rfl ?_
  refine Wk.nxt ?_
  refine wp_cond_true (by kernel_rfl) ?_
  refine wp_seq ?_
  refine Wk.reg ?_
  refine Wk.rPure 0 (some 14) (.int .i64 1) rfl rfl (by kernel_rfl) (by kernel_rfl) ?_
  refine Wk.rPure 1 (some 6) (.int .i64 1) rfl rfl (by kernel_rfl) (by kernel_rfl) ?_
  refine Wk.rEnd 2 rfl ?_
  refine Wk.nxt ?_
  refine wp_ret ?_
  refine Wk.thR ?_
  refine Wk.ret (.int .i64 1) rfl (by kernel_rfl) ?_
  exact ⟨rfl, rfl⟩
theorem Sync_nil (f : Int) (w : World) : Calls Try.prog 11 #[.pointer none, .int .i64 f] w fun e w' => e = .returned (.int .i64 1) ∧ w = w' := by
  refine calls_of_wp Try.func11 rfl ?_
  refine wp_seq ?_
  refine Wk.reg ?_
  refine Wk.rPure 0 (some 4) (.int .i64 0) rfl rfl (by kernel_rfl) (by kernel_rfl) ?_
  refine Wk.rEnd 1 rfl ?_
  refine Wk.nxt ?_
  refine wp_seq ?_
  refine Wk.reg ?_
  refine Wk.rPure 0 (some 6) (.pointer none) rfl rfl (by kernel_rfl) (by kernel_rfl) ?_
  refine Wk.rPure 1 (some 7) (.int .i64 f) rfl rfl (by kernel_rfl) (by kernel_rfl) ?_
  refine Wk.rCall 2 (some 8) 20 [.tmp 6, .tmp 7] #[23, 3] [.pointer none, .int .i64 f] rfl rfl (by kernel_rfl) rfl (by kernel_rfl) (by kernel_rfl) ?_
  refine (asked_nil f w).mono ?_
  rintro _ _ ⟨rfl, rfl⟩
  refine ⟨_, rfl, ?_⟩
  refine Wk.rPure 3 (some 5) (.int .i64 1) rfl rfl (by kernel_rfl) (by kernel_rfl) ?_
  refine Wk.rEnd 4 rfl ?_
  refine Wk.nxt ?_
  refine wp_seq ?_
  refine wp_seq ?_
  refine Wk.reg ?_
  refine Wk.rPure 0 (some 9) (.int .i64 1) rfl rfl (by kernel_rfl) (by kernel_rfl) ?_
  refine Wk.rPure 1 (some 10) (.bool false) rfl rfl (by kernel_rfl) (Wk.boolF (b := ((1 : Int) == (0 : Int))) (beq_eq_false_iff_ne.2 (by decide)) (by kernel_rfl)) ?_
  refine Wk.rEnd 2 rfl ?_
  refine Wk.nxt ?_
  refine wp_cond_false (by kernel_rfl) ?_
  refine wp_skip ?_
  refine Wk.nxt ?_
  refine wp_seq ?_
  refine Wk.reg ?_
  refine Wk.rPure 0 (some 25) (.int .i64 1) rfl rfl (by kernel_rfl) (by kernel_rfl) ?_
  refine Wk.rPure 1 (some 4) (.int .i64 1) rfl rfl (by kernel_rfl) (by kernel_rfl) ?_
  refine Wk.rEnd 2 rfl ?_
  refine Wk.nxt ?_
  refine wp_ret ?_
  refine Wk.ret (.int .i64 1) rfl (by kernel_rfl) ?_
  exact ⟨rfl, rfl⟩
theorem Clear_nil (f : Int) (w : World) : Calls Try.prog 12 #[.pointer none, .int .i64 f] w fun e w' => e = .returned (.int .i64 1) ∧ w = w' := by
  refine calls_of_wp Try.func12 rfl ?_
  refine wp_seq ?_
  refine Wk.reg ?_
  refine Wk.rPure 0 (some 4) (.int .i64 0) rfl rfl (by kernel_rfl) (by kernel_rfl) ?_
  refine Wk.rEnd 1 rfl ?_
  refine Wk.nxt ?_
  refine wp_seq ?_
  refine Wk.reg ?_
  refine Wk.rPure 0 (some 6) (.pointer none) rfl rfl (by kernel_rfl) (by kernel_rfl) ?_
  refine Wk.rPure 1 (some 7) (.int .i64 f) rfl rfl (by kernel_rfl) (by kernel_rfl) ?_
  refine Wk.rCall 2 (some 8) 20 [.tmp 6, .tmp 7] #[23, 3] [.pointer none, .int .i64 f] rfl rfl (by kernel_rfl) rfl (by kernel_rfl) (by kernel_rfl) ?_
  refine (asked_nil f w).mono ?_
  rintro _ _ ⟨rfl, rfl⟩
  refine ⟨_, rfl, ?_⟩
  refine Wk.rPure 3 (some 5) (.int .i64 1) rfl rfl (by kernel_rfl) (by kernel_rfl) ?_
  refine Wk.rEnd 4 rfl ?_
  refine Wk.nxt ?_
  refine wp_seq ?_
  refine wp_seq ?_
  refine Wk.reg ?_
  refine Wk.rPure 0 (some 9) (.int .i64 1) rfl rfl (by kernel_rfl) (by kernel_rfl) ?_
  refine Wk.rPure 1 (some 10) (.bool false) rfl rfl (by kernel_rfl) (Wk.boolF (b := ((1 : Int) == (0 : Int))) (beq_eq_false_iff_ne.2 (by decide)) (by kernel_rfl)) ?_
  refine Wk.rEnd 2 rfl ?_
  refine Wk.nxt ?_
  refine wp_cond_false (by kernel_rfl) ?_
  refine wp_skip ?_
  refine Wk.nxt ?_
  refine wp_seq ?_
  refine Wk.reg ?_
  refine Wk.rPure 0 (some 17) (.int .i64 1) rfl rfl (by kernel_rfl) (by kernel_rfl) ?_
  refine Wk.rPure 1 (some 4) (.int .i64 1) rfl rfl (by kernel_rfl) (by kernel_rfl) ?_
  refine Wk.rEnd 2 rfl ?_
  refine Wk.nxt ?_
  refine wp_ret ?_
  refine Wk.ret (.int .i64 1) rfl (by kernel_rfl) ?_
  exact ⟨rfl, rfl⟩
theorem Bytes_nil (f : Int) (w : World) : Calls Try.prog 13 #[.pointer none, .int .i64 f] w fun e w' => e = .returned (.slice none 0 0) ∧ w = w' := by
  refine calls_of_wp Try.func13 rfl ?_
  refine wp_seq ?_
  refine Wk.reg ?_
  refine Wk.rPure 0 (some 4) (.slice none 0 0) rfl rfl (by kernel_rfl) (by kernel_rfl) ?_
  refine Wk.rEnd 1 rfl ?_
  refine Wk.nxt ?_
  refine wp_seq ?_
  refine wp_seq ?_
  refine Wk.reg ?_
  refine Wk.rPure 0 (some 5) (.pointer none) rfl rfl (by kernel_rfl) (by kernel_rfl) ?_
  refine Wk.rPure 1 (some 6) (.int .i64 f) rfl rfl (by kernel_rfl) (by kernel_rfl) ?_
  refine Wk.rCall 2 (some 7) 20 [.tmp 5, .tmp 6] #[23, 3] [.pointer none, .int .i64 f] rfl rfl (by kernel_rfl) rfl (by kernel_rfl) (by kernel_rfl) ?_
  refine (asked_nil f w).mono ?_
  rintro _ _ ⟨rfl, rfl⟩
  refine ⟨_, rfl, ?_⟩
  refine Wk.rPure 3 (some 8) (.bool true) rfl rfl (by kernel_rfl) (Wk.boolT (b := ((1 : Int) != (0 : Int))) (bne_iff_ne.2 (by decide)) (by kernel_rfl)) ?_
  refine Wk.rEnd 4 rfl ?_
  refine Wk.nxt ?_
  refine wp_cond_true (by kernel_rfl) ?_
  refine wp_seq ?_
  refine Wk.reg ?_
  refine Wk.rPure 0 (some 4) (.slice none 0 0) rfl rfl (by kernel_rfl) (by kernel_rfl) ?_
  refine Wk.rEnd 1 rfl ?_
  refine Wk.nxt ?_
  refine wp_ret ?_
  refine Wk.thR ?_
  refine Wk.ret (.slice none 0 0) rfl (by kernel_rfl) ?_
  exact ⟨rfl, rfl⟩
theorem Synced_nil (f : Int) (w : World) : Calls Try.prog 14 #[.pointer none, .int .i64 f] w fun e w' => e = .returned (.int .i64 0) ∧ w = w' := by
  refine calls_of_wp Try.func14 rfl ?_
  refine wp_seq ?_
  refine Wk.reg ?_
  refine Wk.rPure 0 (some 4) (.int .i64 0) rfl rfl (by kernel_rfl) (by kernel_rfl) ?_
  refine Wk.rEnd 1 rfl ?_
  refine Wk.nxt ?_
  refine wp_seq ?_
  refine wp_seq ?_
  refine Wk.reg ?_
  refine Wk.rPure 0 (some 5) (.pointer none) rfl rfl (by kernel_rfl) (by kernel_rfl) ?_
  refine Wk.rPure 1 (some 6) (.int .i64 f) rfl rfl (by kernel_rfl) (by kernel_rfl) ?_
  refine Wk.rCall 2 (some 7) 20 [.tmp 5, .tmp 6] #[23, 3] [.pointer none, .int .i64 f] rfl rfl (by kernel_rfl) rfl (by kernel_rfl) (by kernel_rfl) ?_
  refine (asked_nil f w).mono ?_
  rintro _ _ ⟨rfl, rfl⟩
  refine ⟨_, rfl, ?_⟩
  refine Wk.rPure 3 (some 8) (.bool true) rfl rfl (by kernel_rfl) (Wk.boolT (b := ((1 : Int) != (0 : Int))) (bne_iff_ne.2 (by decide)) (by kernel_rfl)) ?_
  refine Wk.rEnd 4 rfl ?_
  refine Wk.nxt ?_
  refine wp_cond_true (by kernel_rfl) ?_
  refine wp_seq ?_
  refine Wk.reg ?_
  refine Wk.rPure 0 (some 4) (.int .i64 0) rfl rfl (by kernel_rfl) (by kernel_rfl) ?_
  refine Wk.rEnd 1 rfl ?_
  refine Wk.nxt ?_
  refine wp_ret ?_
  refine Wk.thR ?_
  refine Wk.ret (.int .i64 0) rfl (by kernel_rfl) ?_
  exact ⟨rfl, rfl⟩
theorem Copy_nil (w : World) : Calls Try.prog 19 #[.pointer none] w fun e w' => e = .returned (.pointer none) ∧ w = w' := by
  refine calls_of_wp Try.func19 rfl ?_
  refine wp_seq ?_
  refine Wk.reg ?_
  refine Wk.rPure 0 (some 2) (.pointer none) rfl rfl (by kernel_rfl) (by kernel_rfl) ?_
  refine Wk.rEnd 1 rfl ?_
  refine Wk.nxt ?_
  refine wp_seq ?_
  refine wp_seq ?_
  refine Wk.reg ?_
  refine Wk.rPure 0 (some 5) (.pointer none) rfl rfl (by kernel_rfl) (by kernel_rfl) ?_
  refine Wk.rPure 1 (some 6) (.bool true) rfl rfl (by kernel_rfl) (by kernel_rfl) ?_
  refine Wk.rEnd 2 rfl ?_
  refine Wk.nxt ?_
  refine wp_cond_true (by kernel_rfl) ?_
  refine wp_seq ?_
  refine Wk.reg ?_
  refine Wk.rPure 0 (some 2) (.pointer none) rfl rfl (by kernel_rfl) (by kernel_rfl) ?_
  refine Wk.rEnd 1 rfl ?_
  refine Wk.nxt ?_
  refine wp_ret ?_
  refine Wk.thR ?_
  refine Wk.ret (.pointer none) rfl (by kernel_rfl) ?_
  exact ⟨rfl, rfl⟩
theorem Crash_nil (k0 k1 : Int) (w : World) : Calls Try.prog 15 #[.pointer none, .agg #[.int .i64 k0, .int .i64 k1]] w fun e w' => e = .returned (.tuple #[]) ∧ Wk.Chg [] w w' := by
  refine calls_of_wp Try.func15 rfl ?_
  refine wp_seq ?_
  refine Wk.reg ?_
  refine Wk.rEx 0 (some 3) _ rfl rfl (by kernel_rfl) (Wk.new_ex (.pointer (some ⟨w.heap.size, 0, none⟩)) #[.int .i64 k0, .int .i64 k1] 27 (by kernel_rfl)) ?_
  rintro _ W1 ⟨rfl, hb1, ch1, sz1⟩
  have zz1 := ch1.size
  refine Wk.rEnd 1 rfl ?_
  refine Wk.nxt ?_
  refine wp_seq ?_
  refine Wk.reg ?_
  refine Wk.rPure 0 (some 4) (.int .i64 0) rfl rfl (by kernel_rfl) (by kernel_rfl) ?_
  refine Wk.rEnd 1 rfl ?_
  refine Wk.nxt ?_
  refine wp_block ?_
  refine Wk.loopN 1 ?_
  refine Wk.rdS ?_
  refine wp_seq ?_
  refine wp_seq ?_
  refine Wk.reg ?_
  refine Wk.rPure 0 (some 7) (.pointer none) rfl rfl (by kernel_rfl) (by kernel_rfl) ?_
  refine Wk.rPure 1 (some 8) (.bool false) rfl rfl (by kernel_rfl) (by kernel_rfl) ?_
  refine Wk.rPure 2 (some 9) (.bool false) rfl rfl (by kernel_rfl) (by kernel_rfl) ?_
  refine Wk.rPass 3 (some 10) rfl rfl (by kernel_rfl) ?_
  refine Wk.rPass 4 (some 11) rfl rfl (by kernel_rfl) ?_
  refine Wk.rPure 5 (some 12) (.bool false) rfl rfl (by kernel_rfl) (by kernel_rfl) ?_
  refine Wk.rEnd 6 rfl ?_
  refine Wk.nxt ?_
  refine wp_cond_false (by kernel_rfl) ?_
  refine wp_exit ?_
  refine Wk.thX ?_
  refine Wk.thX ?_
  refine Wk.inX ?_
  have kk1 : Wk.Chg [] w W1 := Wk.Chg.step ((Wk.Chg.refl _).more (by simp)) ch1 trivial
  refine Wk.retN (.tuple #[]) rfl (by kernel_rfl) ?_
  exact ⟨rfl, kk1⟩
end Go.Proofs.Ytddabjlhidokaaa
