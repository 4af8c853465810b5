/- The document's disk: Crash. -/
import Derived.Test.YtddabjlhidokaaaProg
import Derived.Test.YtddabjlhidokaaaDkR
namespace Go.Proofs.Ytddabjlhidokaaa
open Go.RowKit
open Mur (Fil Dk Byt b8s hasF fE Ref RefF Own8 ablk)
set_option maxRecDepth 100000
set_option maxHeartbeats 4000000
def RCr_F2 (b : Array Value) (u0 : Value) (u3 : Value) (u4 : Value) (u5 : Value) (u6 : Value) : Act := ⟨#[u0, b.getD 1 undef, b.getD 2 undef, u3, u4, u5, u6, b.getD 7 undef, b.getD 8 undef, b.getD 9 undef, b.getD 10 undef, b.getD 11 undef, b.getD 12 undef, b.getD 13 undef, b.getD 14 undef, b.getD 15 undef, b.getD 16 undef, b.getD 17 undef, b.getD 18 undef, b.getD 19 undef, b.getD 20 undef, b.getD 21 undef, b.getD 22 undef, b.getD 23 undef, b.getD 24 undef, b.getD 25 undef, b.getD 26 undef, b.getD 27 undef, b.getD 28 undef, b.getD 29 undef, b.getD 30 undef, b.getD 31 undef, b.getD 32 undef, b.getD 33 undef, b.getD 34 undef, b.getD 35 undef, b.getD 36 undef, b.getD 37 undef, b.getD 38 undef, b.getD 39 undef, b.getD 40 undef, b.getD 41 undef, b.getD 42 undef, b.getD 43 undef, b.getD 44 undef, b.getD 45 undef, b.getD 46 undef, b.getD 47 undef, b.getD 48 undef, b.getD 49 undef, b.getD 50 undef, b.getD 51 undef, b.getD 52 undef, b.getD 53 undef, b.getD 54 undef, b.getD 55 undef, b.getD 56 undef, b.getD 57 undef, b.getD 58 undef, b.getD 59 undef, b.getD 60 undef, b.getD 61 undef, b.getD 62 undef, b.getD 63 undef, b.getD 64 undef, b.getD 65 undef, b.getD 66 undef, b.getD 67 undef, b.getD 68 undef], []⟩
def RCr_F3 (b : Array Value) (u0 : Value) (u3 : Value) (u4 : Value) (u5 : Value) (u6 : Value) : Act := ⟨#[u0, b.getD 1 undef, b.getD 2 undef, u3, u4, u5, u6, b.getD 7 undef, b.getD 8 undef, b.getD 9 undef, b.getD 10 undef, b.getD 11 undef, b.getD 12 undef, b.getD 13 undef, b.getD 14 undef, b.getD 15 undef, b.getD 16 undef, b.getD 17 undef, b.getD 18 undef, b.getD 19 undef, b.getD 20 undef, b.getD 21 undef, b.getD 22 undef, b.getD 23 undef, b.getD 24 undef, b.getD 25 undef, b.getD 26 undef, b.getD 27 undef, b.getD 28 undef, b.getD 29 undef, b.getD 30 undef, b.getD 31 undef, b.getD 32 undef, b.getD 33 undef, b.getD 34 undef, b.getD 35 undef, b.getD 36 undef, b.getD 37 undef, b.getD 38 undef, b.getD 39 undef, b.getD 40 undef, b.getD 41 undef, b.getD 42 undef, b.getD 43 undef, b.getD 44 undef, b.getD 45 undef, b.getD 46 undef, b.getD 47 undef, b.getD 48 undef, b.getD 49 undef, b.getD 50 undef, b.getD 51 undef, b.getD 52 undef, b.getD 53 undef, b.getD 54 undef, b.getD 55 undef, b.getD 56 undef, b.getD 57 undef, b.getD 58 undef, b.getD 59 undef, b.getD 60 undef, b.getD 61 undef, b.getD 62 undef, b.getD 63 undef, b.getD 64 undef, b.getD 65 undef, b.getD 66 undef, b.getD 67 undef, b.getD 68 undef], []⟩
theorem RCrash_any (g : Nat) (d : Dk) (G : List Nat) (k0 k1 : Int) (w : World) (h : RefF 5 45 w g d G) (hdx : d.x.b.length ≤ 1048576) (hdy : d.y.b.length ≤ 1048576) (hnx : d.x.n ≤ d.x.b.length) (hny : d.y.n ≤ d.y.b.length) : Calls Try.prog 18 #[.pointer (some ⟨g, 0, none⟩), .agg #[.int .i64 k0, .int .i64 k1]] w fun e w' => ∃ G', e = .returned (.tuple #[]) ∧ RefF 5 45 w' g (Mur.Dk.crash d k0 k1) G' ∧ Wk.Chg [g] w w' ∧ Wk.NewOr w.heap.size G G' := by
  obtain ⟨A0, n0, c0, A1, n1, c1, hR, rfl⟩ := h.out
  obtain ⟨⟨xb, xn⟩, ⟨yb, yn⟩⟩ := d
  have hp0 := hR.hp
  have hbX := hR.b0
  have hbY := hR.b1
  have hnc0 := hR.nc0
  have hnc1 := hR.nc1
  have hnil0 := hR.nil0
  have hnil1 := hR.nil1
  have hat0 := hR.at0
  have hat1 := hR.at1
  have hlx := hbX.1
  have hly := hbY.1
  simp only at hp0 hbX hbY hlx hly
  have hgl := (Array.getElem?_eq_some_iff.1 hp0).1
  replace hlx : xb.length = n0 := hlx
  replace hly : yb.length = n1 := hly
  replace hdx : xb.length ≤ 1048576 := hdx
  replace hdy : yb.length ≤ 1048576 := hdy
  replace hnx : xn ≤ xb.length := hnx
  replace hny : yn ≤ yb.length := hny
  refine calls_of_wp Try.func18 rfl ?_
  refine wp_seq ?_
  refine Wk.reg ?_
  refine Wk.rEx 0 (some 3) _ rfl rfl (by kernel_rfl) (Wk.new_ex (.pointer (some ⟨w.heap.size, 0, none⟩)) #[.int .i64 k0, .int .i64 k1] 27 (by kernel_rfl)) ?_
  rintro _ W1 ⟨rfl, hb1, ch1, sz1⟩
  have zz1 := ch1.size
  refine Wk.rEnd 1 rfl ?_
  refine Wk.nxt ?_
  refine wp_seq ?_
  refine Wk.reg ?_
  refine Wk.rPure 0 (some 4) (.int .i64 0) rfl rfl (by kernel_rfl) (by kernel_rfl) ?_
  refine Wk.rEnd 1 rfl ?_
  refine Wk.nxt ?_
  refine wp_block ?_
  refine Wk.loopN 3 ?_
  refine Wk.rdS ?_
  refine wp_seq ?_
  refine wp_seq ?_
  refine Wk.reg ?_
  refine Wk.rPure 0 (some 7) (.int .i64 0) rfl rfl (by kernel_rfl) (by kernel_rfl) ?_
  refine Wk.rPure 1 (some 8) (.bool true) rfl rfl (by kernel_rfl) (Wk.boolT (b := decide ((0 : Int) < (2 : Int))) (decide_eq_true (by decide)) (by kernel_rfl)) ?_
  refine Wk.rEnd 2 rfl ?_
  refine Wk.nxt ?_
  refine wp_cond_true (by kernel_rfl) ?_
  refine wp_skip ?_
  refine Wk.nxt ?_
  refine wp_seq ?_
  refine wp_block ?_
  refine wp_seq ?_
  refine Wk.reg ?_
  refine Wk.rPure 0 (some 5) (.slice none 0 0) rfl rfl (by kernel_rfl) (by kernel_rfl) ?_
  refine Wk.rEnd 1 rfl ?_
  refine Wk.nxt ?_
  refine wp_seq ?_
  refine wp_seq ?_
  refine Wk.reg ?_
  refine Wk.rPure 0 (some 6) (.int .i64 0) rfl rfl (by kernel_rfl) (by kernel_rfl) ?_
  refine Wk.rEnd 1 rfl ?_
  refine Wk.nxt ?_
  refine wp_block ?_
  refine Wk.loop (fun m_ a wr => ∃ (i0 : Nat) (AL0 : Option Addr) (N0 : Nat) (cL0 : Nat), m_ = n0 - i0 ∧ a = RCr_F2 a.tmps (.pointer (some ⟨g, 0, none⟩)) (.pointer (some ⟨w.heap.size, 0, none⟩)) (.int .i64 0) (.slice AL0 N0 cL0) (.int .i64 ((i0 : Nat) : Int)) ∧ i0 ≤ n0 ∧ N0 = min i0 (xn + min k0.toNat (xb.length - xn)) ∧ Own8 wr W1.heap.size 5 AL0 N0 cL0 (xb.take N0) ∧ wr.heap[g]? = some (.cells #[.slice A0 n0 c0, .slice A1 n1 c1, .int .i64 ((xn : Nat) : Int), .int .i64 ((yn : Nat) : Int)] 45 (0, 0)) ∧ wr.heap[w.heap.size]? = some (.cells #[.int .i64 k0, .int .i64 k1] 27 (0, 0)) ∧ Wk.Chg [g] w wr ∧ W1.heap.size ≤ wr.heap.size) (n0 - 0) ?_ ?_
  · have kk1 : Wk.Chg [] w W1 := Wk.Chg.step ((Wk.Chg.refl _).more (by simp)) ch1 trivial
    have kk2 : Wk.Chg [g] (w) W1 := Wk.Chg.step ((Wk.Chg.refl _).more (by simp)) ch1 trivial
    refine ⟨0, none, 0, 0, rfl, by kernel_rfl, by omega, by omega, Mur.own8_nil W1 W1.heap.size 5, (Wk.Chg.hp kk1 hp0 trivial), hb1, kk2, (by omega)⟩
  · rintro mm1 aa1 W2 ⟨i0, AL0, N0, cL0, hmm1, hF1, hi0, hN0, hO0, hG0, hK0, HB, hbs0⟩
    generalize aa1.tmps = bb1 at hF1
    subst hF1
    have hqn0 := hO0.nc
    have hqm0 := hO0.cm
    unfold Go.maxLen at hqm0
    by_cases hlt0 : i0 < n0
    · obtain ⟨q0, off0, rfl, hc0⟩ := hbX.2 (by omega)
      refine wp_seq ?_
      refine wp_seq ?_
      refine Wk.reg ?_
      refine Wk.rPure 0 (some 11) (.int .i64 ((i0 : Nat) : Int)) rfl rfl (by kernel_rfl) (by kernel_rfl) ?_
      refine Wk.rPure 1 (some 12) (.pointer (some ⟨g, 0, none⟩)) rfl rfl (by kernel_rfl) (by kernel_rfl) ?_
      refine Wk.rPure 2 (some 13) (.int .i64 0) rfl rfl (by kernel_rfl) (by kernel_rfl) ?_
      refine Wk.rPure 3 (some 14) (.pointer (some ⟨g, 0, none⟩)) rfl rfl (by kernel_rfl) (by kernel_rfl) ?_
      refine Wk.rPure 4 (some 15) (.pointer (some ⟨g, 0, none⟩)) rfl rfl (by kernel_rfl) (by kernel_rfl) ?_
      refine Wk.rPure 5 (some 16) (.pointer (some ⟨g, 0, none⟩)) rfl rfl (by kernel_rfl) (Wk.index_arr 43 26 (.tmp 15) (.tmp 13) rfl 2 Try.underlying43 1 (by kernel_rfl) g 0 0 .i64 (by kernel_rfl) (by kernel_rfl) (by decide)) ?_
      refine Wk.rPure 6 (some 17) (.slice (some ⟨q0, off0, none⟩) n0 c0) rfl rfl (by kernel_rfl) (Wk.load1 26 (.tmp 16) rfl (by kernel_rfl) ⟨g, 0, none⟩ (by kernel_rfl) (.slice (some ⟨q0, off0, none⟩) n0 c0) ((cell_of_row _ _ 0 _ _ _ hG0).trans rfl)) ?_
      refine Wk.rPure 7 (some 18) (.int .i64 ((n0 : Nat) : Int)) rfl rfl (by kernel_rfl) (by kernel_rfl) ?_
      refine Wk.rPure 8 (some 19) (.bool true) rfl rfl (by kernel_rfl) (Wk.boolT (b := decide (((i0 : Nat) : Int) < ((n0 : Nat) : Int))) (decide_eq_true (by omega)) (by kernel_rfl)) ?_
      refine Wk.rEnd 9 rfl ?_
      refine Wk.nxt ?_
      refine wp_cond_true (by kernel_rfl) ?_
      refine wp_skip ?_
      refine Wk.nxt ?_
      refine wp_seq ?_
      refine wp_block ?_
      refine wp_seq ?_
      refine Wk.dReg ([]) (by kernel_rfl) ?_
      intro W3 ch2 sz2
      have zz2 := ch2.size
      have sS1 : Wk.Chg ([]) W3 W3 := (Wk.Chg.refl _).more (by simp)
      refine Wk.dVal 0 (some 22) (.int .i64 ((i0 : Nat) : Int)) rfl rfl (by kernel_rfl) (by kernel_rfl) (by kernel_rfl) (fun _ _ _ h => h) (by kernel_rfl) (fun w' hw' => by kernel_rfl) sS1 ?_
      refine Wk.dVal 1 (some 23) (.pointer (some ⟨g, 0, none⟩)) rfl rfl (by kernel_rfl) (by kernel_rfl) (by kernel_rfl) (fun _ _ _ h => h) (by kernel_rfl) (fun w' hw' => by kernel_rfl) sS1 ?_
      refine Wk.dVal 2 (some 24) (.int .i64 0) rfl rfl (by kernel_rfl) (by kernel_rfl) (by kernel_rfl) (fun _ _ _ h => h) (by kernel_rfl) (fun w' hw' => by kernel_rfl) sS1 ?_
      refine Wk.dVal 3 (some 25) (.pointer (some ⟨g, 0, none⟩)) rfl rfl (by kernel_rfl) (by kernel_rfl) (by kernel_rfl) (fun _ _ _ h => h) (by kernel_rfl) (fun w' hw' => by kernel_rfl) sS1 ?_
      refine Wk.dVal 4 (some 26) (.pointer (some ⟨g, 2, none⟩)) rfl rfl (by kernel_rfl) (by kernel_rfl) (by kernel_rfl) (fun _ _ _ h => h) (by kernel_rfl) (fun w' hw' => by kernel_rfl) sS1 ?_
      refine Wk.dVal 5 (some 27) (.pointer (some ⟨g, 2, none⟩)) rfl rfl (by kernel_rfl) (by kernel_rfl) (by kernel_rfl) (fun _ _ _ h => h) (by kernel_rfl) (fun w' hw' => (Wk.index_arr 27 3 (.tmp 26) (.tmp 24) rfl 2 Try.underlying27 1 (by kernel_rfl) g 2 0 .i64 (by kernel_rfl) (by kernel_rfl) (by decide))) sS1 ?_
      refine Wk.dVal 6 (some 28) (.int .i64 ((xn : Nat) : Int)) rfl rfl (by kernel_rfl) (by kernel_rfl) (by kernel_rfl) (fun _ _ _ h => h) (by kernel_rfl) (fun w' hw' => (Wk.load1 3 (.tmp 27) rfl (by kernel_rfl) ⟨g, 2, none⟩ (by kernel_rfl) (.int .i64 ((xn : Nat) : Int)) ((cell_of_row _ _ 2 _ _ _ (Wk.Chg.hp hw' (Wk.Chg.hp ch2 hG0 trivial) trivial)).trans rfl))) sS1 ?_
      by_cases hx1 : ((i0 : Nat) : Int) < ((xn : Nat) : Int)
      · refine Wk.dVal 7 (some 29) (.bool true) rfl rfl (by kernel_rfl) (by kernel_rfl) (by kernel_rfl) (fun _ _ _ h => h) (by kernel_rfl) (fun w' hw' => (Wk.boolT (b := decide (((i0 : Nat) : Int) < ((xn : Nat) : Int))) (decide_eq_true (by first | exact hx1 | omega)) (by kernel_rfl))) sS1 ?_
        refine Wk.dVal 8 (some 30) (.bool true) rfl rfl (by kernel_rfl) (by kernel_rfl) (by kernel_rfl) (fun _ _ _ h => h) (by kernel_rfl) (fun w' hw' => by kernel_rfl) sS1 ?_
        refine Wk.dPass 9 (some 31) rfl rfl (by kernel_rfl) (by kernel_rfl) (by kernel_rfl) (fun _ _ _ h => h) (by kernel_rfl) sS1 ?_
        refine Wk.dPass 10 (some 32) rfl rfl (by kernel_rfl) (by kernel_rfl) (by kernel_rfl) (fun _ _ _ h => h) (by kernel_rfl) sS1 ?_
        refine Wk.dPass 11 (some 33) rfl rfl (by kernel_rfl) (by kernel_rfl) (by kernel_rfl) (fun _ _ _ h => h) (by kernel_rfl) sS1 ?_
        refine Wk.dPass 12 (some 34) rfl rfl (by kernel_rfl) (by kernel_rfl) (by kernel_rfl) (fun _ _ _ h => h) (by kernel_rfl) sS1 ?_
        refine Wk.dPass 13 (some 35) rfl rfl (by kernel_rfl) (by kernel_rfl) (by kernel_rfl) (fun _ _ _ h => h) (by kernel_rfl) sS1 ?_
        refine Wk.dPass 14 (some 36) rfl rfl (by kernel_rfl) (by kernel_rfl) (by kernel_rfl) (fun _ _ _ h => h) (by kernel_rfl) sS1 ?_
        refine Wk.dPass 15 (some 37) rfl rfl (by kernel_rfl) (by kernel_rfl) (by kernel_rfl) (fun _ _ _ h => h) (by kernel_rfl) sS1 ?_
        refine Wk.dPass 16 (some 38) rfl rfl (by kernel_rfl) (by kernel_rfl) (by kernel_rfl) (fun _ _ _ h => h) (by kernel_rfl) sS1 ?_
        refine Wk.dPass 17 (some 39) rfl rfl (by kernel_rfl) (by kernel_rfl) (by kernel_rfl) (fun _ _ _ h => h) (by kernel_rfl) sS1 ?_
        refine Wk.dPass 18 (some 40) rfl rfl (by kernel_rfl) (by kernel_rfl) (by kernel_rfl) (fun _ _ _ h => h) (by kernel_rfl) sS1 ?_
        refine Wk.dPass 19 (some 41) rfl rfl (by kernel_rfl) (by kernel_rfl) (by kernel_rfl) (fun _ _ _ h => h) (by kernel_rfl) sS1 ?_
        refine Wk.dPass 20 (some 42) rfl rfl (by kernel_rfl) (by kernel_rfl) (by kernel_rfl) (fun _ _ _ h => h) (by kernel_rfl) sS1 ?_
        refine Wk.dVal 21 (some 43) (.bool true) rfl rfl (by kernel_rfl) (by kernel_rfl) (by kernel_rfl) (fun _ _ _ h => h) (by kernel_rfl) (fun w' hw' => by kernel_rfl) sS1 ?_
        refine Wk.dEnd (by kernel_rfl) ?_
        refine Wk.nxt ?_
        refine wp_cond_true (by kernel_rfl) ?_
        refine Wk.reg ?_
        refine Wk.rPure 0 (some 44) (.slice AL0 N0 cL0) rfl rfl (by kernel_rfl) (by kernel_rfl) ?_
        refine Wk.rPure 1 (some 45) (.pointer (some ⟨g, 0, none⟩)) rfl rfl (by kernel_rfl) (by kernel_rfl) ?_
        refine Wk.rPure 2 (some 46) (.int .i64 0) rfl rfl (by kernel_rfl) (by kernel_rfl) ?_
        refine Wk.rPure 3 (some 47) (.pointer (some ⟨g, 0, none⟩)) rfl rfl (by kernel_rfl) (by kernel_rfl) ?_
        refine Wk.rPure 4 (some 48) (.pointer (some ⟨g, 0, none⟩)) rfl rfl (by kernel_rfl) (by kernel_rfl) ?_
        refine Wk.rPure 5 (some 49) (.pointer (some ⟨g, 0, none⟩)) rfl rfl (by kernel_rfl) (Wk.index_arr 43 26 (.tmp 48) (.tmp 46) rfl 2 Try.underlying43 1 (by kernel_rfl) g 0 0 .i64 (by kernel_rfl) (by kernel_rfl) (by decide)) ?_
        refine Wk.rPure 6 (some 50) (.slice (some ⟨q0, off0, none⟩) n0 c0) rfl rfl (by kernel_rfl) (Wk.load1 26 (.tmp 49) rfl (by kernel_rfl) ⟨g, 0, none⟩ (by kernel_rfl) (.slice (some ⟨q0, off0, none⟩) n0 c0) ((cell_of_row _ _ 0 _ _ _ (Wk.Chg.hp ch2 hG0 trivial)).trans rfl)) ?_
        refine Wk.rPure 7 (some 51) (.int .i64 ((i0 : Nat) : Int)) rfl rfl (by kernel_rfl) (by kernel_rfl) ?_
        refine Wk.rPure 8 (some 52) (.pointer (some ⟨q0, off0 + i0 * 1, none⟩)) rfl rfl (by kernel_rfl) (Wk.index_sl 26 5 (.tmp 50) (.tmp 51) rfl Try.underlying26 1 (by kernel_rfl) q0 off0 n0 c0 i0 .i64 (by kernel_rfl) (by kernel_rfl) (by omega)) ?_
        have kk3 := Wk.Chg.step HB ch2 trivial
        refine Wk.rPure 9 (some 53) (.int .u8 (((xb.getD i0 0).toNat : Nat) : Int)) rfl rfl (by kernel_rfl) (Wk.load1 5 (.tmp 52) rfl (by kernel_rfl) ⟨q0, off0 + i0 * 1, none⟩ (by kernel_rfl) (.int .u8 (((xb.getD i0 0).toNat : Nat) : Int)) (Mur.byt_cell (Mur.byt_chg hbX kk3 (fun g off e hl => ⟨by have := hat0 g off e; omega, trivial⟩)) i0 (by omega))) ?_
        refine Wk.rEx 10 (some 54) _ rfl rfl (by kernel_rfl) (Wk.new_ex (.slice (some ⟨W3.heap.size, 0, none⟩) 1 1) #[.int .u8 (((xb.getD i0 0).toNat : Nat) : Int)] 5 (by kernel_rfl)) ?_
        rintro _ W4 ⟨rfl, hb2, ch3, sz3⟩
        have zz3 := ch3.size
        have ow1 := Mur.own8 (Wk.own_chg hO0.own ch2 (fun q e _ _ => trivial))
        have ow2 := Mur.own8 (Wk.own_chg ow1.own ch3 (fun q e _ _ => trivial))
        refine Wk.rEx 11 (some 55) _ rfl rfl (by kernel_rfl) (Mur.append8 (.tmp 44) (.tmp 54) 26 5 rfl Try.underlying26 (by kernel_rfl) W1.heap.size AL0 N0 cL0 (xb.take N0) (some ⟨W3.heap.size, 0, none⟩) 1 1 ([(xb.getD i0 0)]) (by kernel_rfl) (by kernel_rfl) ow2.own (Mur.byt_row [(xb.getD i0 0)] hb2) (fun h => by cases h) (by omega) (by omega) (N0 + 1) (by omega) ((xb.take N0) ++ ([(xb.getD i0 0)])) rfl) ?_
        rintro _ W5 ⟨AA1, nn1, rfl, ow3, ch4, ha1⟩
        have zz4 := ch4.size
        have hq1 := ow3.nc
        have hq2 := ow3.cm
        refine Wk.rPure 12 (some 5) (.slice AA1 (N0 + 1) nn1) rfl rfl (by kernel_rfl) (by kernel_rfl) ?_
        refine Wk.rEnd 13 rfl ?_
        refine Wk.inN ?_
        refine Wk.nxt ?_
        refine Wk.reg ?_
        refine Wk.rPure 0 (some 20) (.int .i64 ((i0 : Nat) : Int)) rfl rfl (by kernel_rfl) (by kernel_rfl) ?_
        refine Wk.rPure 1 (some 21) (.int .i64 ((i0 + 1 : Nat) : Int)) rfl rfl (by kernel_rfl) (Wk.int64 (n := ((i0 : Nat) : Int) + 1) (z := ((i0 + 1 : Nat) : Int)) (by omega) (by omega) (by omega) (by kernel_rfl)) ?_
        refine Wk.rPure 2 (some 6) (.int .i64 ((i0 + 1 : Nat) : Int)) rfl rfl (by kernel_rfl) (by kernel_rfl) ?_
        refine Wk.rEnd 3 rfl ?_
        refine Wk.nxt ?_
        have kk4 := Wk.Chg.step kk3 ch3 trivial
        have kk5 := Wk.Chg.step kk4 ch4 (Wk.newOr_blk (fun g hg => by have := hO0.lt g hg; omega))
        refine ⟨_, ?_, i0 + 1, AA1, N0 + 1, nn1, rfl, by kernel_rfl, (by omega), (by omega), (by have hni : i0 = N0 := (by omega); have h_ := ow3; rw [hni, Mur.take_step (by omega)] at h_; exact h_), (Wk.Chg.hp ch4 (Wk.Chg.hp ch3 (Wk.Chg.hp ch2 hG0 trivial) trivial) (Wk.off_blk (fun gz hgz => by have := hO0.lt gz hgz; omega))), (Wk.Chg.hp ch4 (Wk.Chg.hp ch3 (Wk.Chg.hp ch2 hK0 trivial) trivial) (Wk.off_blk (fun gz hgz => by have := hO0.lt gz hgz; omega))), kk5, (by omega)⟩
        · omega
      · refine Wk.dVal 7 (some 29) (.bool false) rfl rfl (by kernel_rfl) (by kernel_rfl) (by kernel_rfl) (fun _ _ _ h => h) (by kernel_rfl) (fun w' hw' => (Wk.boolF (b := decide (((i0 : Nat) : Int) < ((xn : Nat) : Int))) (decide_eq_false (by first | exact hx1 | omega)) (by kernel_rfl))) sS1 ?_
        refine Wk.dVal 8 (some 30) (.bool false) rfl rfl (by kernel_rfl) (by kernel_rfl) (by kernel_rfl) (fun _ _ _ h => h) (by kernel_rfl) (fun w' hw' => by kernel_rfl) sS1 ?_
        refine Wk.dVal 9 (some 31) (.int .i64 ((i0 : Nat) : Int)) rfl rfl (by kernel_rfl) (by kernel_rfl) (by kernel_rfl) (fun _ _ _ h => h) (by kernel_rfl) (fun w' hw' => by kernel_rfl) sS1 ?_
        refine Wk.dVal 10 (some 32) (.pointer (some ⟨g, 0, none⟩)) rfl rfl (by kernel_rfl) (by kernel_rfl) (by kernel_rfl) (fun _ _ _ h => h) (by kernel_rfl) (fun w' hw' => by kernel_rfl) sS1 ?_
        refine Wk.dVal 11 (some 33) (.int .i64 0) rfl rfl (by kernel_rfl) (by kernel_rfl) (by kernel_rfl) (fun _ _ _ h => h) (by kernel_rfl) (fun w' hw' => by kernel_rfl) sS1 ?_
        refine Wk.dVal 12 (some 34) (.pointer (some ⟨g, 0, none⟩)) rfl rfl (by kernel_rfl) (by kernel_rfl) (by kernel_rfl) (fun _ _ _ h => h) (by kernel_rfl) (fun w' hw' => by kernel_rfl) sS1 ?_
        refine Wk.dVal 13 (some 35) (.pointer (some ⟨g, 2, none⟩)) rfl rfl (by kernel_rfl) (by kernel_rfl) (by kernel_rfl) (fun _ _ _ h => h) (by kernel_rfl) (fun w' hw' => by kernel_rfl) sS1 ?_
        refine Wk.dVal 14 (some 36) (.pointer (some ⟨g, 2, none⟩)) rfl rfl (by kernel_rfl) (by kernel_rfl) (by kernel_rfl) (fun _ _ _ h => h) (by kernel_rfl) (fun w' hw' => (Wk.index_arr 27 3 (.tmp 35) (.tmp 33) rfl 2 Try.underlying27 1 (by kernel_rfl) g 2 0 .i64 (by kernel_rfl) (by kernel_rfl) (by decide))) sS1 ?_
        refine Wk.dVal 15 (some 37) (.int .i64 ((xn : Nat) : Int)) rfl rfl (by kernel_rfl) (by kernel_rfl) (by kernel_rfl) (fun _ _ _ h => h) (by kernel_rfl) (fun w' hw' => (Wk.load1 3 (.tmp 36) rfl (by kernel_rfl) ⟨g, 2, none⟩ (by kernel_rfl) (.int .i64 ((xn : Nat) : Int)) ((cell_of_row _ _ 2 _ _ _ (Wk.Chg.hp hw' (Wk.Chg.hp ch2 hG0 trivial) trivial)).trans rfl))) sS1 ?_
        refine Wk.dVal 16 (some 38) (.int .i64 (((i0 : Nat) : Int) - ((xn : Nat) : Int))) rfl rfl (by kernel_rfl) (by kernel_rfl) (by kernel_rfl) (fun _ _ _ h => h) (by kernel_rfl) (fun w' hw' => (Wk.int64 (n := ((i0 : Nat) : Int) - ((xn : Nat) : Int)) (z := ((i0 : Nat) : Int) - ((xn : Nat) : Int)) (by omega) (by omega) (by omega) (by kernel_rfl))) sS1 ?_
        refine Wk.dVal 17 (some 39) (.int .i64 0) rfl rfl (by kernel_rfl) (by kernel_rfl) (by kernel_rfl) (fun _ _ _ h => h) (by kernel_rfl) (fun w' hw' => by kernel_rfl) sS1 ?_
        refine Wk.dVal 18 (some 40) (.pointer (some ⟨w.heap.size, 0, none⟩)) rfl rfl (by kernel_rfl) (by kernel_rfl) (by kernel_rfl) (fun _ _ _ h => h) (by kernel_rfl) (fun w' hw' => (Wk.index_arr 27 3 (.tmp 3) (.tmp 39) rfl 2 Try.underlying27 1 (by kernel_rfl) w.heap.size 0 0 .i64 (by kernel_rfl) (by kernel_rfl) (by decide))) sS1 ?_
        refine Wk.dVal 19 (some 41) (.int .i64 k0) rfl rfl (by kernel_rfl) (by kernel_rfl) (by kernel_rfl) (fun _ _ _ h => h) (by kernel_rfl) (fun w' hw' => (Wk.load1 3 (.tmp 40) rfl (by kernel_rfl) ⟨w.heap.size, 0, none⟩ (by kernel_rfl) (.int .i64 k0) ((cell_of_row _ _ 0 _ _ _ (Wk.Chg.hp hw' (Wk.Chg.hp ch2 hK0 trivial) trivial)).trans rfl))) sS1 ?_
        by_cases hx2 : (((i0 : Nat) : Int) - ((xn : Nat) : Int)) < k0
        · refine Wk.dVal 20 (some 42) (.bool true) rfl rfl (by kernel_rfl) (by kernel_rfl) (by kernel_rfl) (fun _ _ _ h => h) (by kernel_rfl) (fun w' hw' => (Wk.boolT (b := decide ((((i0 : Nat) : Int) - ((xn : Nat) : Int)) < k0)) (decide_eq_true (by first | exact hx2 | omega)) (by kernel_rfl))) sS1 ?_
          refine Wk.dVal 21 (some 43) (.bool true) rfl rfl (by kernel_rfl) (by kernel_rfl) (by kernel_rfl) (fun _ _ _ h => h) (by kernel_rfl) (fun w' hw' => by kernel_rfl) sS1 ?_
          refine Wk.dEnd (by kernel_rfl) ?_
          refine Wk.nxt ?_
          refine wp_cond_true (by kernel_rfl) ?_
          refine Wk.reg ?_
          refine Wk.rPure 0 (some 44) (.slice AL0 N0 cL0) rfl rfl (by kernel_rfl) (by kernel_rfl) ?_
          refine Wk.rPure 1 (some 45) (.pointer (some ⟨g, 0, none⟩)) rfl rfl (by kernel_rfl) (by kernel_rfl) ?_
          refine Wk.rPure 2 (some 46) (.int .i64 0) rfl rfl (by kernel_rfl) (by kernel_rfl) ?_
          refine Wk.rPure 3 (some 47) (.pointer (some ⟨g, 0, none⟩)) rfl rfl (by kernel_rfl) (by kernel_rfl) ?_
          refine Wk.rPure 4 (some 48) (.pointer (some ⟨g, 0, none⟩)) rfl rfl (by kernel_rfl) (by kernel_rfl) ?_
          refine Wk.rPure 5 (some 49) (.pointer (some ⟨g, 0, none⟩)) rfl rfl (by kernel_rfl) (Wk.index_arr 43 26 (.tmp 48) (.tmp 46) rfl 2 Try.underlying43 1 (by kernel_rfl) g 0 0 .i64 (by kernel_rfl) (by kernel_rfl) (by decide)) ?_
          refine Wk.rPure 6 (some 50) (.slice (some ⟨q0, off0, none⟩) n0 c0) rfl rfl (by kernel_rfl) (Wk.load1 26 (.tmp 49) rfl (by kernel_rfl) ⟨g, 0, none⟩ (by kernel_rfl) (.slice (some ⟨q0, off0, none⟩) n0 c0) ((cell_of_row _ _ 0 _ _ _ (Wk.Chg.hp ch2 hG0 trivial)).trans rfl)) ?_
          refine Wk.rPure 7 (some 51) (.int .i64 ((i0 : Nat) : Int)) rfl rfl (by kernel_rfl) (by kernel_rfl) ?_
          refine Wk.rPure 8 (some 52) (.pointer (some ⟨q0, off0 + i0 * 1, none⟩)) rfl rfl (by kernel_rfl) (Wk.index_sl 26 5 (.tmp 50) (.tmp 51) rfl Try.underlying26 1 (by kernel_rfl) q0 off0 n0 c0 i0 .i64 (by kernel_rfl) (by kernel_rfl) (by omega)) ?_
          have kk6 := Wk.Chg.step HB ch2 trivial
          refine Wk.rPure 9 (some 53) (.int .u8 (((xb.getD i0 0).toNat : Nat) : Int)) rfl rfl (by kernel_rfl) (Wk.load1 5 (.tmp 52) rfl (by kernel_rfl) ⟨q0, off0 + i0 * 1, none⟩ (by kernel_rfl) (.int .u8 (((xb.getD i0 0).toNat : Nat) : Int)) (Mur.byt_cell (Mur.byt_chg hbX kk6 (fun g off e hl => ⟨by have := hat0 g off e; omega, trivial⟩)) i0 (by omega))) ?_
          refine Wk.rEx 10 (some 54) _ rfl rfl (by kernel_rfl) (Wk.new_ex (.slice (some ⟨W3.heap.size, 0, none⟩) 1 1) #[.int .u8 (((xb.getD i0 0).toNat : Nat) : Int)] 5 (by kernel_rfl)) ?_
          rintro _ W6 ⟨rfl, hb3, ch5, sz4⟩
          have zz5 := ch5.size
          have ow4 := Mur.own8 (Wk.own_chg hO0.own ch2 (fun q e _ _ => trivial))
          have ow5 := Mur.own8 (Wk.own_chg ow4.own ch5 (fun q e _ _ => trivial))
          refine Wk.rEx 11 (some 55) _ rfl rfl (by kernel_rfl) (Mur.append8 (.tmp 44) (.tmp 54) 26 5 rfl Try.underlying26 (by kernel_rfl) W1.heap.size AL0 N0 cL0 (xb.take N0) (some ⟨W3.heap.size, 0, none⟩) 1 1 ([(xb.getD i0 0)]) (by kernel_rfl) (by kernel_rfl) ow5.own (Mur.byt_row [(xb.getD i0 0)] hb3) (fun h => by cases h) (by omega) (by omega) (N0 + 1) (by omega) ((xb.take N0) ++ ([(xb.getD i0 0)])) rfl) ?_
          rintro _ W7 ⟨AA2, nn2, rfl, ow6, ch6, ha2⟩
          have zz6 := ch6.size
          have hq3 := ow6.nc
          have hq4 := ow6.cm
          refine Wk.rPure 12 (some 5) (.slice AA2 (N0 + 1) nn2) rfl rfl (by kernel_rfl) (by kernel_rfl) ?_
          refine Wk.rEnd 13 rfl ?_
          refine Wk.inN ?_
          refine Wk.nxt ?_
          refine Wk.reg ?_
          refine Wk.rPure 0 (some 20) (.int .i64 ((i0 : Nat) : Int)) rfl rfl (by kernel_rfl) (by kernel_rfl) ?_
          refine Wk.rPure 1 (some 21) (.int .i64 ((i0 + 1 : Nat) : Int)) rfl rfl (by kernel_rfl) (Wk.int64 (n := ((i0 : Nat) : Int) + 1) (z := ((i0 + 1 : Nat) : Int)) (by omega) (by omega) (by omega) (by kernel_rfl)) ?_
          refine Wk.rPure 2 (some 6) (.int .i64 ((i0 + 1 : Nat) : Int)) rfl rfl (by kernel_rfl) (by kernel_rfl) ?_
          refine Wk.rEnd 3 rfl ?_
          refine Wk.nxt ?_
          have kk7 := Wk.Chg.step kk6 ch5 trivial
          have kk8 := Wk.Chg.step kk7 ch6 (Wk.newOr_blk (fun g hg => by have := hO0.lt g hg; omega))
          refine ⟨_, ?_, i0 + 1, AA2, N0 + 1, nn2, rfl, by kernel_rfl, (by omega), (by omega), (by have hni : i0 = N0 := (by omega); have h_ := ow6; rw [hni, Mur.take_step (by omega)] at h_; exact h_), (Wk.Chg.hp ch6 (Wk.Chg.hp ch5 (Wk.Chg.hp ch2 hG0 trivial) trivial) (Wk.off_blk (fun gz hgz => by have := hO0.lt gz hgz; omega))), (Wk.Chg.hp ch6 (Wk.Chg.hp ch5 (Wk.Chg.hp ch2 hK0 trivial) trivial) (Wk.off_blk (fun gz hgz => by have := hO0.lt gz hgz; omega))), kk8, (by omega)⟩
          · omega
        · refine Wk.dVal 20 (some 42) (.bool false) rfl rfl (by kernel_rfl) (by kernel_rfl) (by kernel_rfl) (fun _ _ _ h => h) (by kernel_rfl) (fun w' hw' => (Wk.boolF (b := decide ((((i0 : Nat) : Int) - ((xn : Nat) : Int)) < k0)) (decide_eq_false (by first | exact hx2 | omega)) (by kernel_rfl))) sS1 ?_
          refine Wk.dVal 21 (some 43) (.bool false) rfl rfl (by kernel_rfl) (by kernel_rfl) (by kernel_rfl) (fun _ _ _ h => h) (by kernel_rfl) (fun w' hw' => by kernel_rfl) sS1 ?_
          refine Wk.dEnd (by kernel_rfl) ?_
          refine Wk.nxt ?_
          refine wp_cond_false (by kernel_rfl) ?_
          refine wp_skip ?_
          refine Wk.inN ?_
          refine Wk.nxt ?_
          refine Wk.reg ?_
          refine Wk.rPure 0 (some 20) (.int .i64 ((i0 : Nat) : Int)) rfl rfl (by kernel_rfl) (by kernel_rfl) ?_
          refine Wk.rPure 1 (some 21) (.int .i64 ((i0 + 1 : Nat) : Int)) rfl rfl (by kernel_rfl) (Wk.int64 (n := ((i0 : Nat) : Int) + 1) (z := ((i0 + 1 : Nat) : Int)) (by omega) (by omega) (by omega) (by kernel_rfl)) ?_
          refine Wk.rPure 2 (some 6) (.int .i64 ((i0 + 1 : Nat) : Int)) rfl rfl (by kernel_rfl) (by kernel_rfl) ?_
          refine Wk.rEnd 3 rfl ?_
          refine Wk.nxt ?_
          have ow7 := Mur.own8 (Wk.own_chg hO0.own ch2 (fun q e _ _ => trivial))
          have kk9 := Wk.Chg.step HB ch2 trivial
          refine ⟨_, ?_, i0 + 1, AL0, N0, cL0, rfl, by kernel_rfl, (by omega), (by omega), ow7, (Wk.Chg.hp ch2 hG0 trivial), (Wk.Chg.hp ch2 hK0 trivial), kk9, (by omega)⟩
          · omega
    · have hE0 : (⟨xb, xn⟩ : Fil).left k0 = N0 := by simp only [Mur.Fil.left]; omega
      refine wp_seq ?_
      refine wp_seq ?_
      refine Wk.reg ?_
      refine Wk.rPure 0 (some 11) (.int .i64 ((i0 : Nat) : Int)) rfl rfl (by kernel_rfl) (by kernel_rfl) ?_
      refine Wk.rPure 1 (some 12) (.pointer (some ⟨g, 0, none⟩)) rfl rfl (by kernel_rfl) (by kernel_rfl) ?_
      refine Wk.rPure 2 (some 13) (.int .i64 0) rfl rfl (by kernel_rfl) (by kernel_rfl) ?_
      refine Wk.rPure 3 (some 14) (.pointer (some ⟨g, 0, none⟩)) rfl rfl (by kernel_rfl) (by kernel_rfl) ?_
      refine Wk.rPure 4 (some 15) (.pointer (some ⟨g, 0, none⟩)) rfl rfl (by kernel_rfl) (by kernel_rfl) ?_
      refine Wk.rPure 5 (some 16) (.pointer (some ⟨g, 0, none⟩)) rfl rfl (by kernel_rfl) (Wk.index_arr 43 26 (.tmp 15) (.tmp 13) rfl 2 Try.underlying43 1 (by kernel_rfl) g 0 0 .i64 (by kernel_rfl) (by kernel_rfl) (by decide)) ?_
      refine Wk.rPure 6 (some 17) (.slice A0 n0 c0) rfl rfl (by kernel_rfl) (Wk.load1 26 (.tmp 16) rfl (by kernel_rfl) ⟨g, 0, none⟩ (by kernel_rfl) (.slice A0 n0 c0) ((cell_of_row _ _ 0 _ _ _ hG0).trans rfl)) ?_
      refine Wk.rPure 7 (some 18) (.int .i64 ((n0 : Nat) : Int)) rfl rfl (by kernel_rfl) (by kernel_rfl) ?_
      refine Wk.rPure 8 (some 19) (.bool false) rfl rfl (by kernel_rfl) (Wk.boolF (b := decide (((i0 : Nat) : Int) < ((n0 : Nat) : Int))) (decide_eq_false (by omega)) (by kernel_rfl)) ?_
      refine Wk.rEnd 9 rfl ?_
      refine Wk.nxt ?_
      refine wp_cond_false (by kernel_rfl) ?_
      refine wp_exit ?_
      refine Wk.thX ?_
      refine Wk.thX ?_
      refine Wk.inX ?_
      refine Wk.nxt ?_
      refine wp_seq ?_
      refine Wk.reg ?_
      refine Wk.rPure 0 (some 56) (.pointer (some ⟨g, 0, none⟩)) rfl rfl (by kernel_rfl) (by kernel_rfl) ?_
      refine Wk.rPure 1 (some 57) (.int .i64 0) rfl rfl (by kernel_rfl) (by kernel_rfl) ?_
      refine Wk.rPure 2 (some 58) (.slice AL0 N0 cL0) rfl rfl (by kernel_rfl) (by kernel_rfl) ?_
      refine Wk.rPure 3 (some 59) (.pointer (some ⟨g, 0, none⟩)) rfl rfl (by kernel_rfl) (by kernel_rfl) ?_
      refine Wk.rPure 4 (some 60) (.pointer (some ⟨g, 0, none⟩)) rfl rfl (by kernel_rfl) (by kernel_rfl) ?_
      refine Wk.rPure 5 (some 61) (.pointer (some ⟨g, 0, none⟩)) rfl rfl (by kernel_rfl) (Wk.index_arr 43 26 (.tmp 60) (.tmp 57) rfl 2 Try.underlying43 1 (by kernel_rfl) g 0 0 .i64 (by kernel_rfl) (by kernel_rfl) (by decide)) ?_
      refine Wk.rExS 6 none _ rfl rfl (by kernel_rfl) (Wk.store1 26 (.tmp 61) (.tmp 58) rfl (by kernel_rfl) g 0 (by kernel_rfl) (.slice AL0 N0 cL0) (by kernel_rfl) rfl 45 #[.slice A0 n0 c0, .slice A1 n1 c1, .int .i64 ((xn : Nat) : Int), .int .i64 ((yn : Nat) : Int)] hG0 (by simp)) ?_
      rintro W8 ⟨hb4, ch7⟩
      replace hb4 : W8.heap[g]? = some (.cells #[.slice AL0 N0 cL0, .slice A1 n1 c1, .int .i64 ((xn : Nat) : Int), .int .i64 ((yn : Nat) : Int)] 45 (0, 0)) := hb4
      have zz7 := ch7.size
      refine Wk.rEnd 7 rfl ?_
      refine Wk.nxt ?_
      refine Wk.reg ?_
      refine Wk.rPure 0 (some 62) (.pointer (some ⟨g, 0, none⟩)) rfl rfl (by kernel_rfl) (by kernel_rfl) ?_
      refine Wk.rPure 1 (some 63) (.int .i64 0) rfl rfl (by kernel_rfl) (by kernel_rfl) ?_
      refine Wk.rPure 2 (some 64) (.slice AL0 N0 cL0) rfl rfl (by kernel_rfl) (by kernel_rfl) ?_
      refine Wk.rPure 3 (some 65) (.int .i64 ((N0 : Nat) : Int)) rfl rfl (by kernel_rfl) (by kernel_rfl) ?_
      refine Wk.rPure 4 (some 66) (.pointer (some ⟨g, 0, none⟩)) rfl rfl (by kernel_rfl) (by kernel_rfl) ?_
      refine Wk.rPure 5 (some 67) (.pointer (some ⟨g, 2, none⟩)) rfl rfl (by kernel_rfl) (by kernel_rfl) ?_
      refine Wk.rPure 6 (some 68) (.pointer (some ⟨g, 2, none⟩)) rfl rfl (by kernel_rfl) (Wk.index_arr 27 3 (.tmp 67) (.tmp 63) rfl 2 Try.underlying27 1 (by kernel_rfl) g 2 0 .i64 (by kernel_rfl) (by kernel_rfl) (by decide)) ?_
      refine Wk.rExS 7 none _ rfl rfl (by kernel_rfl) (Wk.store1 3 (.tmp 68) (.tmp 65) rfl (by kernel_rfl) g 2 (by kernel_rfl) (.int .i64 ((N0 : Nat) : Int)) (by kernel_rfl) rfl 45 #[.slice AL0 N0 cL0, .slice A1 n1 c1, .int .i64 ((xn : Nat) : Int), .int .i64 ((yn : Nat) : Int)] hb4 (by simp)) ?_
      rintro W9 ⟨hb5, ch8⟩
      replace hb5 : W9.heap[g]? = some (.cells #[.slice AL0 N0 cL0, .slice A1 n1 c1, .int .i64 ((N0 : Nat) : Int), .int .i64 ((yn : Nat) : Int)] 45 (0, 0)) := hb5
      have zz8 := ch8.size
      refine Wk.rEnd 8 rfl ?_
      refine Wk.inN ?_
      refine Wk.nxt ?_
      refine Wk.reg ?_
      refine Wk.rPure 0 (some 9) (.int .i64 0) rfl rfl (by kernel_rfl) (by kernel_rfl) ?_
      refine Wk.rPure 1 (some 10) (.int .i64 1) rfl rfl (by kernel_rfl) (Wk.int64 (n := 0 + 1) (z := 1) (by omega) (by omega) (by omega) (by kernel_rfl)) ?_
      refine Wk.rPure 2 (some 4) (.int .i64 1) rfl rfl (by kernel_rfl) (by kernel_rfl) ?_
      refine Wk.rEnd 3 rfl ?_
      refine Wk.nxt ?_
      refine Wk.rdS ?_
      refine wp_seq ?_
      refine wp_seq ?_
      refine Wk.reg ?_
      refine Wk.rPure 0 (some 7) (.int .i64 1) rfl rfl (by kernel_rfl) (by kernel_rfl) ?_
      refine Wk.rPure 1 (some 8) (.bool true) rfl rfl (by kernel_rfl) (Wk.boolT (b := decide ((1 : Int) < (2 : Int))) (decide_eq_true (by decide)) (by kernel_rfl)) ?_
      refine Wk.rEnd 2 rfl ?_
      refine Wk.nxt ?_
      refine wp_cond_true (by kernel_rfl) ?_
      refine wp_skip ?_
      refine Wk.nxt ?_
      refine wp_seq ?_
      refine wp_block ?_
      refine wp_seq ?_
      refine Wk.reg ?_
      refine Wk.rPure 0 (some 5) (.slice none 0 0) rfl rfl (by kernel_rfl) (by kernel_rfl) ?_
      refine Wk.rEnd 1 rfl ?_
      refine Wk.nxt ?_
      refine wp_seq ?_
      refine wp_seq ?_
      refine Wk.reg ?_
      refine Wk.rPure 0 (some 6) (.int .i64 0) rfl rfl (by kernel_rfl) (by kernel_rfl) ?_
      refine Wk.rEnd 1 rfl ?_
      refine Wk.nxt ?_
      refine wp_block ?_
      have ow8 := Mur.own8 (Wk.own_chg hO0.own ch7 (fun q e _ _ => ⟨by have := hO0.lt q e; omega, trivial⟩))
      have ow9 := Mur.own8 (Wk.own_chg ow8.own ch8 (fun q e _ _ => ⟨by have := hO0.lt q e; omega, trivial⟩))
      have hlt0 := ow9.lt
      refine Wk.loop (fun m_ a wr => ∃ (i1 : Nat) (AL1 : Option Addr) (N1 : Nat) (cL1 : Nat), m_ = n1 - i1 ∧ a = RCr_F3 a.tmps (.pointer (some ⟨g, 0, none⟩)) (.pointer (some ⟨w.heap.size, 0, none⟩)) (.int .i64 1) (.slice AL1 N1 cL1) (.int .i64 ((i1 : Nat) : Int)) ∧ i1 ≤ n1 ∧ N1 = min i1 (yn + min k1.toNat (yb.length - yn)) ∧ Own8 wr W9.heap.size 5 AL1 N1 cL1 (yb.take N1) ∧ wr.heap[g]? = some (.cells #[.slice AL0 N0 cL0, .slice A1 n1 c1, .int .i64 ((N0 : Nat) : Int), .int .i64 ((yn : Nat) : Int)] 45 (0, 0)) ∧ wr.heap[w.heap.size]? = some (.cells #[.int .i64 k0, .int .i64 k1] 27 (0, 0)) ∧ Wk.Chg [g] w wr ∧ W9.heap.size ≤ wr.heap.size ∧ Own8 wr W1.heap.size 5 AL0 N0 cL0 (xb.take N0)) (n1 - 0) ?_ ?_
      · have kk10 := Wk.Chg.step HB ch7 ⟨.inl (by simp), trivial⟩
        have kk11 := Wk.Chg.step kk10 ch8 ⟨.inl (by simp), trivial⟩
        refine ⟨0, none, 0, 0, rfl, by kernel_rfl, by omega, by omega, Mur.own8_nil W9 W9.heap.size 5, hb5, (Wk.Chg.hp ch8 (Wk.Chg.hp ch7 hK0 ⟨by omega, trivial⟩) ⟨by omega, trivial⟩), kk11, (by omega), ow9⟩
      · rintro mm2 aa2 W10 ⟨i1, AL1, N1, cL1, hmm2, hF2, hi1, hN1, hO1, hG1, hK1, HB, hbs1, hP0⟩
        generalize aa2.tmps = bb2 at hF2
        subst hF2
        have hqn1 := hO1.nc
        have hqm1 := hO1.cm
        unfold Go.maxLen at hqm1
        by_cases hlt1 : i1 < n1
        · obtain ⟨q1, off1, rfl, hc1⟩ := hbY.2 (by omega)
          refine wp_seq ?_
          refine wp_seq ?_
          refine Wk.reg ?_
          refine Wk.rPure 0 (some 11) (.int .i64 ((i1 : Nat) : Int)) rfl rfl (by kernel_rfl) (by kernel_rfl) ?_
          refine Wk.rPure 1 (some 12) (.pointer (some ⟨g, 0, none⟩)) rfl rfl (by kernel_rfl) (by kernel_rfl) ?_
          refine Wk.rPure 2 (some 13) (.int .i64 1) rfl rfl (by kernel_rfl) (by kernel_rfl) ?_
          refine Wk.rPure 3 (some 14) (.pointer (some ⟨g, 0, none⟩)) rfl rfl (by kernel_rfl) (by kernel_rfl) ?_
          refine Wk.rPure 4 (some 15) (.pointer (some ⟨g, 0, none⟩)) rfl rfl (by kernel_rfl) (by kernel_rfl) ?_
          refine Wk.rPure 5 (some 16) (.pointer (some ⟨g, 1, none⟩)) rfl rfl (by kernel_rfl) (Wk.index_arr 43 26 (.tmp 15) (.tmp 13) rfl 2 Try.underlying43 1 (by kernel_rfl) g 0 1 .i64 (by kernel_rfl) (by kernel_rfl) (by decide)) ?_
          refine Wk.rPure 6 (some 17) (.slice (some ⟨q1, off1, none⟩) n1 c1) rfl rfl (by kernel_rfl) (Wk.load1 26 (.tmp 16) rfl (by kernel_rfl) ⟨g, 1, none⟩ (by kernel_rfl) (.slice (some ⟨q1, off1, none⟩) n1 c1) ((cell_of_row _ _ 1 _ _ _ hG1).trans rfl)) ?_
          refine Wk.rPure 7 (some 18) (.int .i64 ((n1 : Nat) : Int)) rfl rfl (by kernel_rfl) (by kernel_rfl) ?_
          refine Wk.rPure 8 (some 19) (.bool true) rfl rfl (by kernel_rfl) (Wk.boolT (b := decide (((i1 : Nat) : Int) < ((n1 : Nat) : Int))) (decide_eq_true (by omega)) (by kernel_rfl)) ?_
          refine Wk.rEnd 9 rfl ?_
          refine Wk.nxt ?_
          refine wp_cond_true (by kernel_rfl) ?_
          refine wp_skip ?_
          refine Wk.nxt ?_
          refine wp_seq ?_
          refine wp_block ?_
          refine wp_seq ?_
          refine Wk.dReg ([]) (by kernel_rfl) ?_
          intro W11 ch9 sz5
          have zz9 := ch9.size
          have sS2 : Wk.Chg ([]) W11 W11 := (Wk.Chg.refl _).more (by simp)
          refine Wk.dVal 0 (some 22) (.int .i64 ((i1 : Nat) : Int)) rfl rfl (by kernel_rfl) (by kernel_rfl) (by kernel_rfl) (fun _ _ _ h => h) (by kernel_rfl) (fun w' hw' => by kernel_rfl) sS2 ?_
          refine Wk.dVal 1 (some 23) (.pointer (some ⟨g, 0, none⟩)) rfl rfl (by kernel_rfl) (by kernel_rfl) (by kernel_rfl) (fun _ _ _ h => h) (by kernel_rfl) (fun w' hw' => by kernel_rfl) sS2 ?_
          refine Wk.dVal 2 (some 24) (.int .i64 1) rfl rfl (by kernel_rfl) (by kernel_rfl) (by kernel_rfl) (fun _ _ _ h => h) (by kernel_rfl) (fun w' hw' => by kernel_rfl) sS2 ?_
          refine Wk.dVal 3 (some 25) (.pointer (some ⟨g, 0, none⟩)) rfl rfl (by kernel_rfl) (by kernel_rfl) (by kernel_rfl) (fun _ _ _ h => h) (by kernel_rfl) (fun w' hw' => by kernel_rfl) sS2 ?_
          refine Wk.dVal 4 (some 26) (.pointer (some ⟨g, 2, none⟩)) rfl rfl (by kernel_rfl) (by kernel_rfl) (by kernel_rfl) (fun _ _ _ h => h) (by kernel_rfl) (fun w' hw' => by kernel_rfl) sS2 ?_
          refine Wk.dVal 5 (some 27) (.pointer (some ⟨g, 3, none⟩)) rfl rfl (by kernel_rfl) (by kernel_rfl) (by kernel_rfl) (fun _ _ _ h => h) (by kernel_rfl) (fun w' hw' => (Wk.index_arr 27 3 (.tmp 26) (.tmp 24) rfl 2 Try.underlying27 1 (by kernel_rfl) g 2 1 .i64 (by kernel_rfl) (by kernel_rfl) (by decide))) sS2 ?_
          refine Wk.dVal 6 (some 28) (.int .i64 ((yn : Nat) : Int)) rfl rfl (by kernel_rfl) (by kernel_rfl) (by kernel_rfl) (fun _ _ _ h => h) (by kernel_rfl) (fun w' hw' => (Wk.load1 3 (.tmp 27) rfl (by kernel_rfl) ⟨g, 3, none⟩ (by kernel_rfl) (.int .i64 ((yn : Nat) : Int)) ((cell_of_row _ _ 3 _ _ _ (Wk.Chg.hp hw' (Wk.Chg.hp ch9 hG1 trivial) trivial)).trans rfl))) sS2 ?_
          by_cases hx3 : ((i1 : Nat) : Int) < ((yn : Nat) : Int)
          · refine Wk.dVal 7 (some 29) (.bool true) rfl rfl (by kernel_rfl) (by kernel_rfl) (by kernel_rfl) (fun _ _ _ h => h) (by kernel_rfl) (fun w' hw' => (Wk.boolT (b := decide (((i1 : Nat) : Int) < ((yn : Nat) : Int))) (decide_eq_true (by first | exact hx3 | omega)) (by kernel_rfl))) sS2 ?_
            refine Wk.dVal 8 (some 30) (.bool true) rfl rfl (by kernel_rfl) (by kernel_rfl) (by kernel_rfl) (fun _ _ _ h => h) (by kernel_rfl) (fun w' hw' => by kernel_rfl) sS2 ?_
            refine Wk.dPass 9 (some 31) rfl rfl (by kernel_rfl) (by kernel_rfl) (by kernel_rfl) (fun _ _ _ h => h) (by kernel_rfl) sS2 ?_
            refine Wk.dPass 10 (some 32) rfl rfl (by kernel_rfl) (by kernel_rfl) (by kernel_rfl) (fun _ _ _ h => h) (by kernel_rfl) sS2 ?_
            refine Wk.dPass 11 (some 33) rfl rfl (by kernel_rfl) (by kernel_rfl) (by kernel_rfl) (fun _ _ _ h => h) (by kernel_rfl) sS2 ?_
            refine Wk.dPass 12 (some 34) rfl rfl (by kernel_rfl) (by kernel_rfl) (by kernel_rfl) (fun _ _ _ h => h) (by kernel_rfl) sS2 ?_
            refine Wk.dPass 13 (some 35) rfl rfl (by kernel_rfl) (by kernel_rfl) (by kernel_rfl) (fun _ _ _ h => h) (by kernel_rfl) sS2 ?_
            refine Wk.dPass 14 (some 36) rfl rfl (by kernel_rfl) (by kernel_rfl) (by kernel_rfl) (fun _ _ _ h => h) (by kernel_rfl) sS2 ?_
            refine Wk.dPass 15 (some 37) rfl rfl (by kernel_rfl) (by kernel_rfl) (by kernel_rfl) (fun _ _ _ h => h) (by kernel_rfl) sS2 ?_
            refine Wk.dPass 16 (some 38) rfl rfl (by kernel_rfl) (by kernel_rfl) (by kernel_rfl) (fun _ _ _ h => h) (by kernel_rfl) sS2 ?_
            refine Wk.dPass 17 (some 39) rfl rfl (by kernel_rfl) (by kernel_rfl) (by kernel_rfl) (fun _ _ _ h => h) (by kernel_rfl) sS2 ?_
            refine Wk.dPass 18 (some 40) rfl rfl (by kernel_rfl) (by kernel_rfl) (by kernel_rfl) (fun _ _ _ h => h) (by kernel_rfl) sS2 ?_
            refine Wk.dPass 19 (some 41) rfl rfl (by kernel_rfl) (by kernel_rfl) (by kernel_rfl) (fun _ _ _ h => h) (by kernel_rfl) sS2 ?_
            refine Wk.dPass 20 (some 42) rfl rfl (by kernel_rfl) (by kernel_rfl) (by kernel_rfl) (fun _ _ _ h => h) (by kernel_rfl) sS2 ?_
            refine Wk.dVal 21 (some 43) (.bool true) rfl rfl (by kernel_rfl) (by kernel_rfl) (by kernel_rfl) (fun _ _ _ h => h) (by kernel_rfl) (fun w' hw' => by kernel_rfl) sS2 ?_
            refine Wk.dEnd (by kernel_rfl) ?_
            refine Wk.nxt ?_
            refine wp_cond_true (by kernel_rfl) ?_
            refine Wk.reg ?_
            refine Wk.rPure 0 (some 44) (.slice AL1 N1 cL1) rfl rfl (by kernel_rfl) (by kernel_rfl) ?_
            refine Wk.rPure 1 (some 45) (.pointer (some ⟨g, 0, none⟩)) rfl rfl (by kernel_rfl) (by kernel_rfl) ?_
            refine Wk.rPure 2 (some 46) (.int .i64 1) rfl rfl (by kernel_rfl) (by kernel_rfl) ?_
            refine Wk.rPure 3 (some 47) (.pointer (some ⟨g, 0, none⟩)) rfl rfl (by kernel_rfl) (by kernel_rfl) ?_
            refine Wk.rPure 4 (some 48) (.pointer (some ⟨g, 0, none⟩)) rfl rfl (by kernel_rfl) (by kernel_rfl) ?_
            refine Wk.rPure 5 (some 49) (.pointer (some ⟨g, 1, none⟩)) rfl rfl (by kernel_rfl) (Wk.index_arr 43 26 (.tmp 48) (.tmp 46) rfl 2 Try.underlying43 1 (by kernel_rfl) g 0 1 .i64 (by kernel_rfl) (by kernel_rfl) (by decide)) ?_
            refine Wk.rPure 6 (some 50) (.slice (some ⟨q1, off1, none⟩) n1 c1) rfl rfl (by kernel_rfl) (Wk.load1 26 (.tmp 49) rfl (by kernel_rfl) ⟨g, 1, none⟩ (by kernel_rfl) (.slice (some ⟨q1, off1, none⟩) n1 c1) ((cell_of_row _ _ 1 _ _ _ (Wk.Chg.hp ch9 hG1 trivial)).trans rfl)) ?_
            refine Wk.rPure 7 (some 51) (.int .i64 ((i1 : Nat) : Int)) rfl rfl (by kernel_rfl) (by kernel_rfl) ?_
            refine Wk.rPure 8 (some 52) (.pointer (some ⟨q1, off1 + i1 * 1, none⟩)) rfl rfl (by kernel_rfl) (Wk.index_sl 26 5 (.tmp 50) (.tmp 51) rfl Try.underlying26 1 (by kernel_rfl) q1 off1 n1 c1 i1 .i64 (by kernel_rfl) (by kernel_rfl) (by omega)) ?_
            have kk12 := Wk.Chg.step HB ch9 trivial
            refine Wk.rPure 9 (some 53) (.int .u8 (((yb.getD i1 0).toNat : Nat) : Int)) rfl rfl (by kernel_rfl) (Wk.load1 5 (.tmp 52) rfl (by kernel_rfl) ⟨q1, off1 + i1 * 1, none⟩ (by kernel_rfl) (.int .u8 (((yb.getD i1 0).toNat : Nat) : Int)) (Mur.byt_cell (Mur.byt_chg hbY kk12 (fun g off e hl => ⟨by have := hat1 g off e; omega, trivial⟩)) i1 (by omega))) ?_
            refine Wk.rEx 10 (some 54) _ rfl rfl (by kernel_rfl) (Wk.new_ex (.slice (some ⟨W11.heap.size, 0, none⟩) 1 1) #[.int .u8 (((yb.getD i1 0).toNat : Nat) : Int)] 5 (by kernel_rfl)) ?_
            rintro _ W12 ⟨rfl, hb6, ch10, sz6⟩
            have zz10 := ch10.size
            have ow10 := Mur.own8 (Wk.own_chg hO1.own ch9 (fun q e _ _ => trivial))
            have ow11 := Mur.own8 (Wk.own_chg ow10.own ch10 (fun q e _ _ => trivial))
            refine Wk.rEx 11 (some 55) _ rfl rfl (by kernel_rfl) (Mur.append8 (.tmp 44) (.tmp 54) 26 5 rfl Try.underlying26 (by kernel_rfl) W9.heap.size AL1 N1 cL1 (yb.take N1) (some ⟨W11.heap.size, 0, none⟩) 1 1 ([(yb.getD i1 0)]) (by kernel_rfl) (by kernel_rfl) ow11.own (Mur.byt_row [(yb.getD i1 0)] hb6) (fun h => by cases h) (by omega) (by omega) (N1 + 1) (by omega) ((yb.take N1) ++ ([(yb.getD i1 0)])) rfl) ?_
            rintro _ W13 ⟨AA3, nn3, rfl, ow12, ch11, ha3⟩
            have zz11 := ch11.size
            have hq5 := ow12.nc
            have hq6 := ow12.cm
            refine Wk.rPure 12 (some 5) (.slice AA3 (N1 + 1) nn3) rfl rfl (by kernel_rfl) (by kernel_rfl) ?_
            refine Wk.rEnd 13 rfl ?_
            refine Wk.inN ?_
            refine Wk.nxt ?_
            refine Wk.reg ?_
            refine Wk.rPure 0 (some 20) (.int .i64 ((i1 : Nat) : Int)) rfl rfl (by kernel_rfl) (by kernel_rfl) ?_
            refine Wk.rPure 1 (some 21) (.int .i64 ((i1 + 1 : Nat) : Int)) rfl rfl (by kernel_rfl) (Wk.int64 (n := ((i1 : Nat) : Int) + 1) (z := ((i1 + 1 : Nat) : Int)) (by omega) (by omega) (by omega) (by kernel_rfl)) ?_
            refine Wk.rPure 2 (some 6) (.int .i64 ((i1 + 1 : Nat) : Int)) rfl rfl (by kernel_rfl) (by kernel_rfl) ?_
            refine Wk.rEnd 3 rfl ?_
            refine Wk.nxt ?_
            have kk13 := Wk.Chg.step kk12 ch10 trivial
            have kk14 := Wk.Chg.step kk13 ch11 (Wk.newOr_blk (fun g hg => by have := hO1.lt g hg; omega))
            have ow13 := Mur.own8 (Wk.own_chg hP0.own ch9 (fun q e _ _ => trivial))
            have ow14 := Mur.own8 (Wk.own_chg ow13.own ch10 (fun q e _ _ => trivial))
            have ow15 := Mur.own8 (Wk.own_chg ow14.own ch11 (fun q e _ _ => (Wk.off_blk (fun gz hgz => by have := hO1.lt gz hgz; have := hlt0 q e; omega))))
            refine ⟨_, ?_, i1 + 1, AA3, N1 + 1, nn3, rfl, by kernel_rfl, (by omega), (by omega), (by have hni : i1 = N1 := (by omega); have h_ := ow12; rw [hni, Mur.take_step (by omega)] at h_; exact h_), (Wk.Chg.hp ch11 (Wk.Chg.hp ch10 (Wk.Chg.hp ch9 hG1 trivial) trivial) (Wk.off_blk (fun gz hgz => by have := hO1.lt gz hgz; omega))), (Wk.Chg.hp ch11 (Wk.Chg.hp ch10 (Wk.Chg.hp ch9 hK1 trivial) trivial) (Wk.off_blk (fun gz hgz => by have := hO1.lt gz hgz; omega))), kk14, (by omega), ow15⟩
            · omega
          · refine Wk.dVal 7 (some 29) (.bool false) rfl rfl (by kernel_rfl) (by kernel_rfl) (by kernel_rfl) (fun _ _ _ h => h) (by kernel_rfl) (fun w' hw' => (Wk.boolF (b := decide (((i1 : Nat) : Int) < ((yn : Nat) : Int))) (decide_eq_false (by first | exact hx3 | omega)) (by kernel_rfl))) sS2 ?_
            refine Wk.dVal 8 (some 30) (.bool false) rfl rfl (by kernel_rfl) (by kernel_rfl) (by kernel_rfl) (fun _ _ _ h => h) (by kernel_rfl) (fun w' hw' => by kernel_rfl) sS2 ?_
            refine Wk.dVal 9 (some 31) (.int .i64 ((i1 : Nat) : Int)) rfl rfl (by kernel_rfl) (by kernel_rfl) (by kernel_rfl) (fun _ _ _ h => h) (by kernel_rfl) (fun w' hw' => by kernel_rfl) sS2 ?_
            refine Wk.dVal 10 (some 32) (.pointer (some ⟨g, 0, none⟩)) rfl rfl (by kernel_rfl) (by kernel_rfl) (by kernel_rfl) (fun _ _ _ h => h) (by kernel_rfl) (fun w' hw' => by kernel_rfl) sS2 ?_
            refine Wk.dVal 11 (some 33) (.int .i64 1) rfl rfl (by kernel_rfl) (by kernel_rfl) (by kernel_rfl) (fun _ _ _ h => h) (by kernel_rfl) (fun w' hw' => by kernel_rfl) sS2 ?_
            refine Wk.dVal 12 (some 34) (.pointer (some ⟨g, 0, none⟩)) rfl rfl (by kernel_rfl) (by kernel_rfl) (by kernel_rfl) (fun _ _ _ h => h) (by kernel_rfl) (fun w' hw' => by kernel_rfl) sS2 ?_
            refine Wk.dVal 13 (some 35) (.pointer (some ⟨g, 2, none⟩)) rfl rfl (by kernel_rfl) (by kernel_rfl) (by kernel_rfl) (fun _ _ _ h => h) (by kernel_rfl) (fun w' hw' => by kernel_rfl) sS2 ?_
            refine Wk.dVal 14 (some 36) (.pointer (some ⟨g, 3, none⟩)) rfl rfl (by kernel_rfl) (by kernel_rfl) (by kernel_rfl) (fun _ _ _ h => h) (by kernel_rfl) (fun w' hw' => (Wk.index_arr 27 3 (.tmp 35) (.tmp 33) rfl 2 Try.underlying27 1 (by kernel_rfl) g 2 1 .i64 (by kernel_rfl) (by kernel_rfl) (by decide))) sS2 ?_
            refine Wk.dVal 15 (some 37) (.int .i64 ((yn : Nat) : Int)) rfl rfl (by kernel_rfl) (by kernel_rfl) (by kernel_rfl) (fun _ _ _ h => h) (by kernel_rfl) (fun w' hw' => (Wk.load1 3 (.tmp 36) rfl (by kernel_rfl) ⟨g, 3, none⟩ (by kernel_rfl) (.int .i64 ((yn : Nat) : Int)) ((cell_of_row _ _ 3 _ _ _ (Wk.Chg.hp hw' (Wk.Chg.hp ch9 hG1 trivial) trivial)).trans rfl))) sS2 ?_
            refine Wk.dVal 16 (some 38) (.int .i64 (((i1 : Nat) : Int) - ((yn : Nat) : Int))) rfl rfl (by kernel_rfl) (by kernel_rfl) (by kernel_rfl) (fun _ _ _ h => h) (by kernel_rfl) (fun w' hw' => (Wk.int64 (n := ((i1 : Nat) : Int) - ((yn : Nat) : Int)) (z := ((i1 : Nat) : Int) - ((yn : Nat) : Int)) (by omega) (by omega) (by omega) (by kernel_rfl))) sS2 ?_
            refine Wk.dVal 17 (some 39) (.int .i64 1) rfl rfl (by kernel_rfl) (by kernel_rfl) (by kernel_rfl) (fun _ _ _ h => h) (by kernel_rfl) (fun w' hw' => by kernel_rfl) sS2 ?_
            refine Wk.dVal 18 (some 40) (.pointer (some ⟨w.heap.size, 1, none⟩)) rfl rfl (by kernel_rfl) (by kernel_rfl) (by kernel_rfl) (fun _ _ _ h => h) (by kernel_rfl) (fun w' hw' => (Wk.index_arr 27 3 (.tmp 3) (.tmp 39) rfl 2 Try.underlying27 1 (by kernel_rfl) w.heap.size 0 1 .i64 (by kernel_rfl) (by kernel_rfl) (by decide))) sS2 ?_
            refine Wk.dVal 19 (some 41) (.int .i64 k1) rfl rfl (by kernel_rfl) (by kernel_rfl) (by kernel_rfl) (fun _ _ _ h => h) (by kernel_rfl) (fun w' hw' => (Wk.load1 3 (.tmp 40) rfl (by kernel_rfl) ⟨w.heap.size, 1, none⟩ (by kernel_rfl) (.int .i64 k1) ((cell_of_row _ _ 1 _ _ _ (Wk.Chg.hp hw' (Wk.Chg.hp ch9 hK1 trivial) trivial)).trans rfl))) sS2 ?_
            by_cases hx4 : (((i1 : Nat) : Int) - ((yn : Nat) : Int)) < k1
            · refine Wk.dVal 20 (some 42) (.bool true) rfl rfl (by kernel_rfl) (by kernel_rfl) (by kernel_rfl) (fun _ _ _ h => h) (by kernel_rfl) (fun w' hw' => (Wk.boolT (b := decide ((((i1 : Nat) : Int) - ((yn : Nat) : Int)) < k1)) (decide_eq_true (by first | exact hx4 | omega)) (by kernel_rfl))) sS2 ?_
              refine Wk.dVal 21 (some 43) (.bool true) rfl rfl (by kernel_rfl) (by kernel_rfl) (by kernel_rfl) (fun _ _ _ h => h) (by kernel_rfl) (fun w' hw' => by kernel_rfl) sS2 ?_
              refine Wk.dEnd (by kernel_rfl) ?_
              refine Wk.nxt ?_
              refine wp_cond_true (by kernel_rfl) ?_
              refine Wk.reg ?_
              refine Wk.rPure 0 (some 44) (.slice AL1 N1 cL1) rfl rfl (by kernel_rfl) (by kernel_rfl) ?_
              refine Wk.rPure 1 (some 45) (.pointer (some ⟨g, 0, none⟩)) rfl rfl (by kernel_rfl) (by kernel_rfl) ?_
              refine Wk.rPure 2 (some 46) (.int .i64 1) rfl rfl (by kernel_rfl) (by kernel_rfl) ?_
              refine Wk.rPure 3 (some 47) (.pointer (some ⟨g, 0, none⟩)) rfl rfl (by kernel_rfl) (by kernel_rfl) ?_
              refine Wk.rPure 4 (some 48) (.pointer (some ⟨g, 0, none⟩)) rfl rfl (by kernel_rfl) (by kernel_rfl) ?_
              refine Wk.rPure 5 (some 49) (.pointer (some ⟨g, 1, none⟩)) rfl rfl (by kernel_rfl) (Wk.index_arr 43 26 (.tmp 48) (.tmp 46) rfl 2 Try.underlying43 1 (by kernel_rfl) g 0 1 .i64 (by kernel_rfl) (by kernel_rfl) (by decide)) ?_
              refine Wk.rPure 6 (some 50) (.slice (some ⟨q1, off1, none⟩) n1 c1) rfl rfl (by kernel_rfl) (Wk.load1 26 (.tmp 49) rfl (by kernel_rfl) ⟨g, 1, none⟩ (by kernel_rfl) (.slice (some ⟨q1, off1, none⟩) n1 c1) ((cell_of_row _ _ 1 _ _ _ (Wk.Chg.hp ch9 hG1 trivial)).trans rfl)) ?_
              refine Wk.rPure 7 (some 51) (.int .i64 ((i1 : Nat) : Int)) rfl rfl (by kernel_rfl) (by kernel_rfl) ?_
              refine Wk.rPure 8 (some 52) (.pointer (some ⟨q1, off1 + i1 * 1, none⟩)) rfl rfl (by kernel_rfl) (Wk.index_sl 26 5 (.tmp 50) (.tmp 51) rfl Try.underlying26 1 (by kernel_rfl) q1 off1 n1 c1 i1 .i64 (by kernel_rfl) (by kernel_rfl) (by omega)) ?_
              have kk15 := Wk.Chg.step HB ch9 trivial
              refine Wk.rPure 9 (some 53) (.int .u8 (((yb.getD i1 0).toNat : Nat) : Int)) rfl rfl (by kernel_rfl) (Wk.load1 5 (.tmp 52) rfl (by kernel_rfl) ⟨q1, off1 + i1 * 1, none⟩ (by kernel_rfl) (.int .u8 (((yb.getD i1 0).toNat : Nat) : Int)) (Mur.byt_cell (Mur.byt_chg hbY kk15 (fun g off e hl => ⟨by have := hat1 g off e; omega, trivial⟩)) i1 (by omega))) ?_
              refine Wk.rEx 10 (some 54) _ rfl rfl (by kernel_rfl) (Wk.new_ex (.slice (some ⟨W11.heap.size, 0, none⟩) 1 1) #[.int .u8 (((yb.getD i1 0).toNat : Nat) : Int)] 5 (by kernel_rfl)) ?_
              rintro _ W14 ⟨rfl, hb7, ch12, sz7⟩
              have zz12 := ch12.size
              have ow16 := Mur.own8 (Wk.own_chg hO1.own ch9 (fun q e _ _ => trivial))
              have ow17 := Mur.own8 (Wk.own_chg ow16.own ch12 (fun q e _ _ => trivial))
              refine Wk.rEx 11 (some 55) _ rfl rfl (by kernel_rfl) (Mur.append8 (.tmp 44) (.tmp 54) 26 5 rfl Try.underlying26 (by kernel_rfl) W9.heap.size AL1 N1 cL1 (yb.take N1) (some ⟨W11.heap.size, 0, none⟩) 1 1 ([(yb.getD i1 0)]) (by kernel_rfl) (by kernel_rfl) ow17.own (Mur.byt_row [(yb.getD i1 0)] hb7) (fun h => by cases h) (by omega) (by omega) (N1 + 1) (by omega) ((yb.take N1) ++ ([(yb.getD i1 0)])) rfl) ?_
              rintro _ W15 ⟨AA4, nn4, rfl, ow18, ch13, ha4⟩
              have zz13 := ch13.size
              have hq7 := ow18.nc
              have hq8 := ow18.cm
              refine Wk.rPure 12 (some 5) (.slice AA4 (N1 + 1) nn4) rfl rfl (by kernel_rfl) (by kernel_rfl) ?_
              refine Wk.rEnd 13 rfl ?_
              refine Wk.inN ?_
              refine Wk.nxt ?_
              refine Wk.reg ?_
              refine Wk.rPure 0 (some 20) (.int .i64 ((i1 : Nat) : Int)) rfl rfl (by kernel_rfl) (by kernel_rfl) ?_
              refine Wk.rPure 1 (some 21) (.int .i64 ((i1 + 1 : Nat) : Int)) rfl rfl (by kernel_rfl) (Wk.int64 (n := ((i1 : Nat) : Int) + 1) (z := ((i1 + 1 : Nat) : Int)) (by omega) (by omega) (by omega) (by kernel_rfl)) ?_
              refine Wk.rPure 2 (some 6) (.int .i64 ((i1 + 1 : Nat) : Int)) rfl rfl (by kernel_rfl) (by kernel_rfl) ?_
              refine Wk.rEnd 3 rfl ?_
              refine Wk.nxt ?_
              have kk16 := Wk.Chg.step kk15 ch12 trivial
              have kk17 := Wk.Chg.step kk16 ch13 (Wk.newOr_blk (fun g hg => by have := hO1.lt g hg; omega))
              have ow19 := Mur.own8 (Wk.own_chg hP0.own ch9 (fun q e _ _ => trivial))
              have ow20 := Mur.own8 (Wk.own_chg ow19.own ch12 (fun q e _ _ => trivial))
              have ow21 := Mur.own8 (Wk.own_chg ow20.own ch13 (fun q e _ _ => (Wk.off_blk (fun gz hgz => by have := hO1.lt gz hgz; have := hlt0 q e; omega))))
              refine ⟨_, ?_, i1 + 1, AA4, N1 + 1, nn4, rfl, by kernel_rfl, (by omega), (by omega), (by have hni : i1 = N1 := (by omega); have h_ := ow18; rw [hni, Mur.take_step (by omega)] at h_; exact h_), (Wk.Chg.hp ch13 (Wk.Chg.hp ch12 (Wk.Chg.hp ch9 hG1 trivial) trivial) (Wk.off_blk (fun gz hgz => by have := hO1.lt gz hgz; omega))), (Wk.Chg.hp ch13 (Wk.Chg.hp ch12 (Wk.Chg.hp ch9 hK1 trivial) trivial) (Wk.off_blk (fun gz hgz => by have := hO1.lt gz hgz; omega))), kk17, (by omega), ow21⟩
              · omega
            · refine Wk.dVal 20 (some 42) (.bool false) rfl rfl (by kernel_rfl) (by kernel_rfl) (by kernel_rfl) (fun _ _ _ h => h) (by kernel_rfl) (fun w' hw' => (Wk.boolF (b := decide ((((i1 : Nat) : Int) - ((yn : Nat) : Int)) < k1)) (decide_eq_false (by first | exact hx4 | omega)) (by kernel_rfl))) sS2 ?_
              refine Wk.dVal 21 (some 43) (.bool false) rfl rfl (by kernel_rfl) (by kernel_rfl) (by kernel_rfl) (fun _ _ _ h => h) (by kernel_rfl) (fun w' hw' => by kernel_rfl) sS2 ?_
              refine Wk.dEnd (by kernel_rfl) ?_
              refine Wk.nxt ?_
              refine wp_cond_false (by kernel_rfl) ?_
              refine wp_skip ?_
              refine Wk.inN ?_
              refine Wk.nxt ?_
              refine Wk.reg ?_
              refine Wk.rPure 0 (some 20) (.int .i64 ((i1 : Nat) : Int)) rfl rfl (by kernel_rfl) (by kernel_rfl) ?_
              refine Wk.rPure 1 (some 21) (.int .i64 ((i1 + 1 : Nat) : Int)) rfl rfl (by kernel_rfl) (Wk.int64 (n := ((i1 : Nat) : Int) + 1) (z := ((i1 + 1 : Nat) : Int)) (by omega) (by omega) (by omega) (by kernel_rfl)) ?_
              refine Wk.rPure 2 (some 6) (.int .i64 ((i1 + 1 : Nat) : Int)) rfl rfl (by kernel_rfl) (by kernel_rfl) ?_
              refine Wk.rEnd 3 rfl ?_
              refine Wk.nxt ?_
              have ow22 := Mur.own8 (Wk.own_chg hO1.own ch9 (fun q e _ _ => trivial))
              have kk18 := Wk.Chg.step HB ch9 trivial
              have ow23 := Mur.own8 (Wk.own_chg hP0.own ch9 (fun q e _ _ => trivial))
              refine ⟨_, ?_, i1 + 1, AL1, N1, cL1, rfl, by kernel_rfl, (by omega), (by omega), ow22, (Wk.Chg.hp ch9 hG1 trivial), (Wk.Chg.hp ch9 hK1 trivial), kk18, (by omega), ow23⟩
              · omega
        · have hE1 : (⟨yb, yn⟩ : Fil).left k1 = N1 := by simp only [Mur.Fil.left]; omega
          refine wp_seq ?_
          refine wp_seq ?_
          refine Wk.reg ?_
          refine Wk.rPure 0 (some 11) (.int .i64 ((i1 : Nat) : Int)) rfl rfl (by kernel_rfl) (by kernel_rfl) ?_
          refine Wk.rPure 1 (some 12) (.pointer (some ⟨g, 0, none⟩)) rfl rfl (by kernel_rfl) (by kernel_rfl) ?_
          refine Wk.rPure 2 (some 13) (.int .i64 1) rfl rfl (by kernel_rfl) (by kernel_rfl) ?_
          refine Wk.rPure 3 (some 14) (.pointer (some ⟨g, 0, none⟩)) rfl rfl (by kernel_rfl) (by kernel_rfl) ?_
          refine Wk.rPure 4 (some 15) (.pointer (some ⟨g, 0, none⟩)) rfl rfl (by kernel_rfl) (by kernel_rfl) ?_
          refine Wk.rPure 5 (some 16) (.pointer (some ⟨g, 1, none⟩)) rfl rfl (by kernel_rfl) (Wk.index_arr 43 26 (.tmp 15) (.tmp 13) rfl 2 Try.underlying43 1 (by kernel_rfl) g 0 1 .i64 (by kernel_rfl) (by kernel_rfl) (by decide)) ?_
          refine Wk.rPure 6 (some 17) (.slice A1 n1 c1) rfl rfl (by kernel_rfl) (Wk.load1 26 (.tmp 16) rfl (by kernel_rfl) ⟨g, 1, none⟩ (by kernel_rfl) (.slice A1 n1 c1) ((cell_of_row _ _ 1 _ _ _ hG1).trans rfl)) ?_
          refine Wk.rPure 7 (some 18) (.int .i64 ((n1 : Nat) : Int)) rfl rfl (by kernel_rfl) (by kernel_rfl) ?_
          refine Wk.rPure 8 (some 19) (.bool false) rfl rfl (by kernel_rfl) (Wk.boolF (b := decide (((i1 : Nat) : Int) < ((n1 : Nat) : Int))) (decide_eq_false (by omega)) (by kernel_rfl)) ?_
          refine Wk.rEnd 9 rfl ?_
          refine Wk.nxt ?_
          refine wp_cond_false (by kernel_rfl) ?_
          refine wp_exit ?_
          refine Wk.thX ?_
          refine Wk.thX ?_
          refine Wk.inX ?_
          refine Wk.nxt ?_
          refine wp_seq ?_
          refine Wk.reg ?_
          refine Wk.rPure 0 (some 56) (.pointer (some ⟨g, 0, none⟩)) rfl rfl (by kernel_rfl) (by kernel_rfl) ?_
          refine Wk.rPure 1 (some 57) (.int .i64 1) rfl rfl (by kernel_rfl) (by kernel_rfl) ?_
          refine Wk.rPure 2 (some 58) (.slice AL1 N1 cL1) rfl rfl (by kernel_rfl) (by kernel_rfl) ?_
          refine Wk.rPure 3 (some 59) (.pointer (some ⟨g, 0, none⟩)) rfl rfl (by kernel_rfl) (by kernel_rfl) ?_
          refine Wk.rPure 4 (some 60) (.pointer (some ⟨g, 0, none⟩)) rfl rfl (by kernel_rfl) (by kernel_rfl) ?_
          refine Wk.rPure 5 (some 61) (.pointer (some ⟨g, 1, none⟩)) rfl rfl (by kernel_rfl) (Wk.index_arr 43 26 (.tmp 60) (.tmp 57) rfl 2 Try.underlying43 1 (by kernel_rfl) g 0 1 .i64 (by kernel_rfl) (by kernel_rfl) (by decide)) ?_
          refine Wk.rExS 6 none _ rfl rfl (by kernel_rfl) (Wk.store1 26 (.tmp 61) (.tmp 58) rfl (by kernel_rfl) g 1 (by kernel_rfl) (.slice AL1 N1 cL1) (by kernel_rfl) rfl 45 #[.slice AL0 N0 cL0, .slice A1 n1 c1, .int .i64 ((N0 : Nat) : Int), .int .i64 ((yn : Nat) : Int)] hG1 (by simp)) ?_
          rintro W16 ⟨hb8, ch14⟩
          replace hb8 : W16.heap[g]? = some (.cells #[.slice AL0 N0 cL0, .slice AL1 N1 cL1, .int .i64 ((N0 : Nat) : Int), .int .i64 ((yn : Nat) : Int)] 45 (0, 0)) := hb8
          have zz14 := ch14.size
          refine Wk.rEnd 7 rfl ?_
          refine Wk.nxt ?_
          refine Wk.reg ?_
          refine Wk.rPure 0 (some 62) (.pointer (some ⟨g, 0, none⟩)) rfl rfl (by kernel_rfl) (by kernel_rfl) ?_
          refine Wk.rPure 1 (some 63) (.int .i64 1) rfl rfl (by kernel_rfl) (by kernel_rfl) ?_
          refine Wk.rPure 2 (some 64) (.slice AL1 N1 cL1) rfl rfl (by kernel_rfl) (by kernel_rfl) ?_
          refine Wk.rPure 3 (some 65) (.int .i64 ((N1 : Nat) : Int)) rfl rfl (by kernel_rfl) (by kernel_rfl) ?_
          refine Wk.rPure 4 (some 66) (.pointer (some ⟨g, 0, none⟩)) rfl rfl (by kernel_rfl) (by kernel_rfl) ?_
          refine Wk.rPure 5 (some 67) (.pointer (some ⟨g, 2, none⟩)) rfl rfl (by kernel_rfl) (by kernel_rfl) ?_
          refine Wk.rPure 6 (some 68) (.pointer (some ⟨g, 3, none⟩)) rfl rfl (by kernel_rfl) (Wk.index_arr 27 3 (.tmp 67) (.tmp 63) rfl 2 Try.underlying27 1 (by kernel_rfl) g 2 1 .i64 (by kernel_rfl) (by kernel_rfl) (by decide)) ?_
          refine Wk.rExS 7 none _ rfl rfl (by kernel_rfl) (Wk.store1 3 (.tmp 68) (.tmp 65) rfl (by kernel_rfl) g 3 (by kernel_rfl) (.int .i64 ((N1 : Nat) : Int)) (by kernel_rfl) rfl 45 #[.slice AL0 N0 cL0, .slice AL1 N1 cL1, .int .i64 ((N0 : Nat) : Int), .int .i64 ((yn : Nat) : Int)] hb8 (by simp)) ?_
          rintro W17 ⟨hb9, ch15⟩
          replace hb9 : W17.heap[g]? = some (.cells #[.slice AL0 N0 cL0, .slice AL1 N1 cL1, .int .i64 ((N0 : Nat) : Int), .int .i64 ((N1 : Nat) : Int)] 45 (0, 0)) := hb9
          have zz15 := ch15.size
          refine Wk.rEnd 8 rfl ?_
          refine Wk.inN ?_
          refine Wk.nxt ?_
          refine Wk.reg ?_
          refine Wk.rPure 0 (some 9) (.int .i64 1) rfl rfl (by kernel_rfl) (by kernel_rfl) ?_
          refine Wk.rPure 1 (some 10) (.int .i64 2) rfl rfl (by kernel_rfl) (Wk.int64 (n := 1 + 1) (z := 2) (by omega) (by omega) (by omega) (by kernel_rfl)) ?_
          refine Wk.rPure 2 (some 4) (.int .i64 2) rfl rfl (by kernel_rfl) (by kernel_rfl) ?_
          refine Wk.rEnd 3 rfl ?_
          refine Wk.nxt ?_
          refine Wk.rdS ?_
          refine wp_seq ?_
          refine wp_seq ?_
          refine Wk.reg ?_
          refine Wk.rPure 0 (some 7) (.int .i64 2) rfl rfl (by kernel_rfl) (by kernel_rfl) ?_
          refine Wk.rPure 1 (some 8) (.bool false) rfl rfl (by kernel_rfl) (Wk.boolF (b := decide ((2 : Int) < (2 : Int))) (decide_eq_false (by decide)) (by kernel_rfl)) ?_
          refine Wk.rEnd 2 rfl ?_
          refine Wk.nxt ?_
          refine wp_cond_false (by kernel_rfl) ?_
          refine wp_exit ?_
          refine Wk.thX ?_
          refine Wk.thX ?_
          refine Wk.inX ?_
          have kk19 := Wk.Chg.step HB ch14 ⟨.inl (by simp), trivial⟩
          have kk20 := Wk.Chg.step kk19 ch15 ⟨.inl (by simp), trivial⟩
          have ow24 := Mur.own8 (Wk.own_chg hP0.own ch14 (fun q e _ _ => ⟨by have := hP0.lt q e; omega, trivial⟩))
          have ow25 := Mur.own8 (Wk.own_chg ow24.own ch15 (fun q e _ _ => ⟨by have := hP0.lt q e; omega, trivial⟩))
          have ow26 := Mur.own8 (Wk.own_chg hO1.own ch14 (fun q e _ _ => ⟨by have := hO1.lt q e; omega, trivial⟩))
          have ow27 := Mur.own8 (Wk.own_chg ow26.own ch15 (fun q e _ _ => ⟨by have := hO1.lt q e; omega, trivial⟩))
          rw [show Mur.Dk.crash ⟨⟨xb, xn⟩, ⟨yb, yn⟩⟩ k0 k1 = ⟨⟨xb.take N0, N0⟩, ⟨yb.take N1, N1⟩⟩ from by unfold Mur.Dk.crash; rw [Mur.left_take hE0, Mur.left_take hE1]]
          have ho0 := Mur.ablk_own ow25
          have ho1 := Mur.ablk_own ow27
          refine Wk.retN (.tuple #[]) rfl (by kernel_rfl) ?_
          refine ⟨g :: (ablk AL0 ++ ablk AL1), rfl, ⟨_, _, _, _, _, _, ⟨hb9, ow25.byt, ow27.byt, ow25.nc, ow27.nc, ow25.nil, ow27.nil, fun q off eq => by have := ow25.at_ q off eq; omega, fun q off eq => by have := ow27.at_ q off eq; omega, ho0.2, ho1.2⟩, rfl⟩, kk20, Mur.newOr_iff.2 fun t ht => ?_⟩
          rcases List.mem_cons.1 ht with rfl | ht
          · exact .inl (by simp)
          · rcases List.mem_append.1 ht with ht | ht
            · exact .inr (by have := ho0.1 t ht; omega)
            · exact .inr (by have := ho1.1 t ht; omega)
end Go.Proofs.Ytddabjlhidokaaa
