/- What the row rests on, part 8. -/
import Derived.Test.YtfhneademopciaaDoorPT7
import Derived.Test.YtfhneademopciaaDoorPT4
import Derived.Test.YtfhneademopciaaDoorPT5
namespace Go.Proofs.YtfhneademopciaaDoor
open Go.RowKit Wk
open Mur (b8s Byt Own8 Seg Segs flat cutA attC Att SlA OwnA rowA)
set_option maxRecDepth 100000
set_option maxHeartbeats 4000000
theorem New_any (w : World) : Calls Tryd.prog 14 #[] w fun e w' => ∃ F, e = .returned (.pointer (some ⟨w.heap.size, 0, none⟩)) ∧ Mur.SetF 32 57 w.heap.size w' w.heap.size ([]) F ∧ Chg [] w w' := by
 refine calls_of_wp Tryd.func14 rfl ?_
 refine wp_seq (reg ?_)
 refine rP 0 0 (.pointer none) rfl rfl ?_
 refine rEnd 1 rfl (nxt (wp_seq (reg ?_)))
 refine rP 0 1 (.agg #[.slice none 0 0]) rfl rfl ?_
 refine rX 1 2 rfl rfl (new_ex (.pointer (some ⟨w.heap.size, 0, none⟩)) #[.slice none 0 0] 57 (by kernel_rfl)) ?_
 rintro _ W1 ⟨rfl, hb1, ch1, sz1⟩
 have zz1 := ch1.size
 refine rP 2 0 (.pointer (some ⟨w.heap.size, 0, none⟩)) rfl rfl ?_
 refine rEnd 3 rfl (nxt (wp_ret ?_))
 have kk1 : Chg [] w W1 := Chg.step ((Chg.refl _).more (by simp)) ch1 trivial
 refine Wk.ret (.pointer (some ⟨w.heap.size, 0, none⟩)) rfl (by kernel_rfl) ?_
 exact ⟨[w.heap.size], rfl, ⟨none, 0, 0, ⟨hb1, Mur.ownA_nil _ _ _, (fun q h => by cases h), Nat.le_refl _, List.Pairwise.nil, by simp, by simp⟩, rfl⟩, kk1⟩
theorem Has_any (lo : Nat) (L : List Att) (g : Nat) (F : List Nat) (x : Att) (w : World) (h : Mur.SetF 32 57 lo w g L F) : Calls Tryd.prog 24 #[.pointer (some ⟨g, 0, none⟩), .agg (attC x.k x.r x.n x.t).toArray] w fun e w' => e = .returned (.bool (decide (x ∈ L))) ∧ Chg [] w w' := by
 have hmem_ := Mur.SetF.mem h
 obtain ⟨A, n, c, hS, rfl⟩ := h
 have hpS := hS.hp
 have hgl := (Array.getElem?_eq_some_iff.1 hpS).1
 have hOw := hS.own
 have hsrt := hS.srt
 have hlen := hS.len
 have hOl := hOw.sl.len
 have hOc := hOw.nc
 have hlo_ := hS.lo_
 have hOw2 : ∀ k, (Value.slice A n c).ownBlock = some k → (lo ≤ k ∧ k < w.heap.size) ∧ k ≠ g := fun k h => ⟨hOw.lt k h, hS.ne k h⟩
 refine calls_of_wp Tryd.func24 rfl ?_
 refine wp_seq (reg ?_)
 refine rX 0 3 rfl rfl (new_ex (.pointer (some ⟨w.heap.size, 0, none⟩)) ((Mur.attC x.k x.r x.n x.t).toArray) 32 (by kernel_rfl)) ?_
 rintro _ W1 ⟨rfl, hb1, ch1, sz1⟩
 have zz1 := ch1.size
 refine rP 1 4 (.bool false) rfl rfl ?_
 refine rEnd 2 rfl (nxt (wp_seq (wp_seq (reg ?_))))
 refine rP 0 7 (.pointer (some ⟨g, 0, none⟩)) rfl rfl ?_
 refine rP 1 8 (.bool false) rfl rfl ?_
 refine rEnd 2 rfl (nxt (wp_cond_false (by kernel_rfl) (wp_skip (nxt (wp_seq ?_)))))
 refine dReg ([]) (by kernel_rfl) ?_
 intro W2 ch2 sz2
 have zz2 := ch2.size
 have sS1 : Chg ([]) W2 W2 := (Chg.refl _).more (by simp)
 refine dV 0 10 (.pointer (some ⟨g, 0, none⟩)) rfl rfl (fun _ _ => by kernel_rfl) sS1 ?_
 refine dV 1 11 (.pointer (some ⟨g, 0, none⟩)) rfl rfl (fun _ _ => by kernel_rfl) sS1 ?_
 refine dV 2 12 (.pointer (some ⟨g, 0, none⟩)) rfl rfl (fun _ _ => by kernel_rfl) sS1 ?_
 have kk1 : Chg [] w W1 := Chg.step ((Chg.refl _).more (by simp)) ch1 trivial
 have kk2 := Chg.step kk1 ch2 trivial
 refine dV 3 13 (.slice A n c) rfl rfl (fun w' hw' => (load1 22 (.tmp 12) rfl (by kernel_rfl) ⟨g, 0, none⟩ (by kernel_rfl) (.slice A n c) ((cell_of_row _ _ 0 _ _ _ (Chg.hp hw' (Chg.hp kk2 hpS trivial) trivial)).trans rfl))) sS1 ?_
 refine dV 4 14 (.agg ((Mur.attC x.k x.r x.n x.t).toArray)) rfl rfl (fun w' hw' => (Mur.loadArr 32 (.tmp 3) rfl _ Tryd.underlying32 rfl w.heap.size (by kernel_rfl) (Mur.attC x.k x.r x.n x.t).toArray 97 (Mur.attC_size x.hk x.hr x.ht) (by kernel_rfl) 32 (0, 0) (Chg.hp hw' (Chg.hp ch2 hb1 trivial) trivial))) sS1 ?_
 refine dOp 5 (by kernel_rfl) ?_
 refine oCall (some 15) 39 [.tmp 13, .tmp 14, .func 40] #[22, 32, 81] [.slice A n c, .agg ((Mur.attC x.k x.r x.n x.t).toArray), .func (.func 40) #[] #[]] rfl rfl (by kernel_rfl) rfl (by kernel_rfl) (by kernel_rfl) ?_
 have ow1 := Mur.OwnA.chg hOw ch1 (fun q e _ _ => trivial)
 have ow2 := Mur.OwnA.chg ow1 ch2 (fun q e _ _ => trivial)
 refine (Search_any L hsrt A n c x W2 ow2.sl (by omega)).mono ?_
 by_cases hmem1 : x ∈ L
 ·rw [decide_eq_true hmem1]
  rintro _ W3 ⟨rfl, ch3⟩
  have zz3 := ch3.size
  have sS2 := Chg.step sS1 ch3 trivial
  refine ⟨_, rfl, sS2, ?_⟩
  refine dV 6 9 (.tuple #[.int .i64 ((Mur.pos x L : Nat) : Int), .bool true]) rfl rfl (fun _ _ => by kernel_rfl) sS2 ?_
  refine dV 7 16 (.int .i64 ((Mur.pos x L : Nat) : Int)) rfl rfl (fun _ _ => by kernel_rfl) sS2 ?_
  refine dV 8 17 (.bool true) rfl rfl (fun _ _ => by kernel_rfl) sS2 ?_
  refine dV 9 5 (.int .i64 ((Mur.pos x L : Nat) : Int)) rfl rfl (fun _ _ => by kernel_rfl) sS2 ?_
  refine dV 10 6 (.bool true) rfl rfl (fun _ _ => by kernel_rfl) sS2 ?_
  refine dEnd (by kernel_rfl) (nxt (wp_seq (reg ?_)))
  refine rP 0 18 (.bool true) rfl rfl ?_
  refine rP 1 4 (.bool true) rfl rfl ?_
  refine rEnd 2 rfl (nxt (wp_ret ?_))
  have kk3 := Chg.step kk2 ch3 trivial
  refine Wk.ret (.bool true) rfl (by kernel_rfl) ?_
  exact ⟨by first | rfl | rw [decide_eq_true hmem1], kk3⟩
 rw [decide_eq_false hmem1]
 rintro _ W3 ⟨rfl, ch3⟩
 have zz4 := ch3.size
 have sS3 := Chg.step sS1 ch3 trivial
 refine ⟨_, rfl, sS3, ?_⟩
 refine dV 6 9 (.tuple #[.int .i64 ((Mur.pos x L : Nat) : Int), .bool false]) rfl rfl (fun _ _ => by kernel_rfl) sS3 ?_
 refine dV 7 16 (.int .i64 ((Mur.pos x L : Nat) : Int)) rfl rfl (fun _ _ => by kernel_rfl) sS3 ?_
 refine dV 8 17 (.bool false) rfl rfl (fun _ _ => by kernel_rfl) sS3 ?_
 refine dV 9 5 (.int .i64 ((Mur.pos x L : Nat) : Int)) rfl rfl (fun _ _ => by kernel_rfl) sS3 ?_
 refine dV 10 6 (.bool false) rfl rfl (fun _ _ => by kernel_rfl) sS3 ?_
 refine dEnd (by kernel_rfl) (nxt (wp_seq (reg ?_)))
 refine rP 0 18 (.bool false) rfl rfl ?_
 refine rP 1 4 (.bool false) rfl rfl ?_
 refine rEnd 2 rfl (nxt (wp_ret ?_))
 have kk4 := Chg.step kk2 ch3 trivial
 refine Wk.ret (.bool false) rfl (by kernel_rfl) ?_
 exact ⟨by first | rfl | rw [decide_eq_false hmem1], kk4⟩
theorem Add_any (lo : Nat) (L : List Att) (g : Nat) (F : List Nat) (x : Att) (w : World) (h : Mur.SetF 32 57 lo w g L F) : Calls Tryd.prog 15 #[.pointer (some ⟨g, 0, none⟩), .agg (attC x.k x.r x.n x.t).toArray] w fun e w' => ∃ F', e = .returned (.int .i64 (Mur.addS x L).2) ∧ Mur.SetF 32 57 lo w' g ((Mur.addS x L).1) F' ∧ Chg F w w' ∧ NewOr w.heap.size F F' := by
 have hmem_ := Mur.SetF.mem h
 obtain ⟨A, n, c, hS, rfl⟩ := h
 have hpS := hS.hp
 have hgl := (Array.getElem?_eq_some_iff.1 hpS).1
 have hOw := hS.own
 have hsrt := hS.srt
 have hlen := hS.len
 have hOl := hOw.sl.len
 have hOc := hOw.nc
 have hlo_ := hS.lo_
 have hOw2 : ∀ k, (Value.slice A n c).ownBlock = some k → (lo ≤ k ∧ k < w.heap.size) ∧ k ≠ g := fun k h => ⟨hOw.lt k h, hS.ne k h⟩
 refine calls_of_wp Tryd.func15 rfl ?_
 refine wp_seq (reg ?_)
 refine rX 0 3 rfl rfl (new_ex (.pointer (some ⟨w.heap.size, 0, none⟩)) ((Mur.attC x.k x.r x.n x.t).toArray) 32 (by kernel_rfl)) ?_
 rintro _ W1 ⟨rfl, hb1, ch1, sz1⟩
 have zz1 := ch1.size
 refine rP 1 4 (.int .i64 0) rfl rfl ?_
 refine rEnd 2 rfl (nxt (wp_seq (wp_seq (reg ?_))))
 refine rP 0 9 (.pointer (some ⟨g, 0, none⟩)) rfl rfl ?_
 refine rP 1 10 (.bool false) rfl rfl ?_
 refine rEnd 2 rfl (nxt (wp_cond_false (by kernel_rfl) (wp_skip (nxt (wp_seq (wp_seq (reg ?_)))))))
 refine rQ 0 12 (.agg ((Mur.attC x.k x.r x.n x.t).toArray)) rfl rfl (Mur.loadArr 32 (.tmp 3) rfl _ Tryd.underlying32 rfl w.heap.size (by kernel_rfl) (Mur.attC x.k x.r x.n x.t).toArray 97 (Mur.attC_size x.hk x.hr x.ht) (by kernel_rfl) 32 (0, 0) hb1) ?_
 refine rC 1 13 38 [.tmp 12] #[32] [.agg ((Mur.attC x.k x.r x.n x.t).toArray)] rfl rfl rfl ?_
 by_cases hmay1 : Mur.may x.n
 ·have hmay1u : (1 ≤ x.n ∧ x.n ≤ 5000) := hmay1
  refine (Bytes_ok x.k x.r x.t x.n x.hk x.hr x.ht W1 hmay1).mono ?_
  rintro _ W2 ⟨qr1, cr1, RB1, hRB1, rfl, hbr1, hq1, hq2, ch2⟩
  have zz2 := ch2.size
  have hBt1 : ∀ g off, (some ⟨qr1, 0, none⟩ : Option Addr) = some ⟨g, off, none⟩ → W1.heap.size ≤ g ∧ g < W2.heap.size := fun g off e => by cases e; exact hq1
  refine ⟨_, rfl, ?_⟩
  refine rP 2 11 (.tuple #[.slice (some ⟨qr1, 0, none⟩) 104 cr1, .int .i64 0]) rfl rfl ?_
  refine rP 3 14 (.slice (some ⟨qr1, 0, none⟩) 104 cr1) rfl rfl ?_
  refine rP 4 15 (.int .i64 0) rfl rfl ?_
  refine rP 5 5 (.slice (some ⟨qr1, 0, none⟩) 104 cr1) rfl rfl ?_
  refine rP 6 6 (.int .i64 0) rfl rfl ?_
  refine rEnd 7 rfl (nxt (wp_seq (reg ?_)))
  refine rP 0 16 (.int .i64 0) rfl rfl ?_
  refine rQ 1 17 _ rfl rfl (qboolF (b := ((0 : Int) != (0 : Int))) (bne_eq_false_iff_eq.2 (by decide))) ?_
  refine rEnd 2 rfl (nxt (wp_cond_false (by kernel_rfl) (wp_skip (nxt (wp_seq ?_)))))
  refine dReg ([]) (by kernel_rfl) ?_
  intro W3 ch3 sz2
  have zz3 := ch3.size
  have sS1 : Chg ([]) W3 W3 := (Chg.refl _).more (by simp)
  refine dV 0 20 (.pointer (some ⟨g, 0, none⟩)) rfl rfl (fun _ _ => by kernel_rfl) sS1 ?_
  refine dV 1 21 (.pointer (some ⟨g, 0, none⟩)) rfl rfl (fun _ _ => by kernel_rfl) sS1 ?_
  refine dV 2 22 (.pointer (some ⟨g, 0, none⟩)) rfl rfl (fun _ _ => by kernel_rfl) sS1 ?_
  refine dV 3 23 (.slice A n c) rfl rfl (fun w' hw' => (load1 22 (.tmp 22) rfl (by kernel_rfl) ⟨g, 0, none⟩ (by kernel_rfl) (.slice A n c) ((cell_of_row _ _ 0 _ _ _ (Chg.hp hw' (Chg.hp ch3 (Chg.hp ch2 (Chg.hp ch1 hpS trivial) trivial) trivial) trivial)).trans rfl))) sS1 ?_
  refine dV 4 24 (.agg ((Mur.attC x.k x.r x.n x.t).toArray)) rfl rfl (fun w' hw' => (Mur.loadArr 32 (.tmp 3) rfl _ Tryd.underlying32 rfl w.heap.size (by kernel_rfl) (Mur.attC x.k x.r x.n x.t).toArray 97 (Mur.attC_size x.hk x.hr x.ht) (by kernel_rfl) 32 (0, 0) (Chg.hp hw' (Chg.hp ch3 (Chg.hp ch2 hb1 trivial) trivial) trivial))) sS1 ?_
  refine dOp 5 (by kernel_rfl) ?_
  refine oCall (some 25) 39 [.tmp 23, .tmp 24, .func 40] #[22, 32, 81] [.slice A n c, .agg ((Mur.attC x.k x.r x.n x.t).toArray), .func (.func 40) #[] #[]] rfl rfl (by kernel_rfl) rfl (by kernel_rfl) (by kernel_rfl) ?_
  have ow1 := Mur.OwnA.chg hOw ch1 (fun q e _ _ => trivial)
  have ow2 := Mur.OwnA.chg ow1 ch2 (fun q e _ _ => trivial)
  have ow3 := Mur.OwnA.chg ow2 ch3 (fun q e _ _ => trivial)
  refine (Search_any L hsrt A n c x W3 ow3.sl (by omega)).mono ?_
  by_cases hmem1 : x ∈ L
  ·rw [decide_eq_true hmem1]
   rintro _ W4 ⟨rfl, ch4⟩
   have zz4 := ch4.size
   have sS2 := Chg.step sS1 ch4 trivial
   refine ⟨_, rfl, sS2, ?_⟩
   refine dV 6 19 (.tuple #[.int .i64 ((Mur.pos x L : Nat) : Int), .bool true]) rfl rfl (fun _ _ => by kernel_rfl) sS2 ?_
   refine dV 7 26 (.int .i64 ((Mur.pos x L : Nat) : Int)) rfl rfl (fun _ _ => by kernel_rfl) sS2 ?_
   refine dV 8 27 (.bool true) rfl rfl (fun _ _ => by kernel_rfl) sS2 ?_
   refine dV 9 7 (.int .i64 ((Mur.pos x L : Nat) : Int)) rfl rfl (fun _ _ => by kernel_rfl) sS2 ?_
   refine dV 10 8 (.bool true) rfl rfl (fun _ _ => by kernel_rfl) sS2 ?_
   refine dEnd (by kernel_rfl) (nxt (wp_seq (wp_block (wp_seq (reg ?_)))))
   refine rP 0 29 (.bool true) rfl rfl ?_
   refine rP 1 28 (.bool true) rfl rfl ?_
   refine rEnd 2 rfl (nxt (wp_cond_true (by kernel_rfl) (wp_seq (reg ?_))))
   refine rP 0 4 (.int .i64 7) rfl rfl ?_
   refine rEnd 1 rfl (nxt (wp_ret (inR (thR ?_))))
   rw [Mur.addS_twice hmay1 hmem1]
   have kk5 : Chg [] ((w)) W1 := Chg.step ((Chg.refl _).more (by simp)) ch1 trivial
   have kk6 := Chg.step kk5 ch2 trivial
   have kk7 := Chg.step kk6 ch3 trivial
   have kk8 := Chg.step kk7 ch4 trivial
   have hfin := Mur.SetA.chg hS kk8 (fun _ _ => trivial)
   refine Wk.ret (.int .i64 7) rfl (by kernel_rfl) ?_
   exact ⟨_, rfl, ⟨_, _, _, hfin, rfl⟩, kk8.more (by simp), Mur.newOr_refl _ _⟩
  rw [decide_eq_false hmem1]
  rintro _ W4 ⟨rfl, ch4⟩
  have zz5 := ch4.size
  have sS3 := Chg.step sS1 ch4 trivial
  refine ⟨_, rfl, sS3, ?_⟩
  refine dV 6 19 (.tuple #[.int .i64 ((Mur.pos x L : Nat) : Int), .bool false]) rfl rfl (fun _ _ => by kernel_rfl) sS3 ?_
  refine dV 7 26 (.int .i64 ((Mur.pos x L : Nat) : Int)) rfl rfl (fun _ _ => by kernel_rfl) sS3 ?_
  refine dV 8 27 (.bool false) rfl rfl (fun _ _ => by kernel_rfl) sS3 ?_
  refine dV 9 7 (.int .i64 ((Mur.pos x L : Nat) : Int)) rfl rfl (fun _ _ => by kernel_rfl) sS3 ?_
  refine dV 10 8 (.bool false) rfl rfl (fun _ _ => by kernel_rfl) sS3 ?_
  refine dEnd (by kernel_rfl) (nxt (wp_seq (wp_block (wp_seq (reg ?_)))))
  refine rP 0 29 (.bool false) rfl rfl ?_
  refine rP 1 28 (.bool false) rfl rfl ?_
  refine rEnd 2 rfl (nxt (wp_cond_false (by kernel_rfl) (wp_seq (reg ?_))))
  refine rP 0 31 (.int .i64 ((Mur.pos x L : Nat) : Int)) rfl rfl ?_
  by_cases hx1 : ((Mur.pos x L : Nat) : Int) = (200 : Int)
  ·refine rQ 1 32 _ rfl rfl (qboolT (b := (((Mur.pos x L : Nat) : Int) == (200 : Int))) (beq_iff_eq.2 (by first | exact hx1 | omega))) ?_
   refine rP 2 30 (.bool true) rfl rfl ?_
   refine rEnd 3 rfl (nxt (wp_cond_true (by kernel_rfl) (wp_seq (reg ?_))))
   refine rP 0 4 (.int .i64 8) rfl rfl ?_
   refine rEnd 1 rfl (nxt (wp_ret (inR (thR ?_))))
   rw [Mur.addS_full hmay1 hmem1 (by omega)]
   have kk13 : Chg [] ((w)) W1 := Chg.step ((Chg.refl _).more (by simp)) ch1 trivial
   have kk14 := Chg.step kk13 ch2 trivial
   have kk15 := Chg.step kk14 ch3 trivial
   have kk16 := Chg.step kk15 ch4 trivial
   have hfin := Mur.SetA.chg hS kk16 (fun _ _ => trivial)
   refine Wk.ret (.int .i64 8) rfl (by kernel_rfl) ?_
   exact ⟨_, rfl, ⟨_, _, _, hfin, rfl⟩, kk16.more (by simp), Mur.newOr_refl _ _⟩
  refine rQ 1 32 _ rfl rfl (qboolF (b := (((Mur.pos x L : Nat) : Int) == (200 : Int))) (beq_eq_false_iff_ne.2 (by first | exact hx1 | omega))) ?_
  refine rP 2 30 (.bool false) rfl rfl ?_
  refine rEnd 3 rfl (nxt (wp_cond_false (by kernel_rfl) (wp_skip (inN (nxt (wp_seq ?_))))))
  refine dReg (([g] ++ Wk.blk (.slice A n c))) (by kernel_rfl) ?_
  intro W5 ch5 sz3
  have zz6 := ch5.size
  have sS4 : Chg (([g] ++ Wk.blk (.slice A n c))) W5 W5 := (Chg.refl _).more (by simp)
  refine dV 0 33 (.pointer (some ⟨g, 0, none⟩)) rfl rfl (fun _ _ => by kernel_rfl) sS4 ?_
  refine dV 1 34 (.pointer (some ⟨g, 0, none⟩)) rfl rfl (fun _ _ => by kernel_rfl) sS4 ?_
  refine dV 2 35 (.pointer (some ⟨g, 0, none⟩)) rfl rfl (fun _ _ => by kernel_rfl) sS4 ?_
  refine dV 3 36 (.pointer (some ⟨g, 0, none⟩)) rfl rfl (fun _ _ => by kernel_rfl) sS4 ?_
  refine dV 5 38 (.int .i64 ((Mur.pos x L : Nat) : Int)) rfl rfl (fun _ _ => by kernel_rfl) sS4 ?_
  refine dV 6 39 (.agg ((Mur.attC x.k x.r x.n x.t).toArray)) rfl rfl (fun w' hw' => (Mur.loadArr 32 (.tmp 3) rfl _ Tryd.underlying32 rfl w.heap.size (by kernel_rfl) (Mur.attC x.k x.r x.n x.t).toArray 97 (Mur.attC_size x.hk x.hr x.ht) (by kernel_rfl) 32 (0, 0) (Chg.hp hw' (Chg.hp ch5 (Chg.hp ch4 (Chg.hp ch3 (Chg.hp ch2 hb1 trivial) trivial) trivial) trivial) ⟨by omega, (off_blk (fun gz hgz => by have := hOw2 gz hgz; omega))⟩))) sS4 ?_
  refine dOp2 4 7 (by kernel_rfl) ?_ ?_
  ·refine Wk.oVal (some 37) (.slice A n c) rfl rfl (by kernel_rfl) (load1 22 (.tmp 36) rfl (by kernel_rfl) ⟨g, 0, none⟩ (by kernel_rfl) (.slice A n c) ((cell_of_row _ _ 0 _ _ _ (Chg.hp ch5 (Chg.hp ch4 (Chg.hp ch3 (Chg.hp ch2 (Chg.hp ch1 hpS trivial) trivial) trivial) trivial) trivial)).trans rfl)) ?_
   refine ⟨sS4, ?_⟩
   refine dOp 7 (by kernel_rfl) ?_
   refine oEx (some 40) _ rfl rfl (by kernel_rfl) (Mur.build1 22 32 (.tmp 39) rfl Tryd.underlying22 attI x.k x.r x.t x.n x.hk x.hr x.ht (by kernel_rfl)) ?_
   rintro _ W6 ⟨rfl, hb2, ch6, sz4⟩
   have zz7 := ch6.size
   have sS5 := Chg.step sS4 ch6 trivial
   refine ⟨sS5, ?_⟩
   refine dOp 8 (by kernel_rfl) ?_
   refine oCall (some 41) 41 [.tmp 37, .tmp 38, .tmp 40] #[22, 3, 22] [.slice A n c, .int .i64 ((Mur.pos x L : Nat) : Int), .slice (some ⟨W5.heap.size, 0, none⟩) 1 1] rfl rfl (by kernel_rfl) rfl (by kernel_rfl) (by kernel_rfl) ?_
   have ow4 := Mur.OwnA.chg ow3 ch4 (fun q e _ _ => trivial)
   have ow5 := Mur.OwnA.chg ow4 ch5 (fun q e _ _ => trivial)
   have ow6 := Mur.OwnA.chg ow5 ch6 (fun q e _ _ => trivial)
   refine (Insert_any L lo A n c (Mur.pos x L) x W5.heap.size W6 ow6 (by omega) (by omega) hb2 (fun q_ h_ => by have := hOw.lt q_ h_; omega) (by have := Mur.pos_le x L; omega)).mono ?_
   rintro _ W7 ⟨AA1, nn1, rfl, ow7, ch7, ha1⟩
   replace ow7 : OwnA W7 lo 32 AA1 (n + 1) nn1 (Mur.ins x L) := ow7
   have zz8 := ch7.size
   have hq3 := ow7.nc
   have sS6 := Chg.step sS5 ch7 (Mur.newOr_iff.2 (fun t ht => .inl (List.mem_append_right _ ht)))
   refine ⟨_, rfl, sS6, ?_⟩
   refine dV 9 42 (.pointer (some ⟨g, 0, none⟩)) rfl rfl (fun _ _ => by kernel_rfl) sS6 ?_
   refine dV 10 43 (.pointer (some ⟨g, 0, none⟩)) rfl rfl (fun _ _ => by kernel_rfl) sS6 ?_
   refine dOp 11 (by kernel_rfl) ?_
   refine oExS none _ rfl rfl (by kernel_rfl) (store1 22 (.tmp 43) (.tmp 41) rfl (by kernel_rfl) g 0 (by kernel_rfl) (.slice AA1 (n + 1) nn1) (by kernel_rfl) rfl 57 #[.slice A n c] (Chg.hp ch7 (Chg.hp ch6 (Chg.hp ch5 (Chg.hp ch4 (Chg.hp ch3 (Chg.hp ch2 (Chg.hp ch1 hpS trivial) trivial) trivial) trivial) trivial) trivial) (off_blk (fun gz hgz => by have := hOw2 gz hgz; omega))) (by simp)) ?_
   rintro W8 ⟨hb3, ch8⟩
   replace hb3 : W8.heap[g]? = some (.cells #[.slice AA1 (n + 1) nn1] 57 (0, 0)) := hb3
   have zz9 := ch8.size
   have sS7 := Chg.step sS6 ch8 ⟨.inl (by simp), trivial⟩
   refine ⟨sS7, ?_⟩
   refine dEnd (by kernel_rfl) (nxt (wp_seq ?_))
   refine dReg ([g]) (by kernel_rfl) ?_
   intro W10 ch9 sz5
   have zz10 := ch9.size
   have sS8 : Chg ([g]) W10 W10 := (Chg.refl _).more (by simp)
   refine dV 0 44 (.pointer (some ⟨g, 0, none⟩)) rfl rfl (fun _ _ => by kernel_rfl) sS8 ?_
   refine dV 1 45 (.pointer (some ⟨g, 0, none⟩)) rfl rfl (fun _ _ => by kernel_rfl) sS8 ?_
   refine dV 2 46 (.pointer (some ⟨g, 0, none⟩)) rfl rfl (fun _ _ => by kernel_rfl) sS8 ?_
   refine dV 3 47 (.pointer (some ⟨g, 0, none⟩)) rfl rfl (fun _ _ => by kernel_rfl) sS8 ?_
   refine dV 5 49 (.pointer (some ⟨g, 0, none⟩)) rfl rfl (fun _ _ => by kernel_rfl) sS8 ?_
   refine dV 6 50 (.pointer (some ⟨g, 0, none⟩)) rfl rfl (fun _ _ => by kernel_rfl) sS8 ?_
   refine dV 7 51 (.pointer (some ⟨g, 0, none⟩)) rfl rfl (fun _ _ => by kernel_rfl) sS8 ?_
   refine dOp2 4 8 (by kernel_rfl) ?_ ?_
   ·refine Wk.oVal (some 48) (.slice AA1 (n + 1) nn1) rfl rfl (by kernel_rfl) (load1 22 (.tmp 47) rfl (by kernel_rfl) ⟨g, 0, none⟩ (by kernel_rfl) (.slice AA1 (n + 1) nn1) ((cell_of_row _ _ 0 _ _ _ (Chg.hp ch9 hb3 trivial)).trans rfl)) ?_
    refine ⟨sS8, ?_⟩
    refine dOp 8 (by kernel_rfl) ?_
    refine Wk.oVal (some 52) (.slice AA1 (n + 1) nn1) rfl rfl (by kernel_rfl) (load1 22 (.tmp 51) rfl (by kernel_rfl) ⟨g, 0, none⟩ (by kernel_rfl) (.slice AA1 (n + 1) nn1) ((cell_of_row _ _ 0 _ _ _ (Chg.hp ch9 hb3 trivial)).trans rfl)) ?_
    refine ⟨sS8, ?_⟩
    refine dV 9 53 (.int .i64 ((n + 1 : Nat) : Int)) rfl rfl (fun _ _ => by kernel_rfl) sS8 ?_
    obtain ⟨mz, hmz, hmz2⟩ : ∃ m : Nat, (if (200 : Int) < ((n + 1 : Nat) : Int) then (200 : Int) else ((n + 1 : Nat) : Int)) = ((m : Nat) : Int) ∧ m = min (n + 1) 200 := ⟨min (n + 1) 200, by split <;> omega, rfl⟩
    refine dV 10 54 (.int .i64 ((mz : Nat) : Int)) rfl rfl (fun w' hw' => (Wk.val (congrArg (Value.int .i64) hmz) (by kernel_rfl))) sS8 ?_
    refine dV 11 55 (.slice AA1 mz nn1) rfl rfl (fun w' hw' => (Mur.run_toK 22 (.tmp 48) (.tmp 54) rfl 32 Tryd.underlying22 97 (by kernel_rfl) AA1 (n + 1) nn1 mz (.inr (by obtain ⟨q_, e_, _⟩ := ow7.ex (by omega); exact ⟨q_, 0, e_⟩)) (by kernel_rfl) (by kernel_rfl) (by omega))) sS8 ?_
    refine dV 12 56 (.pointer (some ⟨g, 0, none⟩)) rfl rfl (fun _ _ => by kernel_rfl) sS8 ?_
    refine dV 13 57 (.pointer (some ⟨g, 0, none⟩)) rfl rfl (fun _ _ => by kernel_rfl) sS8 ?_
    refine dOp 14 (by kernel_rfl) ?_
    refine oExS none _ rfl rfl (by kernel_rfl) (store1 22 (.tmp 57) (.tmp 55) rfl (by kernel_rfl) g 0 (by kernel_rfl) (.slice AA1 mz nn1) (by kernel_rfl) rfl 57 #[.slice AA1 (n + 1) nn1] (Chg.hp ch9 hb3 trivial) (by simp)) ?_
    rintro W11 ⟨hb4, ch10⟩
    replace hb4 : W11.heap[g]? = some (.cells #[.slice AA1 mz nn1] 57 (0, 0)) := hb4
    have zz11 := ch10.size
    have sS9 := Chg.step sS8 ch10 ⟨.inl (by simp), trivial⟩
    refine ⟨sS9, ?_⟩
    refine dEnd (by kernel_rfl) (nxt (wp_seq (reg ?_)))
    refine rP 0 4 (.int .i64 0) rfl rfl ?_
    refine rEnd 1 rfl (nxt (wp_ret ?_))
    have kk17 : Chg ([g] ++ Wk.blk (.slice A n c)) (w) W1 := Chg.step ((Chg.refl _).more (by simp)) ch1 trivial
    have kk18 := Chg.step kk17 ch2 trivial
    have kk19 := Chg.step kk18 ch3 trivial
    have kk20 := Chg.step kk19 ch4 trivial
    have kk21 := Chg.step kk20 ch5 trivial
    have kk22 := Chg.step kk21 ch6 trivial
    have kk23 := Chg.step kk22 ch7 (Mur.newOr_iff.2 (fun t ht => .inl (List.mem_append_right _ ht)))
    have kk24 := Chg.step kk23 ch8 ⟨.inl (by simp), trivial⟩
    have kk25 := Chg.step kk24 ch9 trivial
    have kk26 := Chg.step kk25 ch10 ⟨.inl (by simp), trivial⟩
    have ow8 := Mur.OwnA.chg ow7 ch8 (fun q e _ _ => ⟨(ha1 q e).elim (fun h1 => hS.ne q h1) (fun h1 => by omega), trivial⟩)
    have ow9 := Mur.OwnA.chg ow8 ch9 (fun q e _ _ => trivial)
    have ow10 := Mur.OwnA.chg ow9 ch10 (fun q e _ _ => ⟨(ha1 q e).elim (fun h1 => hS.ne q h1) (fun h1 => by omega), trivial⟩)
    have hmay_ := hmay1
    have hadd := Mur.addS_ok hmay1 hmem1 (by omega : Mur.pos x L ≠ 200)
    rw [hadd]
    have hcut := ow10.cut (k := mz) (by omega)
    rw [Mur.ins_take x L hOl hmz2] at hcut
    refine Wk.ret (.int .i64 0) rfl (by kernel_rfl) ?_
    exact ⟨_, rfl, ⟨AA1, mz, nn1, ⟨hb4, hcut, fun q hq => (ha1 q (by rw [Mur.own_cut _ (n + 1) mz nn1 nn1]; exact hq)).elim (fun h1 => hS.ne q h1) (fun h1 => by omega), hS.lo_, (Mur.ins_sorted hsrt hmem1).take 200, by rw [List.length_take]; omega, fun y_ hy_ => (Mur.mem_ins.1 (List.mem_of_mem_take hy_)).elim (fun q_ => by rw [q_]; exact hmay_) (fun q_ => hS.ok y_ q_)⟩, rfl⟩, kk26, Mur.newOr_set (n := n) (c := c) fun q hq => (ha1 q (by rw [Mur.own_cut _ (n + 1) mz nn1 nn1]; exact hq)).elim (fun h1 => .inl h1) (fun h1 => .inr (by omega))⟩
   refine Wk.oVal (some 52) (.slice AA1 (n + 1) nn1) rfl rfl (by kernel_rfl) (load1 22 (.tmp 51) rfl (by kernel_rfl) ⟨g, 0, none⟩ (by kernel_rfl) (.slice AA1 (n + 1) nn1) ((cell_of_row _ _ 0 _ _ _ (Chg.hp ch9 hb3 trivial)).trans rfl)) ?_
   refine ⟨sS8, ?_⟩
   refine dV 9 53 (.int .i64 ((n + 1 : Nat) : Int)) rfl rfl (fun _ _ => by kernel_rfl) sS8 ?_
   obtain ⟨mz, hmz, hmz2⟩ : ∃ m : Nat, (if (200 : Int) < ((n + 1 : Nat) : Int) then (200 : Int) else ((n + 1 : Nat) : Int)) = ((m : Nat) : Int) ∧ m = min (n + 1) 200 := ⟨min (n + 1) 200, by split <;> omega, rfl⟩
   refine dV 10 54 (.int .i64 ((mz : Nat) : Int)) rfl rfl (fun w' hw' => (Wk.val (congrArg (Value.int .i64) hmz) (by kernel_rfl))) sS8 ?_
   refine dOp 4 (by kernel_rfl) ?_
   refine Wk.oVal (some 48) (.slice AA1 (n + 1) nn1) rfl rfl (by kernel_rfl) (load1 22 (.tmp 47) rfl (by kernel_rfl) ⟨g, 0, none⟩ (by kernel_rfl) (.slice AA1 (n + 1) nn1) ((cell_of_row _ _ 0 _ _ _ (Chg.hp ch9 hb3 trivial)).trans rfl)) ?_
   refine ⟨sS8, ?_⟩
   refine dV 11 55 (.slice AA1 mz nn1) rfl rfl (fun w' hw' => (Mur.run_toK 22 (.tmp 48) (.tmp 54) rfl 32 Tryd.underlying22 97 (by kernel_rfl) AA1 (n + 1) nn1 mz (.inr (by obtain ⟨q_, e_, _⟩ := ow7.ex (by omega); exact ⟨q_, 0, e_⟩)) (by kernel_rfl) (by kernel_rfl) (by omega))) sS8 ?_
   refine dV 12 56 (.pointer (some ⟨g, 0, none⟩)) rfl rfl (fun _ _ => by kernel_rfl) sS8 ?_
   refine dV 13 57 (.pointer (some ⟨g, 0, none⟩)) rfl rfl (fun _ _ => by kernel_rfl) sS8 ?_
   refine dOp 14 (by kernel_rfl) ?_
   refine oExS none _ rfl rfl (by kernel_rfl) (store1 22 (.tmp 57) (.tmp 55) rfl (by kernel_rfl) g 0 (by kernel_rfl) (.slice AA1 mz nn1) (by kernel_rfl) rfl 57 #[.slice AA1 (n + 1) nn1] (Chg.hp ch9 hb3 trivial) (by simp)) ?_
   rintro W12 ⟨hb5, ch11⟩
   replace hb5 : W12.heap[g]? = some (.cells #[.slice AA1 mz nn1] 57 (0, 0)) := hb5
   have zz12 := ch11.size
   have sS10 := Chg.step sS8 ch11 ⟨.inl (by simp), trivial⟩
   refine ⟨sS10, ?_⟩
   refine dEnd (by kernel_rfl) (nxt (wp_seq (reg ?_)))
   refine rP 0 4 (.int .i64 0) rfl rfl ?_
   refine rEnd 1 rfl (nxt (wp_ret ?_))
   have kk27 : Chg ([g] ++ Wk.blk (.slice A n c)) (w) W1 := Chg.step ((Chg.refl _).more (by simp)) ch1 trivial
   have kk28 := Chg.step kk27 ch2 trivial
   have kk29 := Chg.step kk28 ch3 trivial
   have kk30 := Chg.step kk29 ch4 trivial
   have kk31 := Chg.step kk30 ch5 trivial
   have kk32 := Chg.step kk31 ch6 trivial
   have kk33 := Chg.step kk32 ch7 (Mur.newOr_iff.2 (fun t ht => .inl (List.mem_append_right _ ht)))
   have kk34 := Chg.step kk33 ch8 ⟨.inl (by simp), trivial⟩
   have kk35 := Chg.step kk34 ch9 trivial
   have kk36 := Chg.step kk35 ch11 ⟨.inl (by simp), trivial⟩
   have ow11 := Mur.OwnA.chg ow7 ch8 (fun q e _ _ => ⟨(ha1 q e).elim (fun h1 => hS.ne q h1) (fun h1 => by omega), trivial⟩)
   have ow12 := Mur.OwnA.chg ow11 ch9 (fun q e _ _ => trivial)
   have ow13 := Mur.OwnA.chg ow12 ch11 (fun q e _ _ => ⟨(ha1 q e).elim (fun h1 => hS.ne q h1) (fun h1 => by omega), trivial⟩)
   have hmay_ := hmay1
   have hadd := Mur.addS_ok hmay1 hmem1 (by omega : Mur.pos x L ≠ 200)
   rw [hadd]
   have hcut := ow13.cut (k := mz) (by omega)
   rw [Mur.ins_take x L hOl hmz2] at hcut
   refine Wk.ret (.int .i64 0) rfl (by kernel_rfl) ?_
   exact ⟨_, rfl, ⟨AA1, mz, nn1, ⟨hb5, hcut, fun q hq => (ha1 q (by rw [Mur.own_cut _ (n + 1) mz nn1 nn1]; exact hq)).elim (fun h1 => hS.ne q h1) (fun h1 => by omega), hS.lo_, (Mur.ins_sorted hsrt hmem1).take 200, by rw [List.length_take]; omega, fun y_ hy_ => (Mur.mem_ins.1 (List.mem_of_mem_take hy_)).elim (fun q_ => by rw [q_]; exact hmay_) (fun q_ => hS.ok y_ q_)⟩, rfl⟩, kk36, Mur.newOr_set (n := n) (c := c) fun q hq => (ha1 q (by rw [Mur.own_cut _ (n + 1) mz nn1 nn1]; exact hq)).elim (fun h1 => .inl h1) (fun h1 => .inr (by omega))⟩
  refine oEx (some 40) _ rfl rfl (by kernel_rfl) (Mur.build1 22 32 (.tmp 39) rfl Tryd.underlying22 attI x.k x.r x.t x.n x.hk x.hr x.ht (by kernel_rfl)) ?_
  rintro _ W13 ⟨rfl, hb6, ch12, sz6⟩
  have zz13 := ch12.size
  have sS11 := Chg.step sS4 ch12 trivial
  refine ⟨sS11, ?_⟩
  refine dOp 4 (by kernel_rfl) ?_
  refine Wk.oVal (some 37) (.slice A n c) rfl rfl (by kernel_rfl) (load1 22 (.tmp 36) rfl (by kernel_rfl) ⟨g, 0, none⟩ (by kernel_rfl) (.slice A n c) ((cell_of_row _ _ 0 _ _ _ (Chg.hp ch12 (Chg.hp ch5 (Chg.hp ch4 (Chg.hp ch3 (Chg.hp ch2 (Chg.hp ch1 hpS trivial) trivial) trivial) trivial) trivial) trivial)).trans rfl)) ?_
  refine ⟨sS11, ?_⟩
  refine dOp 8 (by kernel_rfl) ?_
  refine oCall (some 41) 41 [.tmp 37, .tmp 38, .tmp 40] #[22, 3, 22] [.slice A n c, .int .i64 ((Mur.pos x L : Nat) : Int), .slice (some ⟨W5.heap.size, 0, none⟩) 1 1] rfl rfl (by kernel_rfl) rfl (by kernel_rfl) (by kernel_rfl) ?_
  have ow14 := Mur.OwnA.chg ow3 ch4 (fun q e _ _ => trivial)
  have ow15 := Mur.OwnA.chg ow14 ch5 (fun q e _ _ => trivial)
  have ow16 := Mur.OwnA.chg ow15 ch12 (fun q e _ _ => trivial)
  refine (Insert_any L lo A n c (Mur.pos x L) x W5.heap.size W13 ow16 (by omega) (by omega) hb6 (fun q_ h_ => by have := hOw.lt q_ h_; omega) (by have := Mur.pos_le x L; omega)).mono ?_
  rintro _ W14 ⟨AA2, nn2, rfl, ow17, ch13, ha2⟩
  replace ow17 : OwnA W14 lo 32 AA2 (n + 1) nn2 (Mur.ins x L) := ow17
  have zz14 := ch13.size
  have hq4 := ow17.nc
  have sS12 := Chg.step sS11 ch13 (Mur.newOr_iff.2 (fun t ht => .inl (List.mem_append_right _ ht)))
  refine ⟨_, rfl, sS12, ?_⟩
  refine dV 9 42 (.pointer (some ⟨g, 0, none⟩)) rfl rfl (fun _ _ => by kernel_rfl) sS12 ?_
  refine dV 10 43 (.pointer (some ⟨g, 0, none⟩)) rfl rfl (fun _ _ => by kernel_rfl) sS12 ?_
  refine dOp 11 (by kernel_rfl) ?_
  refine oExS none _ rfl rfl (by kernel_rfl) (store1 22 (.tmp 43) (.tmp 41) rfl (by kernel_rfl) g 0 (by kernel_rfl) (.slice AA2 (n + 1) nn2) (by kernel_rfl) rfl 57 #[.slice A n c] (Chg.hp ch13 (Chg.hp ch12 (Chg.hp ch5 (Chg.hp ch4 (Chg.hp ch3 (Chg.hp ch2 (Chg.hp ch1 hpS trivial) trivial) trivial) trivial) trivial) trivial) (off_blk (fun gz hgz => by have := hOw2 gz hgz; omega))) (by simp)) ?_
  rintro W15 ⟨hb7, ch14⟩
  replace hb7 : W15.heap[g]? = some (.cells #[.slice AA2 (n + 1) nn2] 57 (0, 0)) := hb7
  have zz15 := ch14.size
  have sS13 := Chg.step sS12 ch14 ⟨.inl (by simp), trivial⟩
  refine ⟨sS13, ?_⟩
  refine dEnd (by kernel_rfl) (nxt (wp_seq ?_))
  refine dReg ([g]) (by kernel_rfl) ?_
  intro W16 ch15 sz7
  have zz16 := ch15.size
  have sS14 : Chg ([g]) W16 W16 := (Chg.refl _).more (by simp)
  refine dV 0 44 (.pointer (some ⟨g, 0, none⟩)) rfl rfl (fun _ _ => by kernel_rfl) sS14 ?_
  refine dV 1 45 (.pointer (some ⟨g, 0, none⟩)) rfl rfl (fun _ _ => by kernel_rfl) sS14 ?_
  refine dV 2 46 (.pointer (some ⟨g, 0, none⟩)) rfl rfl (fun _ _ => by kernel_rfl) sS14 ?_
  refine dV 3 47 (.pointer (some ⟨g, 0, none⟩)) rfl rfl (fun _ _ => by kernel_rfl) sS14 ?_
  refine dV 5 49 (.pointer (some ⟨g, 0, none⟩)) rfl rfl (fun _ _ => by kernel_rfl) sS14 ?_
  refine dV 6 50 (.pointer (some ⟨g, 0, none⟩)) rfl rfl (fun _ _ => by kernel_rfl) sS14 ?_
  refine dV 7 51 (.pointer (some ⟨g, 0, none⟩)) rfl rfl (fun _ _ => by kernel_rfl) sS14 ?_
  refine dOp2 4 8 (by kernel_rfl) ?_ ?_
  ·refine Wk.oVal (some 48) (.slice AA2 (n + 1) nn2) rfl rfl (by kernel_rfl) (load1 22 (.tmp 47) rfl (by kernel_rfl) ⟨g, 0, none⟩ (by kernel_rfl) (.slice AA2 (n + 1) nn2) ((cell_of_row _ _ 0 _ _ _ (Chg.hp ch15 hb7 trivial)).trans rfl)) ?_
   refine ⟨sS14, ?_⟩
   refine dOp 8 (by kernel_rfl) ?_
   refine Wk.oVal (some 52) (.slice AA2 (n + 1) nn2) rfl rfl (by kernel_rfl) (load1 22 (.tmp 51) rfl (by kernel_rfl) ⟨g, 0, none⟩ (by kernel_rfl) (.slice AA2 (n + 1) nn2) ((cell_of_row _ _ 0 _ _ _ (Chg.hp ch15 hb7 trivial)).trans rfl)) ?_
   refine ⟨sS14, ?_⟩
   refine dV 9 53 (.int .i64 ((n + 1 : Nat) : Int)) rfl rfl (fun _ _ => by kernel_rfl) sS14 ?_
   obtain ⟨mz, hmz, hmz2⟩ : ∃ m : Nat, (if (200 : Int) < ((n + 1 : Nat) : Int) then (200 : Int) else ((n + 1 : Nat) : Int)) = ((m : Nat) : Int) ∧ m = min (n + 1) 200 := ⟨min (n + 1) 200, by split <;> omega, rfl⟩
   refine dV 10 54 (.int .i64 ((mz : Nat) : Int)) rfl rfl (fun w' hw' => (Wk.val (congrArg (Value.int .i64) hmz) (by kernel_rfl))) sS14 ?_
   refine dV 11 55 (.slice AA2 mz nn2) rfl rfl (fun w' hw' => (Mur.run_toK 22 (.tmp 48) (.tmp 54) rfl 32 Tryd.underlying22 97 (by kernel_rfl) AA2 (n + 1) nn2 mz (.inr (by obtain ⟨q_, e_, _⟩ := ow17.ex (by omega); exact ⟨q_, 0, e_⟩)) (by kernel_rfl) (by kernel_rfl) (by omega))) sS14 ?_
   refine dV 12 56 (.pointer (some ⟨g, 0, none⟩)) rfl rfl (fun _ _ => by kernel_rfl) sS14 ?_
   refine dV 13 57 (.pointer (some ⟨g, 0, none⟩)) rfl rfl (fun _ _ => by kernel_rfl) sS14 ?_
   refine dOp 14 (by kernel_rfl) ?_
   refine oExS none _ rfl rfl (by kernel_rfl) (store1 22 (.tmp 57) (.tmp 55) rfl (by kernel_rfl) g 0 (by kernel_rfl) (.slice AA2 mz nn2) (by kernel_rfl) rfl 57 #[.slice AA2 (n + 1) nn2] (Chg.hp ch15 hb7 trivial) (by simp)) ?_
   rintro W17 ⟨hb8, ch16⟩
   replace hb8 : W17.heap[g]? = some (.cells #[.slice AA2 mz nn2] 57 (0, 0)) := hb8
   have zz17 := ch16.size
   have sS15 := Chg.step sS14 ch16 ⟨.inl (by simp), trivial⟩
   refine ⟨sS15, ?_⟩
   refine dEnd (by kernel_rfl) (nxt (wp_seq (reg ?_)))
   refine rP 0 4 (.int .i64 0) rfl rfl ?_
   refine rEnd 1 rfl (nxt (wp_ret ?_))
   have kk37 : Chg ([g] ++ Wk.blk (.slice A n c)) (w) W1 := Chg.step ((Chg.refl _).more (by simp)) ch1 trivial
   have kk38 := Chg.step kk37 ch2 trivial
   have kk39 := Chg.step kk38 ch3 trivial
   have kk40 := Chg.step kk39 ch4 trivial
   have kk41 := Chg.step kk40 ch5 trivial
   have kk42 := Chg.step kk41 ch12 trivial
   have kk43 := Chg.step kk42 ch13 (Mur.newOr_iff.2 (fun t ht => .inl (List.mem_append_right _ ht)))
   have kk44 := Chg.step kk43 ch14 ⟨.inl (by simp), trivial⟩
   have kk45 := Chg.step kk44 ch15 trivial
   have kk46 := Chg.step kk45 ch16 ⟨.inl (by simp), trivial⟩
   have ow18 := Mur.OwnA.chg ow17 ch14 (fun q e _ _ => ⟨(ha2 q e).elim (fun h1 => hS.ne q h1) (fun h1 => by omega), trivial⟩)
   have ow19 := Mur.OwnA.chg ow18 ch15 (fun q e _ _ => trivial)
   have ow20 := Mur.OwnA.chg ow19 ch16 (fun q e _ _ => ⟨(ha2 q e).elim (fun h1 => hS.ne q h1) (fun h1 => by omega), trivial⟩)
   have hmay_ := hmay1
   have hadd := Mur.addS_ok hmay1 hmem1 (by omega : Mur.pos x L ≠ 200)
   rw [hadd]
   have hcut := ow20.cut (k := mz) (by omega)
   rw [Mur.ins_take x L hOl hmz2] at hcut
   refine Wk.ret (.int .i64 0) rfl (by kernel_rfl) ?_
   exact ⟨_, rfl, ⟨AA2, mz, nn2, ⟨hb8, hcut, fun q hq => (ha2 q (by rw [Mur.own_cut _ (n + 1) mz nn2 nn2]; exact hq)).elim (fun h1 => hS.ne q h1) (fun h1 => by omega), hS.lo_, (Mur.ins_sorted hsrt hmem1).take 200, by rw [List.length_take]; omega, fun y_ hy_ => (Mur.mem_ins.1 (List.mem_of_mem_take hy_)).elim (fun q_ => by rw [q_]; exact hmay_) (fun q_ => hS.ok y_ q_)⟩, rfl⟩, kk46, Mur.newOr_set (n := n) (c := c) fun q hq => (ha2 q (by rw [Mur.own_cut _ (n + 1) mz nn2 nn2]; exact hq)).elim (fun h1 => .inl h1) (fun h1 => .inr (by omega))⟩
  refine Wk.oVal (some 52) (.slice AA2 (n + 1) nn2) rfl rfl (by kernel_rfl) (load1 22 (.tmp 51) rfl (by kernel_rfl) ⟨g, 0, none⟩ (by kernel_rfl) (.slice AA2 (n + 1) nn2) ((cell_of_row _ _ 0 _ _ _ (Chg.hp ch15 hb7 trivial)).trans rfl)) ?_
  refine ⟨sS14, ?_⟩
  refine dV 9 53 (.int .i64 ((n + 1 : Nat) : Int)) rfl rfl (fun _ _ => by kernel_rfl) sS14 ?_
  obtain ⟨mz, hmz, hmz2⟩ : ∃ m : Nat, (if (200 : Int) < ((n + 1 : Nat) : Int) then (200 : Int) else ((n + 1 : Nat) : Int)) = ((m : Nat) : Int) ∧ m = min (n + 1) 200 := ⟨min (n + 1) 200, by split <;> omega, rfl⟩
  refine dV 10 54 (.int .i64 ((mz : Nat) : Int)) rfl rfl (fun w' hw' => (Wk.val (congrArg (Value.int .i64) hmz) (by kernel_rfl))) sS14 ?_
  refine dOp 4 (by kernel_rfl) ?_
  refine Wk.oVal (some 48) (.slice AA2 (n + 1) nn2) rfl rfl (by kernel_rfl) (load1 22 (.tmp 47) rfl (by kernel_rfl) ⟨g, 0, none⟩ (by kernel_rfl) (.slice AA2 (n + 1) nn2) ((cell_of_row _ _ 0 _ _ _ (Chg.hp ch15 hb7 trivial)).trans rfl)) ?_
  refine ⟨sS14, ?_⟩
  refine dV 11 55 (.slice AA2 mz nn2) rfl rfl (fun w' hw' => (Mur.run_toK 22 (.tmp 48) (.tmp 54) rfl 32 Tryd.underlying22 97 (by kernel_rfl) AA2 (n + 1) nn2 mz (.inr (by obtain ⟨q_, e_, _⟩ := ow17.ex (by omega); exact ⟨q_, 0, e_⟩)) (by kernel_rfl) (by kernel_rfl) (by omega))) sS14 ?_
  refine dV 12 56 (.pointer (some ⟨g, 0, none⟩)) rfl rfl (fun _ _ => by kernel_rfl) sS14 ?_
  refine dV 13 57 (.pointer (some ⟨g, 0, none⟩)) rfl rfl (fun _ _ => by kernel_rfl) sS14 ?_
  refine dOp 14 (by kernel_rfl) ?_
  refine oExS none _ rfl rfl (by kernel_rfl) (store1 22 (.tmp 57) (.tmp 55) rfl (by kernel_rfl) g 0 (by kernel_rfl) (.slice AA2 mz nn2) (by kernel_rfl) rfl 57 #[.slice AA2 (n + 1) nn2] (Chg.hp ch15 hb7 trivial) (by simp)) ?_
  rintro W18 ⟨hb9, ch17⟩
  replace hb9 : W18.heap[g]? = some (.cells #[.slice AA2 mz nn2] 57 (0, 0)) := hb9
  have zz18 := ch17.size
  have sS16 := Chg.step sS14 ch17 ⟨.inl (by simp), trivial⟩
  refine ⟨sS16, ?_⟩
  refine dEnd (by kernel_rfl) (nxt (wp_seq (reg ?_)))
  refine rP 0 4 (.int .i64 0) rfl rfl ?_
  refine rEnd 1 rfl (nxt (wp_ret ?_))
  have kk47 : Chg ([g] ++ Wk.blk (.slice A n c)) (w) W1 := Chg.step ((Chg.refl _).more (by simp)) ch1 trivial
  have kk48 := Chg.step kk47 ch2 trivial
  have kk49 := Chg.step kk48 ch3 trivial
  have kk50 := Chg.step kk49 ch4 trivial
  have kk51 := Chg.step kk50 ch5 trivial
  have kk52 := Chg.step kk51 ch12 trivial
  have kk53 := Chg.step kk52 ch13 (Mur.newOr_iff.2 (fun t ht => .inl (List.mem_append_right _ ht)))
  have kk54 := Chg.step kk53 ch14 ⟨.inl (by simp), trivial⟩
  have kk55 := Chg.step kk54 ch15 trivial
  have kk56 := Chg.step kk55 ch17 ⟨.inl (by simp), trivial⟩
  have ow21 := Mur.OwnA.chg ow17 ch14 (fun q e _ _ => ⟨(ha2 q e).elim (fun h1 => hS.ne q h1) (fun h1 => by omega), trivial⟩)
  have ow22 := Mur.OwnA.chg ow21 ch15 (fun q e _ _ => trivial)
  have ow23 := Mur.OwnA.chg ow22 ch17 (fun q e _ _ => ⟨(ha2 q e).elim (fun h1 => hS.ne q h1) (fun h1 => by omega), trivial⟩)
  have hmay_ := hmay1
  have hadd := Mur.addS_ok hmay1 hmem1 (by omega : Mur.pos x L ≠ 200)
  rw [hadd]
  have hcut := ow23.cut (k := mz) (by omega)
  rw [Mur.ins_take x L hOl hmz2] at hcut
  refine Wk.ret (.int .i64 0) rfl (by kernel_rfl) ?_
  exact ⟨_, rfl, ⟨AA2, mz, nn2, ⟨hb9, hcut, fun q hq => (ha2 q (by rw [Mur.own_cut _ (n + 1) mz nn2 nn2]; exact hq)).elim (fun h1 => hS.ne q h1) (fun h1 => by omega), hS.lo_, (Mur.ins_sorted hsrt hmem1).take 200, by rw [List.length_take]; omega, fun y_ hy_ => (Mur.mem_ins.1 (List.mem_of_mem_take hy_)).elim (fun q_ => by rw [q_]; exact hmay_) (fun q_ => hS.ok y_ q_)⟩, rfl⟩, kk56, Mur.newOr_set (n := n) (c := c) fun q hq => (ha2 q (by rw [Mur.own_cut _ (n + 1) mz nn2 nn2]; exact hq)).elim (fun h1 => .inl h1) (fun h1 => .inr (by omega))⟩
 have hmay1u : ¬ (1 ≤ x.n ∧ x.n ≤ 5000) := hmay1
 refine (Bytes_no x.k x.r x.t x.n x.hk x.hr x.ht W1 hmay1).mono ?_
 rintro _ W19 ⟨rfl, ch18⟩
 have zz19 := ch18.size
 refine ⟨_, rfl, ?_⟩
 refine rP 2 11 (.tuple #[.slice none 0 0, .int .i64 2]) rfl rfl ?_
 refine rP 3 14 (.slice none 0 0) rfl rfl ?_
 refine rP 4 15 (.int .i64 2) rfl rfl ?_
 refine rP 5 5 (.slice none 0 0) rfl rfl ?_
 refine rP 6 6 (.int .i64 2) rfl rfl ?_
 refine rEnd 7 rfl (nxt (wp_seq (reg ?_)))
 refine rP 0 16 (.int .i64 2) rfl rfl ?_
 refine rQ 1 17 _ rfl rfl (qboolT (b := ((2 : Int) != (0 : Int))) (bne_iff_ne.2 (by decide))) ?_
 refine rEnd 2 rfl (nxt (wp_cond_true (by kernel_rfl) (wp_seq (reg ?_))))
 refine rP 0 18 (.int .i64 2) rfl rfl ?_
 refine rP 1 4 (.int .i64 2) rfl rfl ?_
 refine rEnd 2 rfl (nxt (wp_ret (thR ?_)))
 rw [Mur.addS_may hmay1]
 have kk59 : Chg [] ((w)) W1 := Chg.step ((Chg.refl _).more (by simp)) ch1 trivial
 have kk60 := Chg.step kk59 ch18 trivial
 have hfin := Mur.SetA.chg hS kk60 (fun _ _ => trivial)
 refine Wk.ret (.int .i64 2) rfl (by kernel_rfl) ?_
 exact ⟨_, rfl, ⟨_, _, _, hfin, rfl⟩, kk60.more (by simp), Mur.newOr_refl _ _⟩
end Go.Proofs.YtfhneademopciaaDoor
namespace Go.Proofs.YtfhneademopciaaDoor
open Go.RowKit Wk
open Mur (b8s Byt Own8 Seg Segs flat cutA attC Att SlA OwnA rowA)
set_option maxRecDepth 100000
set_option maxHeartbeats 4000000
def Iter_F1 (b : Array Value) (u0 : Value) (u2 : Value) (u18 : Value) (u19 : Value) (u20 : Value) : Act := ⟨#[u0, gd b 1, u2, gd b 3, gd b 4, gd b 5, gd b 6, gd b 7, gd b 8, gd b 9, gd b 10, gd b 11, gd b 12, gd b 13, gd b 14, gd b 15, gd b 16, gd b 17, u18, u19, u20, gd b 21, gd b 22, gd b 23, gd b 24, gd b 25, gd b 26, gd b 27, gd b 28, gd b 29, gd b 30, gd b 31, gd b 32, gd b 33, gd b 34, gd b 35, gd b 36, gd b 37, gd b 38, gd b 39, gd b 40, gd b 41, gd b 42], []⟩
def Iter_F2 (b : Array Value) (u0 : Value) (u2 : Value) (u5 : Value) (u18 : Value) (u19 : Value) (u20 : Value) (u24 : Value) (u25 : Value) (u26 : Value) : Act := ⟨#[u0, gd b 1, u2, gd b 3, gd b 4, u5, gd b 6, gd b 7, gd b 8, gd b 9, gd b 10, gd b 11, gd b 12, gd b 13, gd b 14, gd b 15, gd b 16, gd b 17, u18, u19, u20, gd b 21, gd b 22, gd b 23, u24, u25, u26, gd b 27, gd b 28, gd b 29, gd b 30, gd b 31, gd b 32, gd b 33, gd b 34, gd b 35, gd b 36, gd b 37, gd b 38, gd b 39, gd b 40, gd b 41, gd b 42], []⟩
theorem below_any (g : Nat) (A : Option Addr) (n c : Nat) (w : World) : Calls Tryd.prog 42 #[.pointer (some ⟨g, 0, none⟩), .slice A n c] w fun e w' => ∃ b1 b2, e = .returned (.func (.func 64) #[] #[.pointer (some ⟨b1, 0, none⟩), .pointer (some ⟨b2, 0, none⟩)]) ∧ w'.heap[b1]? = some (.cells #[.pointer (some ⟨g, 0, none⟩)] 24 (0, 0)) ∧ w'.heap[b2]? = some (.cells #[.slice A n c] 38 (0, 0)) ∧ (w.heap.size ≤ b1 ∧ b1 < w'.heap.size) ∧ (w.heap.size ≤ b2 ∧ b2 < w'.heap.size) ∧ b1 ≠ b2 ∧ Chg [] w w' := by
 refine calls_of_wp Tryd.func42 rfl ?_
 refine wp_seq (reg ?_)
 refine rX 0 2 rfl rfl (new_ex (.pointer (some ⟨w.heap.size, 0, none⟩)) #[.pointer (some ⟨g, 0, none⟩)] 24 (by kernel_rfl)) ?_
 rintro _ W1 ⟨rfl, hb1, ch1, sz1⟩
 have zz1 := ch1.size
 refine rX 1 3 rfl rfl (new_ex (.pointer (some ⟨W1.heap.size, 0, none⟩)) #[.slice A n c] 38 (by kernel_rfl)) ?_
 rintro _ W2 ⟨rfl, hb2, ch2, sz2⟩
 have zz2 := ch2.size
 refine rP 2 4 (.nilFunc) rfl rfl ?_
 refine rEnd 3 rfl (nxt (wp_seq (reg ?_)))
 refine rP 0 5 (.func (.func 64) #[] #[.pointer (some ⟨w.heap.size, 0, none⟩), .pointer (some ⟨W1.heap.size, 0, none⟩)]) rfl rfl ?_
 refine rP 1 4 (.func (.func 64) #[] #[.pointer (some ⟨w.heap.size, 0, none⟩), .pointer (some ⟨W1.heap.size, 0, none⟩)]) rfl rfl ?_
 refine rEnd 2 rfl (nxt (wp_ret ?_))
 have kk1 : Chg [] w W1 := Chg.step ((Chg.refl _).more (by simp)) ch1 trivial
 have kk2 := Chg.step kk1 ch2 trivial
 refine Wk.ret (.func (.func 64) #[] #[.pointer (some ⟨w.heap.size, 0, none⟩), .pointer (some ⟨W1.heap.size, 0, none⟩)]) rfl (by kernel_rfl) ?_
 exact ⟨_, _, rfl, (Chg.hp ch2 hb1 trivial), hb2, ⟨by omega, by omega⟩, ⟨by omega, by omega⟩, by omega, kk2⟩
theorem below_seq (lo : Nat) (L : List Att) (g : Nat) (F : List Nat) (p : List UInt8) (A : Option Addr) (n c : Nat) (b1 b2 : Nat) (w : World) (h : Mur.SetF 32 57 lo w g L F) (hb : Byt w A n p) (hn : n ≤ 9223372036854775807) (hX1 : w.heap[b1]? = some (.cells #[.pointer (some ⟨g, 0, none⟩)] 24 (0, 0))) (hX2 : w.heap[b2]? = some (.cells #[.slice A n c] 38 (0, 0))) : Wk.Seq Tryd.prog 64 #[.pointer (some ⟨b1, 0, none⟩), .pointer (some ⟨b2, 0, none⟩)] Mur.encA (Mur.belowL p L) (b1 :: b2 :: (F ++ Mur.pblk A n)) w := by
 have hFlt0 := Mur.SetF.mem h
 refine ⟨fun k_ hk_ => ?_, fun l J W hW hJ0 hY hJ => ?_⟩
 ·simp only [List.mem_cons, List.mem_append] at hk_
  rcases hk_ with rfl | rfl | hk_ | hk_
  ·exact (Array.getElem?_eq_some_iff.1 hX1).1
  ·exact (Array.getElem?_eq_some_iff.1 hX2).1
  ·exact (hFlt0 _ hk_).2
  exact Mur.pblk_lt hb _ hk_
 replace h := Mur.SetF.keep h (hW.less (fun k_ hk_ => by simp [hk_]))
 have hbt := Mur.byt_keep hb hW (fun s_ hs_ => by simp [hs_])
 replace hX1 := hW.hp hX1 (by simp)
 replace hX2 := hW.hp hX2 (by simp)
 have hFlt : ∀ k_, k_ ∈ (b1 :: b2 :: (F ++ Mur.pblk A n)) → k_ < W.heap.size := fun k_ hk_ => by
  simp only [List.mem_cons, List.mem_append] at hk_
  rcases hk_ with rfl | rfl | hk_ | hk_
  ·exact (Array.getElem?_eq_some_iff.1 hX1).1
  ·exact (Array.getElem?_eq_some_iff.1 hX2).1
  ·exact (Mur.SetF.mem h _ hk_).2
  ·exact Mur.pblk_lt hbt _ hk_
 clear hb hFlt0
 obtain ⟨A1, n1, c1, hS, hFe⟩ := h
 have hpS := hS.hp
 have hn1 := hS.own.sl.len
 have hgl := (Array.getElem?_eq_some_iff.1 hpS).1
 have hl8 := hS.len
 show Calls Tryd.prog 64 #[.func (.yield l) #[] #[], .pointer (some ⟨b1, 0, none⟩), .pointer (some ⟨b2, 0, none⟩)] W _
 refine calls_of_wp Tryd.func64 rfl ?_
 refine wp_scope_straight ?_
 refine wp_seq (wp_seq (reg ?_))
 refine rQ 0 8 _ rfl rfl (load1 24 (.tmp 1) rfl (by kernel_rfl) ⟨b1, 0, none⟩ (by kernel_rfl) (.pointer (some ⟨g, 0, none⟩)) ((cell_of_row _ _ 0 _ _ _ hX1).trans rfl)) ?_
 refine rP 1 9 (.bool false) rfl rfl ?_
 refine rP 2 10 (.bool false) rfl rfl ?_
 refine rQ 3 11 _ rfl rfl (load1 38 (.tmp 2) rfl (by kernel_rfl) ⟨b2, 0, none⟩ (by kernel_rfl) (.slice A n c) ((cell_of_row _ _ 0 _ _ _ hX2).trans rfl)) ?_
 refine rC 4 12 19 [.tmp 11] #[38] [.slice A n c] rfl rfl rfl ?_
 refine (IsPrefix_any p A n c W hbt (by omega)).mono ?_
 cases hpre1 : Mur.isPre p
 ·rintro _ _ ⟨rfl, rfl⟩
  refine ⟨_, rfl, ?_⟩
  refine rP 5 13 (.bool true) rfl rfl ?_
  refine rP 6 14 (.bool true) rfl rfl ?_
  refine rEnd 7 rfl (nxt (wp_cond_true (by kernel_rfl) (wp_ret (thR ?_))))
  refine Wk.ngR ?_
  refine Wk.ret (.tuple #[]) rfl (by kernel_rfl) ?_
  exact ⟨⟨_, rfl⟩, by rw [Mur.belowL_no hpre1]; exact hJ⟩
 rintro _ _ ⟨rfl, rfl⟩
 refine ⟨_, rfl, ?_⟩
 refine rP 5 13 (.bool false) rfl rfl ?_
 refine rP 6 14 (.bool false) rfl rfl ?_
 refine rEnd 7 rfl (nxt (wp_cond_false (by kernel_rfl) (wp_skip (nxt (wp_seq (wp_label (nxt (wp_seq (reg ?_)))))))))
 have hpre1 := hpre1
 have hp8 := Mur.pre_len hpre1
 have hpl := hbt.1
 refine rQ 0 15 _ rfl rfl (load1 24 (.tmp 1) rfl (by kernel_rfl) ⟨b1, 0, none⟩ (by kernel_rfl) (.pointer (some ⟨g, 0, none⟩)) ((cell_of_row _ _ 0 _ _ _ hX1).trans rfl)) ?_
 refine rP 1 16 (.pointer (some ⟨g, 0, none⟩)) rfl rfl ?_
 refine rP 2 17 (.pointer (some ⟨g, 0, none⟩)) rfl rfl ?_
 refine rQ 3 18 _ rfl rfl (load1 22 (.tmp 17) rfl (by kernel_rfl) ⟨g, 0, none⟩ (by kernel_rfl) (.slice A1 n1 c1) ((cell_of_row _ _ 0 _ _ _ hpS).trans rfl)) ?_
 refine rP 4 19 (.int .i64 ((n1 : Nat) : Int)) rfl rfl ?_
 refine rP 5 20 (.int .i64 0) rfl rfl ?_
 refine rEnd 6 rfl (nxt (wp_block ?_))
 refine Wk.loop (fun m_ a wr => ∃ (k : Nat), m_ = n1 - k ∧ a = Iter_F1 a.tmps (.func (.yield l) #[] #[]) (.pointer (some ⟨b2, 0, none⟩)) (.slice A1 n1 c1) (.int .i64 ((n1 : Nat) : Int)) (.int .i64 ((k : Nat) : Int)) ∧ k ≤ n1 ∧ J ((L.take k).filter (fun z => Mur.under p z.k)) wr ∧ Wk.Keep (b1 :: b2 :: (F ++ Mur.pblk A n)) W wr ∧ W.heap.size ≤ wr.heap.size) (n1 - 0) ?_ ?_
 ·refine ⟨0, rfl, by kernel_rfl, Nat.zero_le _, hJ, Wk.Keep.refl _ _, Nat.le_refl _⟩
 rintro mm1 aa1 W1 ⟨k, hmm1, hF1, hk, hJk, hK, hsW⟩
 generalize aa1.tmps = bb1 at hF1
 subst hF1
 have hmb1 := hK.hp hX1 (by simp)
 have hmb2 := hK.hp hX2 (by simp)
 have hmb3 := Mur.byt_keep hbt hK (fun s_ hs_ => by simp [hs_])
 have hmb4 := (Mur.SetA.keep hS hK (fun s_ hs_ => by simp only [List.mem_cons, List.mem_append]; exact .inr (.inr (.inl (by rw [hFe]; exact hs_))))).own.sl
 have hzO := hK.size
 by_cases hlt : k < n1
 ·obtain ⟨g1, off1, hA1, _⟩ := hS.own.sl.ex (by omega)
  subst hA1
  obtain ⟨x, hx⟩ : ∃ x, L[k]? = some x := ⟨_, List.getElem?_eq_getElem (by omega)⟩
  refine wp_seq (reg ?_)
  refine rQ 0 21 _ rfl rfl (qboolT (b := decide (((k : Nat) : Int) < ((n1 : Nat) : Int))) (decide_eq_true (by omega))) ?_
  refine rEnd 1 rfl (nxt (wp_seq (wp_cond_true (by kernel_rfl) (wp_skip (nxt (wp_seq (wp_block (wp_seq (reg ?_)))))))))
  refine rQ 0 22 (.pointer (some ⟨g1, off1 + k * 97, none⟩)) rfl rfl (index_sl 22 32 (.tmp 18) (.tmp 20) rfl Tryd.underlying22 97 (by kernel_rfl) g1 off1 n1 c1 k .i64 (by kernel_rfl) (by kernel_rfl) (by omega)) ?_
  refine rQ 1 23 (.agg ((Mur.attC x.k x.r x.n x.t).toArray)) rfl rfl (loadR 32 (.tmp 22) rfl _ Tryd.underlying32 rfl g1 (off1 + k * 97) (by kernel_rfl) (Mur.attC x.k x.r x.n x.t) (by rw [Mur.attC_length x.hk x.hr x.ht]; kernel_rfl) (hmb4.elem hx)) ?_
  refine rX 2 5 rfl rfl (new_ex (.pointer (some ⟨W1.heap.size, 0, none⟩)) #[.int .u8 0, .int .u8 0, .int .u8 0, .int .u8 0, .int .u8 0, .int .u8 0, .int .u8 0, .int .u8 0, .int .u8 0, .int .u8 0, .int .u8 0, .int .u8 0, .int .u8 0, .int .u8 0, .int .u8 0, .int .u8 0, .int .u8 0, .int .u8 0, .int .u8 0, .int .u8 0, .int .u8 0, .int .u8 0, .int .u8 0, .int .u8 0, .int .u8 0, .int .u8 0, .int .u8 0, .int .u8 0, .int .u8 0, .int .u8 0, .int .u8 0, .int .u8 0, .int .u8 0, .int .u8 0, .int .u8 0, .int .u8 0, .int .u8 0, .int .u8 0, .int .u8 0, .int .u8 0, .int .u8 0, .int .u8 0, .int .u8 0, .int .u8 0, .int .u8 0, .int .u8 0, .int .u8 0, .int .u8 0, .int .u8 0, .int .u8 0, .int .u8 0, .int .u8 0, .int .u8 0, .int .u8 0, .int .u8 0, .int .u8 0, .int .u8 0, .int .u8 0, .int .u8 0, .int .u8 0, .int .u8 0, .int .u8 0, .int .u8 0, .int .u8 0, .int .i64 0, .int .u8 0, .int .u8 0, .int .u8 0, .int .u8 0, .int .u8 0, .int .u8 0, .int .u8 0, .int .u8 0, .int .u8 0, .int .u8 0, .int .u8 0, .int .u8 0, .int .u8 0, .int .u8 0, .int .u8 0, .int .u8 0, .int .u8 0, .int .u8 0, .int .u8 0, .int .u8 0, .int .u8 0, .int .u8 0, .int .u8 0, .int .u8 0, .int .u8 0, .int .u8 0, .int .u8 0, .int .u8 0, .int .u8 0, .int .u8 0, .int .u8 0, .int .u8 0] 32 (by kernel_rfl)) ?_
  rintro _ W2 ⟨rfl, hb1, ch1, sz1⟩
  have zz1 := ch1.size
  rw [← Mur.attC_zero] at hb1
  refine rY 3 rfl rfl (Mur.storeArr 32 (.tmp 5) (.tmp 23) rfl W1.heap.size (by kernel_rfl) (Mur.attC x.k x.r x.n x.t).toArray 97 (Mur.attC_size x.hk x.hr x.ht) Mur.attC_all (by kernel_rfl) (by kernel_rfl) 32 ((Mur.attC Mur.z32 Mur.z32 0 Mur.z32).toArray) hb1 (Mur.attC_size rfl rfl rfl)) ?_
  rintro W3 ⟨hb2, ch2⟩
  have zz2 := ch2.size
  refine rEnd 4 rfl (nxt (wp_seq (wp_seq (reg ?_))))
  have kk1 : Chg [] W1 W2 := Chg.step ((Chg.refl _).more (by simp)) ch1 trivial
  have kk2 := Chg.step kk1 ch2 ⟨.inr (by omega), trivial⟩
  refine rQ 0 24 _ rfl rfl (load1 38 (.tmp 2) rfl (by kernel_rfl) ⟨b2, 0, none⟩ (by kernel_rfl) (.slice A n c) ((cell_of_row _ _ 0 _ _ _ (Chg.hp kk2 hmb2 trivial)).trans rfl)) ?_
  refine rP 1 25 (.int .i64 ((n : Nat) : Int)) rfl rfl ?_
  refine rP 2 26 (.int .i64 0) rfl rfl ?_
  refine rEnd 3 rfl (nxt (wp_block ?_))
  refine Wk.loop (fun m_ a wr => ∃ (j : Nat), m_ = n - j ∧ a = Iter_F2 a.tmps (.func (.yield l) #[] #[]) (.pointer (some ⟨b2, 0, none⟩)) (.pointer (some ⟨W1.heap.size, 0, none⟩)) (.slice (some ⟨g1, off1, none⟩) n1 c1) (.int .i64 ((n1 : Nat) : Int)) (.int .i64 ((k : Nat) : Int)) (.slice A n c) (.int .i64 ((n : Nat) : Int)) (.int .i64 ((j : Nat) : Int)) ∧ j ≤ n ∧ (∀ i, i < j → Mur.nib x.k i = p.getD i 0) ∧ wr.heap[W1.heap.size]? = some (.cells (Mur.attC x.k x.r x.n x.t).toArray 32 (0, 0)) ∧ Chg [] W1 wr ∧ W1.heap.size < wr.heap.size) (n - 0) ?_ ?_
  ·refine ⟨0, rfl, by kernel_rfl, Nat.zero_le _, (fun i hi => by omega), hb2, kk2, (by omega)⟩
  rintro mm2 aa2 W4 ⟨j, hmm2, hF2, hj, hall, h5, HCi, hz5⟩
  generalize aa2.tmps = bb2 at hF2
  subst hF2
  have hmb5 := hK.hp hX1 (by simp)
  have hmb6 := hK.hp hX2 (by simp)
  have hmb7 := Mur.byt_keep hbt hK (fun s_ hs_ => by simp [hs_])
  have hmb8 := (Mur.SetA.keep hS hK (fun s_ hs_ => by simp only [List.mem_cons, List.mem_append]; exact .inr (.inr (.inl (by rw [hFe]; exact hs_))))).own.sl
  have hzI := HCi.size
  by_cases hlj : j < n
  ·obtain ⟨q2, off2, hA2, _⟩ := hbt.2 (by omega)
   subst hA2
   refine wp_seq (reg ?_)
   refine rQ 0 27 _ rfl rfl (qboolT (b := decide (((j : Nat) : Int) < ((n : Nat) : Int))) (decide_eq_true (by omega))) ?_
   refine rEnd 1 rfl (nxt (wp_seq (wp_cond_true (by kernel_rfl) (wp_skip (nxt (wp_seq (wp_block (wp_seq (reg ?_)))))))))
   refine rP 0 28 (.int .i64 ((j : Nat) : Int)) rfl rfl ?_
   refine rQ 1 29 (.pointer (some ⟨q2, off2 + j * 1, none⟩)) rfl rfl (index_sl 38 5 (.tmp 24) (.tmp 26) rfl Tryd.underlying38 1 (by kernel_rfl) q2 off2 n c j .i64 (by kernel_rfl) (by kernel_rfl) (by omega)) ?_
   refine rQ 2 30 _ rfl rfl (load1 5 (.tmp 29) rfl (by kernel_rfl) ⟨q2, off2 + j * 1, none⟩ (by kernel_rfl) (.int .u8 (((p.getD j 0).toNat : Nat) : Int)) (Mur.byt_cell (Mur.byt_chg hmb7 HCi (fun g off e hl => trivial)) j (by omega))) ?_
   refine rP 3 6 (.int .i64 ((j : Nat) : Int)) rfl rfl ?_
   refine rP 4 7 (.int .u8 (((p.getD j 0).toNat : Nat) : Int)) rfl rfl ?_
   refine rEnd 5 rfl (nxt (wp_seq (reg ?_)))
   refine rP 0 31 (.pointer (some ⟨W1.heap.size, 0, none⟩)) rfl rfl ?_
   refine rQ 1 32 (.agg ((b8s x.k).toArray)) rfl rfl (loadR 30 (.tmp 31) rfl _ Tryd.underlying30 rfl W1.heap.size 0 (by kernel_rfl) (b8s x.k) (by rw [Mur.b8s_length, x.hk]; kernel_rfl) (Mur.att_key h5)) ?_
   refine rP 2 33 (.int .i64 ((j : Nat) : Int)) rfl rfl ?_
   refine rC 3 34 65 [.tmp 32, .tmp 33] #[30, 3] [.agg ((b8s x.k).toArray), .int .i64 ((j : Nat) : Int)] rfl rfl rfl ?_
   refine (half_any x.k j x.hk (by omega) W4).mono ?_
   rintro _ W5 ⟨rfl, ch3⟩
   have zz3 := ch3.size
   refine ⟨_, rfl, ?_⟩
   refine rP 4 35 (.int .u8 (((p.getD j 0).toNat : Nat) : Int)) rfl rfl ?_
   by_cases hx1 : (((Mur.nib x.k j).toNat : Nat) : Int) ≠ (((p.getD j 0).toNat : Nat) : Int)
   ·refine rQ 5 36 _ rfl rfl (qboolT (b := ((((Mur.nib x.k j).toNat : Nat) : Int) != (((p.getD j 0).toNat : Nat) : Int))) (bne_iff_ne.2 (by first | exact hx1 | omega))) ?_
    refine rEnd 6 rfl (nxt (wp_cond_true (by kernel_rfl) (wp_exit (inY (by decide) (thX (thX (inY (by decide) (thX (inX (nxt (reg ?_)))))))))))
    refine rQ 0 42 _ rfl rfl (qint64 (n := ((k : Nat) : Int) + 1) (z := ((k + 1 : Nat) : Int)) (by omega) (by omega) (by omega)) ?_
    refine rP 1 20 (.int .i64 ((k + 1 : Nat) : Int)) rfl rfl ?_
    refine rEnd 2 rfl (nxt ?_)
    have kk3 := Chg.step HCi ch3 trivial
    refine ⟨_, ?_, k + 1, rfl, by kernel_rfl, (by omega), (by rw [Mur.filter_no hx (Mur.under_false (i := j) (by omega) (fun q => hx1 (by rw [q])))]; exact hJ0 _ _ _ hJk kk3), (hK.trans (Wk.Keep.of kk3 (fun k_ hk_ => Nat.lt_of_lt_of_le (hFlt k_ hk_) hK.size) (fun _ _ => trivial))), (by have := kk3.size; omega)⟩
    omega
   refine rQ 5 36 _ rfl rfl (qboolF (b := ((((Mur.nib x.k j).toNat : Nat) : Int) != (((p.getD j 0).toNat : Nat) : Int))) (bne_eq_false_iff_eq.2 (by first | exact hx1 | omega))) ?_
   refine rEnd 6 rfl (nxt (wp_cond_false (by kernel_rfl) (wp_skip (inN (nxt (reg ?_))))))
   refine rQ 0 37 _ rfl rfl (qint64 (n := ((j : Nat) : Int) + 1) (z := ((j + 1 : Nat) : Int)) (by omega) (by omega) (by omega)) ?_
   refine rP 1 26 (.int .i64 ((j + 1 : Nat) : Int)) rfl rfl ?_
   refine rEnd 2 rfl (nxt ?_)
   have kk4 := Chg.step HCi ch3 trivial
   refine ⟨_, ?_, j + 1, rfl, by kernel_rfl, (by omega), (Mur.nib_step hall (Mur.u8_cast_inj (Decidable.not_not.1 hx1))), (Chg.hp ch3 h5 trivial), kk4, (by omega)⟩
   omega
  have hun : Mur.under p x.k = true := Mur.under_all hbt.1 (show n ≤ j by omega) hall
  refine wp_seq (reg ?_)
  refine rQ 0 27 _ rfl rfl (qboolF (b := decide (((j : Nat) : Int) < ((n : Nat) : Int))) (decide_eq_false (by omega))) ?_
  refine rEnd 1 rfl (nxt (wp_seq (wp_cond_false (by kernel_rfl) (wp_exit (thX (thX (inX (nxt (wp_seq (Wk.regW ?_))))))))))
  refine Wk.iPure 0 (some 38) (.func (.yield l) #[] #[]) rfl rfl rfl (by kernel_rfl) (by kernel_rfl) ?_
  refine Wk.iPure 1 (some 39) (.agg ((Mur.attC x.k x.r x.n x.t).toArray)) rfl rfl rfl (by kernel_rfl) (Mur.loadArr 32 (.tmp 5) rfl _ Tryd.underlying32 rfl W1.heap.size (by kernel_rfl) (Mur.attC x.k x.r x.n x.t).toArray 97 (Mur.attC_size x.hk x.hr x.ht) (by kernel_rfl) 32 (0, 0) h5) ?_
  refine Wk.iYield 2 (some 40) (.tmp 38) l [.tmp 39] #[32] [.agg ((Mur.attC x.k x.r x.n x.t).toArray)] rfl rfl (by kernel_rfl) rfl (by kernel_rfl) (by kernel_rfl) (hY _ _ _ _ (by rw [Mur.belowL_ok hpre1]; exact Mur.filter_split hx hun) (hJ0 _ _ _ hJk HCi)) ?_
  rintro _ W9_ ⟨rfl, hJ9, hK9⟩
  refine ⟨_, rfl, ?_⟩
  refine Wk.iPure 3 (some 41) (.bool false) rfl rfl rfl (by kernel_rfl) (by kernel_rfl) ?_
  refine Wk.iEnd 4 rfl (nxt (wp_cond_false (by kernel_rfl) (wp_skip (inN (nxt (reg ?_))))))
  refine rQ 0 42 _ rfl rfl (qint64 (n := ((k : Nat) : Int) + 1) (z := ((k + 1 : Nat) : Int)) (by omega) (by omega) (by omega)) ?_
  refine rP 1 20 (.int .i64 ((k + 1 : Nat) : Int)) rfl rfl ?_
  refine rEnd 2 rfl (nxt ?_)
  refine ⟨_, ?_, k + 1, rfl, by kernel_rfl, (by omega), (by rw [Mur.filter_yes hx hun]; exact hJ9), ((hK.trans (Wk.Keep.of HCi (fun k_ hk_ => Nat.lt_of_lt_of_le (hFlt k_ hk_) hK.size) (fun _ _ => trivial))).trans hK9), (by have := hK.size; have := hK9.size; omega)⟩
  omega
 have hfin : J (Mur.belowL p L) W1 := by rw [Mur.belowL_ok hpre1, ← Mur.filter_all (k := k) (by omega)]; exact hJk
 refine wp_seq (reg ?_)
 refine rQ 0 21 _ rfl rfl (qboolF (b := decide (((k : Nat) : Int) < ((n1 : Nat) : Int))) (decide_eq_false (by omega))) ?_
 refine rEnd 1 rfl (nxt (wp_seq (wp_cond_false (by kernel_rfl) (wp_exit (thX (thX (inX ?_)))))))
 refine Wk.ngN ?_
 refine Wk.retN (.tuple #[]) rfl (by kernel_rfl) ?_
 exact ⟨⟨_, rfl⟩, hfin⟩
end Go.Proofs.YtfhneademopciaaDoor
namespace Go.Proofs.YtfhneademopciaaDoor
open Go.RowKit Wk
open Mur (b8s Byt Own8 Seg Segs flat cutA attC Att SlA OwnA rowA)
set_option maxRecDepth 100000
set_option maxHeartbeats 4000000
theorem AppendSeq_any (b1 b2 : Nat) (xs : List Att) (F : List Nat) (w : World) (hseq : Wk.Seq Tryd.prog 64 #[.pointer (some ⟨b1, 0, none⟩), .pointer (some ⟨b2, 0, none⟩)] Mur.encA xs F w) (hlen : xs.length ≤ 200) : Calls Tryd.prog 67 #[.slice none 0 0, .func (.func 64) #[] #[.pointer (some ⟨b1, 0, none⟩), .pointer (some ⟨b2, 0, none⟩)]] w fun e w' => ∃ A n c, e = .returned (.slice A n c) ∧ OwnA w' w.heap.size 32 A n c xs ∧ Chg [] w w' := by
 refine Wk.calls_of_wpM Tryd.func67 rfl ?_
 refine Wk.noP ?_
 refine wp_seq (reg ?_)
 refine rX 0 2 rfl rfl (new_ex (.pointer (some ⟨w.heap.size, 0, none⟩)) #[.slice none 0 0] 22 (by kernel_rfl)) ?_
 rintro _ W1 ⟨rfl, hb1, ch1, sz1⟩
 have zz1 := ch1.size
 refine rP 1 4 (.slice none 0 0) rfl rfl ?_
 refine rEnd 2 rfl (nxt (wp_seq (wp_seq (reg ?_))))
 refine rP 0 6 (.func (.func 64) #[] #[.pointer (some ⟨b1, 0, none⟩), .pointer (some ⟨b2, 0, none⟩)]) rfl rfl ?_
 refine rEnd 1 rfl (nxt (wp_block ?_))
 have kk1 : Chg [] w W1 := Chg.step ((Chg.refl _).more (by simp)) ch1 trivial
 have hFw := (Wk.Seq.chg hseq kk1 (fun _ _ => trivial)).1
 have hFb_ : ∀ k_, k_ ∈ F → k_ ≠ w.heap.size := fun k_ hk_ => by have := hseq.1 k_ hk_; omega
 refine Wk.range ((Wk.Seq.chg hseq kk1 (fun _ _ => trivial))) (by kernel_rfl) (fun _ _ => by kernel_rfl) (fun x => rfl) (fun pre W' => ∃ A n c, W'.heap[w.heap.size]? = some (.cells #[.slice A n c] 22 (0, 0)) ∧ OwnA W' W1.heap.size 32 A n c pre ∧ Chg [w.heap.size] W1 W') ?_ ?_ ?_ ?_ ?_
 ·rintro pre A1_ A2_ ⟨A, n, c, h1, h2, h3⟩ hc
  exact ⟨A, n, c, hc.hp h1 trivial, h2.chg hc (fun _ _ _ _ => trivial), h3.step hc trivial⟩
 ·rintro pre A1_ A2_ r_ o_ ⟨A, n, c, h1, h2, h3⟩ hr ho hoc hc
  exact ⟨A, n, c, hc.hp h1 ⟨Mur.cells_ne h1 ho hoc, trivial⟩, h2.chg hc (fun q hq _ _ => ⟨h2.off_obj ho hoc q hq, trivial⟩), h3.step hc ⟨.inr hr, trivial⟩⟩
 ·exact ⟨none, 0, 0, hb1, Mur.ownA_nil _ _ _, (Chg.refl _).more (by simp)⟩
 ·intro lz pre x post A1 hsp hI hwl hlA hlz
  obtain ⟨A, n, c, hIp, hIo, hIc⟩ := hI
  have hzI_ := hIc.size
  have hIlen := hIo.sl.len
  have hInc := hIo.nc
  have hbl_ := (Array.getElem?_eq_some_iff.1 hIp).1
  have hbz := Mur.cells_ne' hIp hlz
  have hIol := hIo.off_loop hlz
  have hpl_ : pre.length + 1 ≤ 200 := by have := congrArg List.length hsp; simp at this; omega
  have hfl_ := List.length_filter_le (fun _ : Att => true) pre
  refine Wk.regI ?_
  refine Wk.iEx 0 (some 5) _ rfl rfl rfl (by kernel_rfl) (new_ex (.pointer (some ⟨A1.heap.size, 0, none⟩)) #[.int .u8 0, .int .u8 0, .int .u8 0, .int .u8 0, .int .u8 0, .int .u8 0, .int .u8 0, .int .u8 0, .int .u8 0, .int .u8 0, .int .u8 0, .int .u8 0, .int .u8 0, .int .u8 0, .int .u8 0, .int .u8 0, .int .u8 0, .int .u8 0, .int .u8 0, .int .u8 0, .int .u8 0, .int .u8 0, .int .u8 0, .int .u8 0, .int .u8 0, .int .u8 0, .int .u8 0, .int .u8 0, .int .u8 0, .int .u8 0, .int .u8 0, .int .u8 0, .int .u8 0, .int .u8 0, .int .u8 0, .int .u8 0, .int .u8 0, .int .u8 0, .int .u8 0, .int .u8 0, .int .u8 0, .int .u8 0, .int .u8 0, .int .u8 0, .int .u8 0, .int .u8 0, .int .u8 0, .int .u8 0, .int .u8 0, .int .u8 0, .int .u8 0, .int .u8 0, .int .u8 0, .int .u8 0, .int .u8 0, .int .u8 0, .int .u8 0, .int .u8 0, .int .u8 0, .int .u8 0, .int .u8 0, .int .u8 0, .int .u8 0, .int .u8 0, .int .i64 0, .int .u8 0, .int .u8 0, .int .u8 0, .int .u8 0, .int .u8 0, .int .u8 0, .int .u8 0, .int .u8 0, .int .u8 0, .int .u8 0, .int .u8 0, .int .u8 0, .int .u8 0, .int .u8 0, .int .u8 0, .int .u8 0, .int .u8 0, .int .u8 0, .int .u8 0, .int .u8 0, .int .u8 0, .int .u8 0, .int .u8 0, .int .u8 0, .int .u8 0, .int .u8 0, .int .u8 0, .int .u8 0, .int .u8 0, .int .u8 0, .int .u8 0, .int .u8 0] 32 (by kernel_rfl)) ?_
  rintro _ W2 ⟨rfl, hb2, ch2, sz2⟩
  have zz2 := ch2.size
  rw [← Mur.attC_zero] at hb2
  refine Wk.iExS 1 none _ rfl rfl rfl (by kernel_rfl) (Mur.storeArr 32 (.tmp 5) (.tmp 7) rfl A1.heap.size (by kernel_rfl) (Mur.attC x.k x.r x.n x.t).toArray 97 (Mur.attC_size x.hk x.hr x.ht) Mur.attC_all (by kernel_rfl) (by kernel_rfl) 32 ((Mur.attC Mur.z32 Mur.z32 0 Mur.z32).toArray) hb2 (Mur.attC_size rfl rfl rfl)) ?_
  rintro W3 ⟨hb3, ch3⟩
  have zz3 := ch3.size
  refine Wk.iEnd 2 rfl (nxt ?_)
  have kk2 : Chg [] A1 W2 := Chg.step ((Chg.refl _).more (by simp)) ch2 trivial
  have kk3 := Chg.step kk2 ch3 ⟨.inr (by omega), trivial⟩
  refine ⟨kk3, ?_⟩
  have hlz2_ := hlz.imp (fun _ h_ => Chg.hp kk3 h_ trivial)
  intro A2 hch2
  have zz4 := hch2.size
  refine wpIn_block (Wk.regI ?_)
  refine Wk.iPure 0 (some 8) (.slice A n c) rfl rfl rfl (by kernel_rfl) (load1 22 (.tmp 2) rfl (by kernel_rfl) ⟨w.heap.size, 0, none⟩ (by kernel_rfl) (.slice A n c) ((cell_of_row _ _ 0 _ _ _ (Chg.hp hch2 (Chg.hp ch3 (Chg.hp ch2 hIp trivial) ⟨by omega, trivial⟩) ⟨by omega, trivial⟩)).trans rfl)) ?_
  refine Wk.iPure 1 (some 9) (.agg ((Mur.attC x.k x.r x.n x.t).toArray)) rfl rfl rfl (by kernel_rfl) (Mur.loadArr 32 (.tmp 5) rfl _ Tryd.underlying32 rfl A1.heap.size (by kernel_rfl) (Mur.attC x.k x.r x.n x.t).toArray 97 (Mur.attC_size x.hk x.hr x.ht) (by kernel_rfl) 32 (0, 0) (Chg.hp hch2 hb3 ⟨by omega, trivial⟩)) ?_
  refine Wk.iEx 2 (some 10) _ rfl rfl rfl (by kernel_rfl) (Mur.build1 22 32 (.tmp 9) rfl Tryd.underlying22 attI x.k x.r x.t x.n x.hk x.hr x.ht (by kernel_rfl)) ?_
  rintro _ W4 ⟨rfl, hb4, ch4, sz3⟩
  have zz5 := ch4.size
  have ow1 := Mur.OwnA.chg hIo ch2 (fun q e _ _ => trivial)
  have ow2 := Mur.OwnA.chg ow1 ch3 (fun q e _ _ => ⟨by have := hIo.lt q e; omega, trivial⟩)
  have ow3 := Mur.OwnA.chg ow2 hch2 (fun q e _ _ => ⟨hIol q e, trivial⟩)
  have ow4 := Mur.OwnA.chg ow3 ch4 (fun q e _ _ => trivial)
  refine Wk.iEx 3 (some 11) _ rfl rfl rfl (by kernel_rfl) (Mur.appendA (.tmp 8) (.tmp 10) 22 32 rfl Tryd.underlying22 attI W1.heap.size A n c pre (some ⟨A2.heap.size, 0, none⟩) 1 1 ([x]) (by kernel_rfl) (by kernel_rfl) ow4 (Mur.slA_box x hb4) (fun h => by cases h) (by omega) (by omega) (n + 1) (by omega) (pre ++ ([x])) rfl) ?_
  rintro _ W5 ⟨AA1, nn1, rfl, ow5, ch5, ha1⟩
  have zz6 := ch5.size
  have hq1 := ow5.nc
  have hq2 := ow5.cm
  refine Wk.iExS 4 none _ rfl rfl rfl (by kernel_rfl) (store1 22 (.tmp 2) (.tmp 11) rfl (by kernel_rfl) w.heap.size 0 (by kernel_rfl) (.slice AA1 (n + 1) nn1) (by kernel_rfl) rfl 22 #[.slice A n c] (Chg.hp ch5 (Chg.hp ch4 (Chg.hp hch2 (Chg.hp ch3 (Chg.hp ch2 hIp trivial) ⟨by omega, trivial⟩) ⟨by omega, trivial⟩) trivial) (off_blk (fun gz hgz => by have := hIo.lt gz hgz; omega))) (by simp)) ?_
  rintro W6 ⟨hb5, ch6⟩
  replace hb5 : W6.heap[w.heap.size]? = some (.cells #[.slice AA1 (n + 1) nn1] 22 (0, 0)) := hb5
  have zz7 := ch6.size
  refine Wk.iEnd 5 rfl (inN ?_)
  have kk4 : Chg ([w.heap.size] ++ Wk.blk (.slice A n c)) A2 W4 := Chg.step ((Chg.refl _).more (by simp)) ch4 trivial
  have kk5 := Chg.step kk4 ch5 (Mur.newOr_iff.2 (fun t ht => .inl (List.mem_append_right _ ht)))
  have kk6 := Chg.step kk5 ch6 ⟨.inl (by simp), trivial⟩
  have kk7 := Chg.step hIc ch2 trivial
  have kk8 := Chg.step kk7 ch3 ⟨.inr (by omega), trivial⟩
  have kk9 := Chg.step kk8 hch2 ⟨.inr (by omega), trivial⟩
  have kk10 := Chg.step kk9 ch4 trivial
  have kk11 := Chg.step kk10 ch5 (newOr_blk (fun g hg => by have := hIo.lt g hg; omega))
  have kk12 := Chg.step kk11 ch6 ⟨.inl (by simp), trivial⟩
  have ow6 := Mur.OwnA.chg ow5 ch6 (fun q e _ _ => ⟨by have := ow5.lt q e; omega, trivial⟩)
  refine roundN _ kk6 (fun s_ hs_ hlt_ => ?_) (fun k_ hk_ => ⟨hFb_ k_ hk_, off_blk (fun q hq => by have := hIo.lt q hq; have := hFw k_ hk_; omega)⟩) ⟨_, _, _, hb5, ow6, kk12⟩
  rcases List.mem_cons.1 hs_ with rfl | hs_
  ·exact ⟨_, (hch2.hp (ch3.hp (ch2.hp hIp trivial) ⟨by omega, trivial⟩) ⟨hbz, trivial⟩), rfl⟩
  exact (Mur.OwnA.chg (Mur.OwnA.chg (Mur.OwnA.chg hIo ch2 (fun q e _ _ => trivial)) ch3 (fun q e _ _ => ⟨by have := hIo.lt q e; omega, trivial⟩)) hch2 (fun q e _ _ => ⟨hIol q e, trivial⟩)).isCells hs_
 intro D W9 hI hwD hKD
 obtain ⟨A, n, c, hIp, hIo, hIc⟩ := hI
 have hzI_ := hIc.size
 have hIlen := hIo.sl.len
 have hInc := hIo.nc
 have hbl_ := (Array.getElem?_eq_some_iff.1 hIp).1
 have hbD := Mur.cells_ne hIp hKD rfl
 have hIoD := hIo.off_obj hKD rfl
 have hDl := (Array.getElem?_eq_some_iff.1 hKD).1
 have hW9 : Chg [] w W9 := Chg.step kk1 hIc ⟨.inr (by omega), trivial⟩
 refine inN (nxt (wp_seq (reg ?_)))
 refine rQ 0 12 _ rfl rfl (load1 22 (.tmp 2) rfl (by kernel_rfl) ⟨w.heap.size, 0, none⟩ (by kernel_rfl) (.slice A n c) ((cell_of_row _ _ 0 _ _ _ hIp).trans rfl)) ?_
 refine rP 1 4 (.slice A n c) rfl rfl ?_
 refine rEnd 2 rfl (nxt (wp_ret (npR ?_)))
 refine retM D rfl hKD ?_
 intro W7 ch7
 have zz8 := ch7.size
 have ow7 := Mur.OwnA.chg hIo ch7 (fun q e _ _ => ⟨hIoD q e, trivial⟩)
 have kk13 := Chg.step hW9 ch7 ⟨.inr (by omega), trivial⟩
 exact ⟨.slice A n c, by kernel_rfl, ⟨_, _, _, rfl, ow7.rebase (fun q_ h_ => by have := hIo.lt q_ h_; omega), kk13⟩⟩
theorem Collect_any (b1 b2 : Nat) (xs : List Att) (F : List Nat) (w : World) (hseq : Wk.Seq Tryd.prog 64 #[.pointer (some ⟨b1, 0, none⟩), .pointer (some ⟨b2, 0, none⟩)] Mur.encA xs F w) (hlen : xs.length ≤ 200) : Calls Tryd.prog 44 #[.func (.func 64) #[] #[.pointer (some ⟨b1, 0, none⟩), .pointer (some ⟨b2, 0, none⟩)]] w fun e w' => ∃ A n c, e = .returned (.slice A n c) ∧ OwnA w' w.heap.size 32 A n c xs ∧ Chg [] w w' := by
 refine calls_of_wp Tryd.func44 rfl ?_
 refine wp_seq (reg ?_)
 refine rP 0 2 (.slice none 0 0) rfl rfl ?_
 refine rEnd 1 rfl (nxt (wp_seq (reg ?_)))
 refine rP 0 3 (.func (.func 64) #[] #[.pointer (some ⟨b1, 0, none⟩), .pointer (some ⟨b2, 0, none⟩)]) rfl rfl ?_
 refine rC 1 4 67 [.const (.slice none 0 0), .tmp 3] #[22, 85] [.slice none 0 0, .func (.func 64) #[] #[.pointer (some ⟨b1, 0, none⟩), .pointer (some ⟨b2, 0, none⟩)]] rfl rfl rfl ?_
 refine (AppendSeq_any b1 b2 xs F w hseq hlen).mono ?_
 rintro _ W1 ⟨AA1, nn1, nn2, rfl, ow1, ch1⟩
 have zz1 := ch1.size
 have hq1 := ow1.nc
 have hq2 := ow1.cm
 have hq3 := ow1.sl.len
 refine ⟨_, rfl, ?_⟩
 refine rP 2 2 (.slice AA1 nn1 nn2) rfl rfl ?_
 refine rEnd 3 rfl (nxt (wp_ret ?_))
 have kk1 : Chg [] w W1 := Chg.step ((Chg.refl _).more (by simp)) ch1 trivial
 refine Wk.ret (.slice AA1 nn1 nn2) rfl (by kernel_rfl) ?_
 exact ⟨_, _, _, rfl, ow1, kk1⟩
theorem Below_any (lo : Nat) (L : List Att) (g : Nat) (F : List Nat) (p : List UInt8) (A : Option Addr) (n c : Nat) (w : World) (h : Mur.SetF 32 57 lo w g L F) (hb : Byt w A n p) (hn : n ≤ 9223372036854775807) : Calls Tryd.prog 18 #[.pointer (some ⟨g, 0, none⟩), .slice A n c] w fun e w' => ∃ A n c, e = .returned (.slice A n c) ∧ OwnA w' w.heap.size 32 A n c (Mur.belowL p L) ∧ Chg [] w w' := by
 have hM_ := Mur.SetF.mem h
 have hS_ := Mur.SetF.len h
 refine calls_of_wp Tryd.func18 rfl ?_
 refine wp_seq (reg ?_)
 refine rP 0 4 (.slice none 0 0) rfl rfl ?_
 refine rEnd 1 rfl (nxt (wp_seq (reg ?_)))
 refine rP 0 5 (.pointer (some ⟨g, 0, none⟩)) rfl rfl ?_
 refine rP 1 6 (.slice A n c) rfl rfl ?_
 refine rC 2 7 42 [.tmp 5, .tmp 6] #[24, 38] [.pointer (some ⟨g, 0, none⟩), .slice A n c] rfl rfl rfl ?_
 refine (below_any g A n c w).mono ?_
 rintro _ W1 ⟨bq1, bq2, rfl, hbq1, hbq2, hzq1, hzq2, hzq3, ch1⟩
 have zz1 := ch1.size
 refine ⟨_, rfl, ?_⟩
 refine rC 3 8 44 [.tmp 7] #[85] [.func (.func 64) #[] #[.pointer (some ⟨bq1, 0, none⟩), .pointer (some ⟨bq2, 0, none⟩)]] rfl rfl rfl ?_
 have kk1 : Chg [] w W1 := Chg.step ((Chg.refl _).more (by simp)) ch1 trivial
 have hD1 := Mur.SetF.chg h ch1 (fun s hs => trivial)
 refine (Collect_any bq1 bq2 (Mur.belowL p L) (bq1 :: bq2 :: (F ++ Mur.pblk A n)) W1 (below_seq lo L g F p A n c bq1 bq2 W1 hD1 (Mur.byt_chg hb kk1 (fun g off e hl => trivial)) (by omega) hbq1 hbq2) (Nat.le_trans (Mur.belowL_len p L) hS_)).mono ?_
 rintro _ W2 ⟨AA1, nn1, nn2, rfl, ow1, ch2⟩
 have zz2 := ch2.size
 have hq1 := ow1.nc
 have hq2 := ow1.cm
 have hq3 := ow1.sl.len
 refine ⟨_, rfl, ?_⟩
 refine rP 4 4 (.slice AA1 nn1 nn2) rfl rfl ?_
 refine rEnd 5 rfl (nxt (wp_ret ?_))
 have kk2 := Chg.step kk1 ch2 trivial
 refine Wk.ret (.slice AA1 nn1 nn2) rfl (by kernel_rfl) ?_
 exact ⟨_, _, _, rfl, ow1.rebase (fun q_ h_ => by have := ow1.lt q_ h_; omega), kk2⟩
end Go.Proofs.YtfhneademopciaaDoor
namespace Go.Proofs.YtfhneademopciaaDoor
open Go.RowKit Wk
open Mur (b8s Byt Own8 Seg Segs flat cutA attC Att SlA OwnA rowA)
set_option maxRecDepth 100000
set_option maxHeartbeats 4000000
def ShP_F1 (b : Array Value) (u4 : Value) (u5 : Value) (u10 : Value) (u11 : Value) (u12 : Value) : Act := ⟨#[gd b 0, gd b 1, gd b 2, gd b 3, u4, u5, gd b 6, gd b 7, gd b 8, gd b 9, u10, u11, u12, gd b 13, gd b 14, gd b 15, gd b 16, gd b 17, gd b 18, gd b 19, gd b 20, gd b 21], []⟩
theorem Parts_any (t : UInt8) (L : List Seg) (PA : Option Addr) (pn pc : Nat) (w : World) (hv : ShaVars w) (hl : Segs w PA pn L) (hpn : pn ≤ 9223372036854775807) (hf : (flat L).length ≤ 140737488351000) : Calls Tryd.prog 43 #[.int .u8 ((t.toNat : Nat) : Int), .slice PA pn pc] w fun e w' => ∃ d, Hid (d = Mur.sha (t :: flat L)) ∧ d.length = 32 ∧ e = .returned (.agg (b8s d).toArray) ∧ Chg [] w w' := by
 have HV := Go.Lib.hid hv
 clear hv
 have HL := Go.Lib.hid hl
 clear hl
 refine calls_of_wp Tryd.func43 rfl ?_
 refine wp_seq (reg ?_)
 refine rX 0 4 rfl rfl (new_ex (.pointer (some ⟨w.heap.size, 0, none⟩)) #[.int .u8 0, .int .u8 0, .int .u8 0, .int .u8 0, .int .u8 0, .int .u8 0, .int .u8 0, .int .u8 0, .int .u8 0, .int .u8 0, .int .u8 0, .int .u8 0, .int .u8 0, .int .u8 0, .int .u8 0, .int .u8 0, .int .u8 0, .int .u8 0, .int .u8 0, .int .u8 0, .int .u8 0, .int .u8 0, .int .u8 0, .int .u8 0, .int .u8 0, .int .u8 0, .int .u8 0, .int .u8 0, .int .u8 0, .int .u8 0, .int .u8 0, .int .u8 0] 30 (by kernel_rfl)) ?_
 rintro _ W1 ⟨rfl, hb1, ch1, sz1⟩
 have zz1 := ch1.size
 refine rEnd 1 rfl (nxt (wp_seq (reg ?_)))
 refine rP 0 8 (.int .u8 ((t.toNat : Nat) : Int)) rfl rfl ?_
 refine rX 1 9 rfl rfl (new_ex (.slice (some ⟨W1.heap.size, 0, none⟩) 1 1) #[.int .u8 ((t.toNat : Nat) : Int)] 5 (by kernel_rfl)) ?_
 rintro _ W2 ⟨rfl, hb2, ch2, sz2⟩
 have zz2 := ch2.size
 refine rP 2 5 (.slice (some ⟨W1.heap.size, 0, none⟩) 1 1) rfl rfl ?_
 refine rEnd 3 rfl (nxt (wp_seq (wp_seq (reg ?_))))
 refine rP 0 10 (.slice PA pn pc) rfl rfl ?_
 refine rP 1 11 (.int .i64 ((pn : Nat) : Int)) rfl rfl ?_
 refine rP 2 12 (.int .i64 0) rfl rfl ?_
 refine rEnd 3 rfl (nxt (wp_block ?_))
 have hOw5 : Own8 W2 W1.heap.size 5 (some ⟨W1.heap.size, 0, none⟩) 1 1 [t] := Mur.own8_lit hb2 (Nat.le_refl _) rfl (by omega)
 refine Wk.loop (fun m_ a wr => ∃ (k : Nat) (A1 : Option Addr) (N : Nat) (c1 : Nat), m_ = pn - k ∧ a = ShP_F1 a.tmps (.pointer (some ⟨w.heap.size, 0, none⟩)) (.slice A1 N c1) (.slice PA pn pc) (.int .i64 ((pn : Nat) : Int)) (.int .i64 ((k : Nat) : Int)) ∧ k ≤ pn ∧ Own8 wr W1.heap.size 5 A1 N c1 (t :: flat (L.take k)) ∧ N = 1 + (flat (L.take k)).length ∧ wr.heap[w.heap.size]? = some (.cells #[.int .u8 0, .int .u8 0, .int .u8 0, .int .u8 0, .int .u8 0, .int .u8 0, .int .u8 0, .int .u8 0, .int .u8 0, .int .u8 0, .int .u8 0, .int .u8 0, .int .u8 0, .int .u8 0, .int .u8 0, .int .u8 0, .int .u8 0, .int .u8 0, .int .u8 0, .int .u8 0, .int .u8 0, .int .u8 0, .int .u8 0, .int .u8 0, .int .u8 0, .int .u8 0, .int .u8 0, .int .u8 0, .int .u8 0, .int .u8 0, .int .u8 0, .int .u8 0] 30 (0, 0)) ∧ Chg [] w wr ∧ W1.heap.size ≤ wr.heap.size) (pn - 0) ?_ ?_
 ·have kk1 : Chg [] w W1 := Chg.step ((Chg.refl _).more (by simp)) ch1 trivial
  have kk2 := Chg.step kk1 ch2 trivial
  refine ⟨0, some ⟨W1.heap.size, 0, none⟩, 1, 1, rfl, by kernel_rfl, by omega, (by rw [List.take_zero]; exact hOw5), by rw [List.take_zero]; rfl, (Chg.hp ch2 hb1 trivial), kk2, (by omega)⟩
 rintro mm1 aa1 W3 ⟨k, A1, N, c1, hmm1, hF1, hi, hO, hN, hZ, HB, hbs⟩
 generalize aa1.tmps = bb1 at hF1
 subst hF1
 have hqn := hO.nc
 have hqm := hO.cm
 unfold Go.maxLen at hqm
 have hzl_ := (Array.getElem?_eq_some_iff.1 hZ).1
 by_cases hlt : k < pn
 ·obtain ⟨g, off, As, ns, cs, ls, rfl, hg, hcell, hby, hsn, hsc, hsnil, hfl, hfle⟩ := HL.out.at hlt
  refine wp_seq (reg ?_)
  refine rQ 0 13 _ rfl rfl (qboolT (b := decide (((k : Nat) : Int) < ((pn : Nat) : Int))) (decide_eq_true (by omega))) ?_
  refine rEnd 1 rfl (nxt (wp_seq (wp_cond_true (by kernel_rfl) (wp_skip (nxt (wp_seq (wp_block (wp_seq (reg ?_)))))))))
  refine rQ 0 14 (.pointer (some ⟨g, off + k * 1, none⟩)) rfl rfl (index_sl 83 38 (.tmp 10) (.tmp 12) rfl Tryd.underlying83 1 (by kernel_rfl) g off pn pc k .i64 (by kernel_rfl) (by kernel_rfl) (by omega)) ?_
  refine rQ 1 15 _ rfl rfl (load1 38 (.tmp 14) rfl (by kernel_rfl) ⟨g, off + k * 1, none⟩ (by kernel_rfl) (.slice As ns cs) (Chg.cell HB hcell trivial)) ?_
  refine rP 2 7 (.slice As ns cs) rfl rfl ?_
  refine rEnd 3 rfl (nxt (reg ?_))
  refine rP 0 16 (.slice A1 N c1) rfl rfl ?_
  refine rP 1 17 (.slice As ns cs) rfl rfl ?_
  refine rX 2 18 rfl rfl (Mur.append8 (.tmp 16) (.tmp 17) 38 5 rfl Tryd.underlying38 (by kernel_rfl) W1.heap.size A1 N c1 (t :: flat (L.take k)) As ns cs ls (by kernel_rfl) (by kernel_rfl) hO.own (Mur.byt_chg hby HB (fun g off e hl => trivial)) hsnil (by omega) (by omega) (N + ns) (by omega) ((t :: flat (L.take k)) ++ ls) rfl) ?_
  rintro _ W4 ⟨AA1, nn1, rfl, ow1, ch3, ha1⟩
  have zz3 := ch3.size
  have hq1 := ow1.nc
  have hq2 := ow1.cm
  refine rP 3 5 (.slice AA1 (N + ns) nn1) rfl rfl ?_
  refine rEnd 4 rfl (inN (nxt (reg ?_)))
  refine rQ 0 19 _ rfl rfl (qint64 (n := ((k : Nat) : Int) + 1) (z := ((k + 1 : Nat) : Int)) (by omega) (by omega) (by omega)) ?_
  refine rP 1 12 (.int .i64 ((k + 1 : Nat) : Int)) rfl rfl ?_
  refine rEnd 2 rfl (nxt ?_)
  have kk3 := Chg.step HB ch3 (newOr_blk (fun g hg => by have := hO.lt g hg; omega))
  refine ⟨_, ?_, k + 1, AA1, N + ns, nn1, rfl, by kernel_rfl, (by omega), (by rw [hfl]; exact ow1), (by rw [hfl, List.length_append]; have := hby.1; omega), (Chg.hp ch3 hZ (off_blk (fun gz hgz => by have := hO.lt gz hgz; omega))), kk3, (by omega)⟩
  omega
 have hfa : flat (L.take k) = flat L := by rw [show k = pn by omega]; exact Mur.flat_all HL.out.len
 have hfl := congrArg List.length hfa
 refine wp_seq (reg ?_)
 refine rQ 0 13 _ rfl rfl (qboolF (b := decide (((k : Nat) : Int) < ((pn : Nat) : Int))) (decide_eq_false (by omega))) ?_
 refine rEnd 1 rfl (nxt (wp_seq (wp_cond_false (by kernel_rfl) (wp_exit (thX (thX (inX (nxt (wp_seq (reg ?_))))))))))
 refine rP 0 20 (.slice A1 N c1) rfl rfl ?_
 refine rC 1 21 66 [.tmp 20] #[38] [.slice A1 N c1] rfl rfl rfl ?_
 refine (sum_var (t :: flat (L.take k)) A1 N c1 W3 (HV.out.below (Chg.below0 HB)) hO.byt (by omega) hO.nil (by omega)).mono ?_
 rintro _ W5 ⟨dd1, hd1, hdl1, rfl, hB1⟩
 have ch4 := Chg.ofBelow hB1
 have zz4 := ch4.size
 refine ⟨_, rfl, ?_⟩
 refine rY 2 rfl rfl (Mur.storeAll 30 (.tmp 4) (.tmp 21) rfl w.heap.size (by kernel_rfl) dd1 32 hdl1 (by kernel_rfl) (by kernel_rfl) 30 #[.int .u8 0, .int .u8 0, .int .u8 0, .int .u8 0, .int .u8 0, .int .u8 0, .int .u8 0, .int .u8 0, .int .u8 0, .int .u8 0, .int .u8 0, .int .u8 0, .int .u8 0, .int .u8 0, .int .u8 0, .int .u8 0, .int .u8 0, .int .u8 0, .int .u8 0, .int .u8 0, .int .u8 0, .int .u8 0, .int .u8 0, .int .u8 0, .int .u8 0, .int .u8 0, .int .u8 0, .int .u8 0, .int .u8 0, .int .u8 0, .int .u8 0, .int .u8 0] (Chg.hp ch4 hZ trivial) rfl) ?_
 rintro W6 ⟨hb3, ch5⟩
 have zz5 := ch5.size
 refine rEnd 3 rfl (nxt (wp_ret ?_))
 have kk4 := Chg.step HB ch4 trivial
 have kk5 := Chg.step kk4 ch5 ⟨.inr (by omega), trivial⟩
 refine Wk.ret (.agg (b8s dd1).toArray) rfl (results_cell_row rfl _ _ w.heap.size 30 (b8s dd1).toArray (0, 0) _ (by kernel_rfl) hb3 Tryd.underlying30 rfl (by rw [List.size_toArray, Mur.b8s_length, hdl1]; kernel_rfl)) ?_
 exact ⟨_, Go.Lib.hid (by rw [hd1.out, hfa]), hdl1, rfl, kk5⟩
theorem Sum_any (lo : Nat) (L : List Att) (g : Nat) (F : List Nat) (p : List UInt8) (PA : Option Addr) (pn pc : Nat) (w : World) (hv : ShaVars w) (h : Mur.SetF 32 57 lo w g L F) (hb : Byt w PA pn p) (hn : pn ≤ 9223372036854775807) : Calls Tryd.prog 16 #[.pointer (some ⟨g, 0, none⟩), .slice PA pn pc] w fun e w' => ∃ d, Hid (d = Mur.sumL p L) ∧ d.length = 32 ∧ e = .returned (.tuple #[.agg (b8s d).toArray, .int .i64 (((Mur.belowL p L).length : Nat) : Int)]) ∧ Chg [] w w' := by
 have HV := Go.Lib.hid hv
 clear hv
 have hM_ := Mur.SetF.mem h
 have hS_ := Mur.SetF.len h
 have hMay_ := Mur.SetF.ok h
 refine Wk.calls_of_wpM Tryd.func16 rfl ?_
 refine Wk.noP ?_
 refine wp_seq (reg ?_)
 refine rX 0 4 rfl rfl (new_ex (.pointer (some ⟨w.heap.size, 0, none⟩)) #[.int .u8 0, .int .u8 0, .int .u8 0, .int .u8 0, .int .u8 0, .int .u8 0, .int .u8 0, .int .u8 0, .int .u8 0, .int .u8 0, .int .u8 0, .int .u8 0, .int .u8 0, .int .u8 0, .int .u8 0, .int .u8 0, .int .u8 0, .int .u8 0, .int .u8 0, .int .u8 0, .int .u8 0, .int .u8 0, .int .u8 0, .int .u8 0, .int .u8 0, .int .u8 0, .int .u8 0, .int .u8 0, .int .u8 0, .int .u8 0, .int .u8 0, .int .u8 0] 30 (by kernel_rfl)) ?_
 rintro _ W1 ⟨rfl, hb1, ch1, sz1⟩
 have zz1 := ch1.size
 refine rP 1 5 (.int .i64 0) rfl rfl ?_
 refine rEnd 2 rfl (nxt (wp_seq (wp_seq (reg ?_))))
 refine rP 0 10 (.pointer (some ⟨g, 0, none⟩)) rfl rfl ?_
 refine rP 1 11 (.bool false) rfl rfl ?_
 refine rP 2 12 (.bool false) rfl rfl ?_
 refine rP 3 13 (.slice PA pn pc) rfl rfl ?_
 refine rC 4 14 19 [.tmp 13] #[38] [.slice PA pn pc] rfl rfl rfl ?_
 have kk1 : Chg [] w W1 := Chg.step ((Chg.refl _).more (by simp)) ch1 trivial
 refine (IsPrefix_any p PA pn pc W1 (Mur.byt_chg hb kk1 (fun g off e hl => trivial)) (by omega)).mono ?_
 cases hpre1 : Mur.isPre p
 ·rintro _ _ ⟨rfl, rfl⟩
  refine ⟨_, rfl, ?_⟩
  refine rP 5 15 (.bool true) rfl rfl ?_
  refine rP 6 16 (.bool true) rfl rfl ?_
  refine rEnd 7 rfl (nxt (wp_cond_true (by kernel_rfl) (wp_seq (reg ?_))))
  refine rP 0 17 (.agg ((b8s [0, 0, 0, 0, 0, 0, 0, 0, 0, 0, 0, 0, 0, 0, 0, 0, 0, 0, 0, 0, 0, 0, 0, 0, 0, 0, 0, 0, 0, 0, 0, 0]).toArray)) rfl rfl ?_
  refine rY 1 rfl rfl (Mur.storeAll 30 (.tmp 4) (.tmp 17) rfl w.heap.size (by kernel_rfl) ([0, 0, 0, 0, 0, 0, 0, 0, 0, 0, 0, 0, 0, 0, 0, 0, 0, 0, 0, 0, 0, 0, 0, 0, 0, 0, 0, 0, 0, 0, 0, 0]) 32 rfl (by kernel_rfl) (by kernel_rfl) 30 #[.int .u8 0, .int .u8 0, .int .u8 0, .int .u8 0, .int .u8 0, .int .u8 0, .int .u8 0, .int .u8 0, .int .u8 0, .int .u8 0, .int .u8 0, .int .u8 0, .int .u8 0, .int .u8 0, .int .u8 0, .int .u8 0, .int .u8 0, .int .u8 0, .int .u8 0, .int .u8 0, .int .u8 0, .int .u8 0, .int .u8 0, .int .u8 0, .int .u8 0, .int .u8 0, .int .u8 0, .int .u8 0, .int .u8 0, .int .u8 0, .int .u8 0, .int .u8 0] hb1 rfl) ?_
  rintro W2 ⟨hb2, ch2⟩
  have zz2 := ch2.size
  refine rP 2 5 (.int .i64 0) rfl rfl ?_
  refine rEnd 3 rfl (nxt (wp_ret (thR (npR ?_))))
  refine retM0 (.tuple #[.agg (b8s Mur.z32).toArray, .int .i64 0]) rfl (Mur.results_dig rfl _ _ w.heap.size 30 _ (0, 0) _ (.int .i64 0) (by kernel_rfl) hb2 Tryd.underlying30 rfl (by kernel_rfl) (by kernel_rfl)) ?_
  have kk2 := Chg.step kk1 ch2 ⟨.inr (by omega), trivial⟩
  exact ⟨Mur.z32, Go.Lib.hid (Mur.sumL_no hpre1).symm, rfl, by rw [Mur.belowL_no hpre1]; rfl, kk2⟩
 rintro _ _ ⟨rfl, rfl⟩
 refine ⟨_, rfl, ?_⟩
 refine rP 5 15 (.bool false) rfl rfl ?_
 refine rP 6 16 (.bool false) rfl rfl ?_
 refine rEnd 7 rfl (nxt (wp_cond_false (by kernel_rfl) (wp_skip (nxt (wp_seq (reg ?_))))))
 refine rX 0 6 rfl rfl (new_ex (.pointer (some ⟨W1.heap.size, 0, none⟩)) #[.slice none 0 0] 83 (by kernel_rfl)) ?_
 rintro _ W3 ⟨rfl, hb3, ch3, sz2⟩
 have zz3 := ch3.size
 refine rEnd 1 rfl (nxt (wp_seq (wp_seq (reg ?_))))
 refine rP 0 18 (.pointer (some ⟨g, 0, none⟩)) rfl rfl ?_
 refine rP 1 19 (.slice PA pn pc) rfl rfl ?_
 refine rC 2 20 42 [.tmp 18, .tmp 19] #[24, 38] [.pointer (some ⟨g, 0, none⟩), .slice PA pn pc] rfl rfl rfl ?_
 refine (below_any g PA pn pc W3).mono ?_
 rintro _ W4 ⟨bq1, bq2, rfl, hbq1, hbq2, hzq1, hzq2, hzq3, ch4⟩
 have zz4 := ch4.size
 refine ⟨_, rfl, ?_⟩
 refine rEnd 3 rfl (nxt (wp_block ?_))
 have kk3 := Chg.step kk1 ch3 trivial
 have kk4 := Chg.step kk3 ch4 trivial
 have hD1 := Mur.SetF.chg h ch1 (fun s hs => trivial)
 have hD2 := Mur.SetF.chg hD1 ch3 (fun s hs => trivial)
 have hD3 := Mur.SetF.chg hD2 ch4 (fun s hs => trivial)
 have hseq1 := below_seq lo L g F p PA pn pc bq1 bq2 W4 hD3 (Mur.byt_chg hb kk4 (fun g off e hl => trivial)) (by omega) hbq1 hbq2
 have hok_ : ∀ y_, y_ ∈ Mur.belowL p L → Mur.may y_.n := fun y_ hy_ => hMay_ y_ (Mur.belowL_sub hy_)
 have hbll_ := Mur.belowL_len p L
 have hFw := hseq1.1
 have hFb_ : ∀ k_, k_ ∈ (bq1 :: bq2 :: (F ++ Mur.pblk PA pn)) → k_ ≠ W1.heap.size := fun k_ hk_ => by
  simp only [List.mem_cons, List.mem_append] at hk_
  rcases hk_ with rfl | rfl | hk_ | hk_
  ·omega
  ·omega
  ·have := hM_ k_ hk_; omega
  ·have := Mur.pblk_lt hb k_ hk_; omega
 refine Wk.range (hseq1) (by kernel_rfl) (fun _ _ => by kernel_rfl) (fun x => rfl) (fun pre W' => ∃ A n c, W'.heap[W1.heap.size]? = some (.cells #[.slice A n c] 83 (0, 0)) ∧ Mur.PartsA W' W4.heap.size W4.heap.size 38 A n c pre ∧ Chg [W1.heap.size] W4 W' ∧ W'.heap[w.heap.size]? = some (.cells #[.int .u8 0, .int .u8 0, .int .u8 0, .int .u8 0, .int .u8 0, .int .u8 0, .int .u8 0, .int .u8 0, .int .u8 0, .int .u8 0, .int .u8 0, .int .u8 0, .int .u8 0, .int .u8 0, .int .u8 0, .int .u8 0, .int .u8 0, .int .u8 0, .int .u8 0, .int .u8 0, .int .u8 0, .int .u8 0, .int .u8 0, .int .u8 0, .int .u8 0, .int .u8 0, .int .u8 0, .int .u8 0, .int .u8 0, .int .u8 0, .int .u8 0, .int .u8 0] 30 (0, 0))) ?_ ?_ ?_ ?_ ?_
 ·rintro pre A1_ A2_ ⟨A, n, c, h1, h2, h3, hE0⟩ hc
  exact ⟨A, n, c, hc.hp h1 trivial, h2.chg hc (Nat.le_refl _) (fun _ _ _ _ => trivial), h3.step hc trivial, hc.hp hE0 trivial⟩
 ·rintro pre A1_ A2_ r_ o_ ⟨A, n, c, h1, h2, h3, hE0⟩ hr ho hoc hc
  exact ⟨A, n, c, hc.hp h1 ⟨Mur.cells_ne h1 ho hoc, trivial⟩, h2.chg hc (Nat.le_refl _) (fun q _ _ k_ => ⟨Mur.off_noncells ho hoc k_, trivial⟩), h3.step hc ⟨.inr hr, trivial⟩, hc.hp hE0 ⟨Mur.cells_ne hE0 ho hoc, trivial⟩⟩
 ·exact ⟨none, 0, 0, (Chg.hp ch4 hb3 trivial), Mur.partsA_nil _ _ _ _, (Chg.refl _).more (by simp), (Chg.hp ch4 (Chg.hp ch3 hb1 trivial) trivial)⟩
 ·intro lz pre x post A1 hsp hI hwl hlA hlz
  obtain ⟨A, n, c, hIp, hIo, hIc, hE0⟩ := hI
  have hlhE0_ := (Array.getElem?_eq_some_iff.1 hE0).1
  have hzI_ := hIc.size
  have hIlen := hIo.len
  have hInc := hIo.nc
  have hbl_ := (Array.getElem?_eq_some_iff.1 hIp).1
  have hbz := Mur.cells_ne' hIp hlz
  have hpl_ : pre.length + 1 ≤ 200 := by have := congrArg List.length hsp; simp at this; omega
  have hbzhE0 := Mur.cells_ne' hE0 hlz
  have hmx_ : Mur.may x.n := hok_ x (by rw [hsp]; simp)
  refine Wk.regI ?_
  refine Wk.iEx 0 (some 7) _ rfl rfl rfl (by kernel_rfl) (new_ex (.pointer (some ⟨A1.heap.size, 0, none⟩)) #[.int .u8 0, .int .u8 0, .int .u8 0, .int .u8 0, .int .u8 0, .int .u8 0, .int .u8 0, .int .u8 0, .int .u8 0, .int .u8 0, .int .u8 0, .int .u8 0, .int .u8 0, .int .u8 0, .int .u8 0, .int .u8 0, .int .u8 0, .int .u8 0, .int .u8 0, .int .u8 0, .int .u8 0, .int .u8 0, .int .u8 0, .int .u8 0, .int .u8 0, .int .u8 0, .int .u8 0, .int .u8 0, .int .u8 0, .int .u8 0, .int .u8 0, .int .u8 0, .int .u8 0, .int .u8 0, .int .u8 0, .int .u8 0, .int .u8 0, .int .u8 0, .int .u8 0, .int .u8 0, .int .u8 0, .int .u8 0, .int .u8 0, .int .u8 0, .int .u8 0, .int .u8 0, .int .u8 0, .int .u8 0, .int .u8 0, .int .u8 0, .int .u8 0, .int .u8 0, .int .u8 0, .int .u8 0, .int .u8 0, .int .u8 0, .int .u8 0, .int .u8 0, .int .u8 0, .int .u8 0, .int .u8 0, .int .u8 0, .int .u8 0, .int .u8 0, .int .i64 0, .int .u8 0, .int .u8 0, .int .u8 0, .int .u8 0, .int .u8 0, .int .u8 0, .int .u8 0, .int .u8 0, .int .u8 0, .int .u8 0, .int .u8 0, .int .u8 0, .int .u8 0, .int .u8 0, .int .u8 0, .int .u8 0, .int .u8 0, .int .u8 0, .int .u8 0, .int .u8 0, .int .u8 0, .int .u8 0, .int .u8 0, .int .u8 0, .int .u8 0, .int .u8 0, .int .u8 0, .int .u8 0, .int .u8 0, .int .u8 0, .int .u8 0, .int .u8 0] 32 (by kernel_rfl)) ?_
  rintro _ W5 ⟨rfl, hb4, ch5, sz3⟩
  have zz5 := ch5.size
  rw [← Mur.attC_zero] at hb4
  refine Wk.iExS 1 none _ rfl rfl rfl (by kernel_rfl) (Mur.storeArr 32 (.tmp 7) (.tmp 21) rfl A1.heap.size (by kernel_rfl) (Mur.attC x.k x.r x.n x.t).toArray 97 (Mur.attC_size x.hk x.hr x.ht) Mur.attC_all (by kernel_rfl) (by kernel_rfl) 32 ((Mur.attC Mur.z32 Mur.z32 0 Mur.z32).toArray) hb4 (Mur.attC_size rfl rfl rfl)) ?_
  rintro W6 ⟨hb5, ch6⟩
  have zz6 := ch6.size
  refine Wk.iEnd 2 rfl (nxt ?_)
  have kk5 : Chg [] A1 W5 := Chg.step ((Chg.refl _).more (by simp)) ch5 trivial
  have kk6 := Chg.step kk5 ch6 ⟨.inr (by omega), trivial⟩
  refine ⟨kk6, ?_⟩
  have hlz2_ := hlz.imp (fun _ h_ => Chg.hp kk6 h_ trivial)
  intro A2 hch2
  have zz7 := hch2.size
  refine wpIn_block (wpIn_seq (Wk.regI ?_))
  refine Wk.iPure 0 (some 23) (.agg ((Mur.attC x.k x.r x.n x.t).toArray)) rfl rfl rfl (by kernel_rfl) (Mur.loadArr 32 (.tmp 7) rfl _ Tryd.underlying32 rfl A1.heap.size (by kernel_rfl) (Mur.attC x.k x.r x.n x.t).toArray 97 (Mur.attC_size x.hk x.hr x.ht) (by kernel_rfl) 32 (0, 0) (Chg.hp hch2 hb5 ⟨by omega, trivial⟩)) ?_
  refine Wk.iCall 1 (some 24) 38 [.tmp 23] #[32] [.agg ((Mur.attC x.k x.r x.n x.t).toArray)] rfl rfl rfl (by kernel_rfl) rfl (by kernel_rfl) (by kernel_rfl) ?_
  refine (Bytes_ok x.k x.r x.t x.n x.hk x.hr x.ht A2 hmx_).mono ?_
  rintro _ W7 ⟨qr1, cr1, RB1, hRB1, rfl, hbr1, hq1, hq2, ch7⟩
  have zz8 := ch7.size
  have hBt1 : ∀ g off, (some ⟨qr1, 0, none⟩ : Option Addr) = some ⟨g, off, none⟩ → A2.heap.size ≤ g ∧ g < W7.heap.size := fun g off e => by cases e; exact hq1
  refine ⟨_, rfl, ?_⟩
  refine Wk.iPure 2 (some 22) (.tuple #[.slice (some ⟨qr1, 0, none⟩) 104 cr1, .int .i64 0]) rfl rfl rfl (by kernel_rfl) (by kernel_rfl) ?_
  refine Wk.iPure 3 (some 25) (.slice (some ⟨qr1, 0, none⟩) 104 cr1) rfl rfl rfl (by kernel_rfl) (by kernel_rfl) ?_
  refine Wk.iPure 4 (some 26) (.int .i64 0) rfl rfl rfl (by kernel_rfl) (by kernel_rfl) ?_
  refine Wk.iPure 5 (some 8) (.slice (some ⟨qr1, 0, none⟩) 104 cr1) rfl rfl rfl (by kernel_rfl) (by kernel_rfl) ?_
  refine Wk.iPure 6 (some 9) (.int .i64 0) rfl rfl rfl (by kernel_rfl) (by kernel_rfl) ?_
  refine Wk.iEnd 7 rfl (nxt (Wk.regI ?_))
  refine Wk.iPure 0 (some 27) (.slice A n c) rfl rfl rfl (by kernel_rfl) (load1 83 (.tmp 6) rfl (by kernel_rfl) ⟨W1.heap.size, 0, none⟩ (by kernel_rfl) (.slice A n c) ((cell_of_row _ _ 0 _ _ _ (Chg.hp ch7 (Chg.hp hch2 (Chg.hp ch6 (Chg.hp ch5 hIp trivial) ⟨by omega, trivial⟩) ⟨by omega, trivial⟩) trivial)).trans rfl)) ?_
  refine Wk.iPure 1 (some 28) (.slice (some ⟨qr1, 0, none⟩) 104 cr1) rfl rfl rfl (by kernel_rfl) (by kernel_rfl) ?_
  refine Wk.iEx 2 (some 29) _ rfl rfl rfl (by kernel_rfl) (new_ex (.slice (some ⟨W7.heap.size, 0, none⟩) 1 1) #[.slice (some ⟨qr1, 0, none⟩) 104 cr1] 38 (by kernel_rfl)) ?_
  rintro _ W8 ⟨rfl, hb6, ch8, sz4⟩
  have zz9 := ch8.size
  have ow1 := (Mur.PartsA.chg hIo kk6 (Nat.le_refl _) (fun _ _ _ _ => trivial))
  have ow2 := (Mur.PartsA.chg ow1 hch2 (Nat.le_refl _) (fun q_ _ _ k_ => ⟨Mur.off_loop hlz2_ k_, trivial⟩))
  have ow3 := (Mur.PartsA.chg ow2 ch7 (Nat.le_refl _) (fun _ _ _ _ => trivial))
  have ow4 := (Mur.PartsA.chg ow3 ch8 (Nat.le_refl _) (fun _ _ _ _ => trivial))
  refine Wk.iEx 3 (some 30) _ rfl rfl rfl (by kernel_rfl) (Mur.appendP (.tmp 27) (.tmp 29) 83 38 rfl Tryd.underlying83 slI W4.heap.size W4.heap.size A n c pre W7.heap.size qr1 cr1 x (0, 0) 38 (by kernel_rfl) (by kernel_rfl) ow4 hb6 (by rw [show x.raw = RB1 from hRB1.out.symm]; exact (Mur.byt_chg hbr1 ch8 (fun g off e hl => trivial))) ⟨by omega, by omega⟩ (by omega) (by unfold Go.maxLen; omega) (fun e_ => by have := hIo.lt _ e_; omega) (by omega) (by omega)) ?_
  rintro _ W10 ⟨AA1, nn1, rfl, ow5, ch9⟩
  have zz10 := ch9.size
  refine Wk.iExS 4 none _ rfl rfl rfl (by kernel_rfl) (store1 83 (.tmp 6) (.tmp 30) rfl (by kernel_rfl) W1.heap.size 0 (by kernel_rfl) (.slice AA1 (n + 1) nn1) (by kernel_rfl) rfl 83 #[.slice A n c] (Chg.hp ch9 (Chg.hp ch8 (Chg.hp ch7 (Chg.hp hch2 (Chg.hp ch6 (Chg.hp ch5 hIp trivial) ⟨by omega, trivial⟩) ⟨by omega, trivial⟩) trivial) trivial) (off_blk (fun gz hgz => by have := hIo.lt gz hgz; omega))) (by simp)) ?_
  rintro W11 ⟨hb7, ch10⟩
  replace hb7 : W11.heap[W1.heap.size]? = some (.cells #[.slice AA1 (n + 1) nn1] 83 (0, 0)) := hb7
  have zz11 := ch10.size
  refine Wk.iEnd 5 rfl (inN ?_)
  have kk7 : Chg ([W1.heap.size] ++ Wk.blk (.slice A n c)) A2 W7 := Chg.step ((Chg.refl _).more (by simp)) ch7 trivial
  have kk8 := Chg.step kk7 ch8 trivial
  have kk9 := Chg.step kk8 ch9 (Mur.newOr_iff.2 (fun t ht => .inl (List.mem_append_right _ ht)))
  have kk10 := Chg.step kk9 ch10 ⟨.inl (by simp), trivial⟩
  have kk11 := Chg.step hIc ch5 trivial
  have kk12 := Chg.step kk11 ch6 ⟨.inr (by omega), trivial⟩
  have kk13 := Chg.step kk12 hch2 ⟨.inr (by omega), trivial⟩
  have kk14 := Chg.step kk13 ch7 trivial
  have kk15 := Chg.step kk14 ch8 trivial
  have kk16 := Chg.step kk15 ch9 (newOr_blk (fun g hg => by have := hIo.lt g hg; omega))
  have kk17 := Chg.step kk16 ch10 ⟨.inl (by simp), trivial⟩
  have ow6 := (Mur.PartsA.chg ow5 ch10 (Nat.le_refl _) (fun q_ k1_ _ _ => ⟨by omega, trivial⟩))
  refine roundN _ kk10 (fun s_ hs_ hlt_ => ?_) (fun k_ hk_ => ⟨hFb_ k_ hk_, off_blk (fun q hq => by have := hIo.lt q hq; have := hFw k_ hk_; omega)⟩) ⟨_, _, _, hb7, ow6, kk17, (Chg.hp ch10 (Chg.hp ch9 (Chg.hp ch8 (Chg.hp ch7 (Chg.hp hch2 (Chg.hp ch6 (Chg.hp ch5 hE0 trivial) ⟨by omega, trivial⟩) ⟨by omega, trivial⟩) trivial) trivial) (off_blk (fun gz hgz => by have := hIo.lt gz hgz; omega))) ⟨by omega, trivial⟩)⟩
  rcases List.mem_cons.1 hs_ with rfl | hs_
  ·exact ⟨_, (hch2.hp (ch6.hp (ch5.hp hIp trivial) ⟨by omega, trivial⟩) ⟨hbz, trivial⟩), rfl⟩
  exact Mur.PartsA.cells (Mur.PartsA.chg (Mur.PartsA.chg hIo kk6 (Nat.le_refl _) (fun _ _ _ _ => trivial)) hch2 (Nat.le_refl _) (fun q_ _ _ k_ => ⟨Mur.off_loop hlz2_ k_, trivial⟩)) (Mur.blk_mem hs_)
 intro D W9 hI hwD hKD
 obtain ⟨A, n, c, hIp, hIo, hIc, hE0⟩ := hI
 have hlhE0_ := (Array.getElem?_eq_some_iff.1 hE0).1
 have hzI_ := hIc.size
 have hIlen := hIo.len
 have hInc := hIo.nc
 have hbl_ := (Array.getElem?_eq_some_iff.1 hIp).1
 have hbD := Mur.cells_ne hIp hKD rfl
 have hDl := (Array.getElem?_eq_some_iff.1 hKD).1
 have hbDhE0 := Mur.cells_ne hE0 hKD rfl
 have hW9 : Chg [] w W9 := Chg.step kk4 hIc ⟨.inr (by omega), trivial⟩
 refine inN (nxt (wp_seq ?_))
 refine dReg ([w.heap.size]) (by kernel_rfl) ?_
 intro W12 ch11 sz5
 have zz12 := ch11.size
 have sS1 : Chg ([w.heap.size]) W12 W12 := (Chg.refl _).more (by simp)
 refine dV 0 31 (.slice A n c) rfl rfl (fun w' hw' => (load1 83 (.tmp 6) rfl (by kernel_rfl) ⟨W1.heap.size, 0, none⟩ (by kernel_rfl) (.slice A n c) ((cell_of_row _ _ 0 _ _ _ (Chg.hp hw' (Chg.hp ch11 hIp trivial) ⟨by omega, trivial⟩)).trans rfl))) sS1 ?_
 refine dV 2 33 (.slice A n c) rfl rfl (fun w' hw' => (load1 83 (.tmp 6) rfl (by kernel_rfl) ⟨W1.heap.size, 0, none⟩ (by kernel_rfl) (.slice A n c) ((cell_of_row _ _ 0 _ _ _ (Chg.hp hw' (Chg.hp ch11 hIp trivial) ⟨by omega, trivial⟩)).trans rfl))) sS1 ?_
 refine dV 3 34 (.int .i64 ((n : Nat) : Int)) rfl rfl (fun _ _ => by kernel_rfl) sS1 ?_
 refine dOp 1 (by kernel_rfl) ?_
 refine oCall (some 32) 43 [.const (.int .u8 32), .tmp 31] #[5, 83] [.int .u8 32, .slice A n c] rfl rfl (by kernel_rfl) rfl (by kernel_rfl) (by kernel_rfl) ?_
 have ow7 := (Mur.PartsA.chg hIo ch11 (Nat.le_refl _) (fun _ _ _ _ => trivial))
 obtain ⟨Sg1, hSg1, hSf1⟩ := Mur.PartsA.segs ow7
 have hSf1l : (Mur.flat Sg1).length ≤ 200 * 104 := by rw [hSf1, Mur.raws_length]; have := ow7.len; omega
 have kk18 := Chg.step hW9 ch11 trivial
 refine (Parts_any 32 Sg1 A n c W12 (HV.out.below (Chg.below0 kk18)) hSg1 (by omega) (by omega)).mono ?_
 rintro _ W13 ⟨dd1, hd1, hdl1, rfl, ch12⟩
 have zz13 := ch12.size
 have sS2 := Chg.step sS1 ch12 trivial
 refine ⟨_, rfl, sS2, ?_⟩
 refine dOp 4 (by kernel_rfl) ?_
 refine oExS none _ rfl rfl (by kernel_rfl) (Mur.storeAll 30 (.tmp 4) (.tmp 32) rfl w.heap.size (by kernel_rfl) dd1 32 hdl1 (by kernel_rfl) (by kernel_rfl) 30 #[.int .u8 0, .int .u8 0, .int .u8 0, .int .u8 0, .int .u8 0, .int .u8 0, .int .u8 0, .int .u8 0, .int .u8 0, .int .u8 0, .int .u8 0, .int .u8 0, .int .u8 0, .int .u8 0, .int .u8 0, .int .u8 0, .int .u8 0, .int .u8 0, .int .u8 0, .int .u8 0, .int .u8 0, .int .u8 0, .int .u8 0, .int .u8 0, .int .u8 0, .int .u8 0, .int .u8 0, .int .u8 0, .int .u8 0, .int .u8 0, .int .u8 0, .int .u8 0] (Chg.hp ch12 (Chg.hp ch11 hE0 trivial) trivial) rfl) ?_
 rintro W14 ⟨hb8, ch13⟩
 have zz14 := ch13.size
 have sS3 := Chg.step sS2 ch13 ⟨.inl (by simp), trivial⟩
 refine ⟨sS3, ?_⟩
 refine dV 5 5 (.int .i64 ((n : Nat) : Int)) rfl rfl (fun _ _ => by kernel_rfl) sS3 ?_
 refine dEnd (by kernel_rfl) (nxt (wp_ret (npR ?_)))
 refine retM D rfl (Chg.hp ch13 (Chg.hp ch12 (Chg.hp ch11 hKD trivial) trivial) ⟨by omega, trivial⟩) ?_
 intro W15 ch14
 have zz15 := ch14.size
 have hd_ : dd1 = Mur.sumL p L := by rw [hd1.out, hSf1, Mur.sumL_ok hpre1]; rfl
 have hn_ : (Mur.belowL p L).length = n := hIlen
 have kk19 := Chg.step kk18 ch12 trivial
 have kk20 := Chg.step kk19 ch13 ⟨.inr (by omega), trivial⟩
 have kk21 := Chg.step kk20 ch14 ⟨.inr (by omega), trivial⟩
 refine ⟨.tuple #[.agg ((b8s dd1).toArray), .int .i64 ((n : Nat) : Int)], Mur.results_dig rfl _ _ w.heap.size 30 _ (0, 0) _ (.int .i64 ((n : Nat) : Int)) (by kernel_rfl) (Chg.hp ch14 hb8 ⟨by omega, trivial⟩) Tryd.underlying30 rfl (by rw [List.size_toArray, Mur.b8s_length, hdl1]; kernel_rfl) (by kernel_rfl), ⟨dd1, Go.Lib.hid hd_, hdl1, ?_, kk21⟩⟩
 rw [hn_]
end Go.Proofs.YtfhneademopciaaDoor
