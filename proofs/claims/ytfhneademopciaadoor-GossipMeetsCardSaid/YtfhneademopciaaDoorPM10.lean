/- gossip: Clone, within, summary. slices.Chunk of results. slices.Clone of results that lie anywhere. Regions that draw their order, within the round of a range over a function. No program in sight. gossip: items. -/
import Derived.Test.YtfhneademopciaaDoorPM9
import Derived.Test.YtfhneademopciaaDoorPM5
import Derived.Test.YtfhneademopciaaDoorPM4
namespace Go.Proofs.YtfhneademopciaaDoor
open Go.RowKit
open Mur (b8s Byt Own8 Seg Segs flat cutA attC Att SlA OwnA rowA msgC)
set_option maxRecDepth 100000
set_option maxHeartbeats 4000000
def Within_F1 (b : Array Value) (u2 : Value) (u7 : Value) (u8 : Value) (u9 : Value) : Act := ⟨#[b.getD 0 undef, b.getD 1 undef, u2, b.getD 3 undef, b.getD 4 undef, b.getD 5 undef, b.getD 6 undef, u7, u8, u9, b.getD 10 undef, b.getD 11 undef, b.getD 12 undef, b.getD 13 undef, b.getD 14 undef, b.getD 15 undef, b.getD 16 undef, b.getD 17 undef, b.getD 18 undef, b.getD 19 undef, b.getD 20 undef, b.getD 21 undef, b.getD 22 undef, b.getD 23 undef, b.getD 24 undef, b.getD 25 undef, b.getD 26 undef, b.getD 27 undef], []⟩
theorem CloneB_any (l : List UInt8) (A : Option Addr) (n c : Nat) (w : World) (hb : Byt w A n l) (hnil : A = none → c = 0) (hn : n ≤ 100000) : Calls Tryd.prog 75 #[.slice A n c] w fun e w' => ∃ A1 n1 c1, e = .returned (.slice A1 n1 c1) ∧ Own8 w' w.heap.size 5 A1 n1 c1 l ∧ Wk.Chg [] w w' := by
 have hbl_ := hb.1
 rcases A with _ | ad_
 ·have hn0 : n = 0 := Nat.eq_zero_of_not_pos fun h_ => by obtain ⟨_, _, e_, _⟩ := hb.2 h_; cases e_
  have hc0 := hnil rfl
  subst hn0 hc0
  obtain rfl : l = [] := List.eq_nil_of_length_eq_zero hbl_
  refine calls_of_wp Tryd.func75 rfl ?_
  refine wp_seq (Wk.reg ?_)
  refine Wk.rP 0 2 (.slice none 0 0) rfl rfl ?_
  refine Wk.rEnd 1 rfl (Wk.nxt (wp_seq (wp_seq (Wk.reg ?_))))
  refine Wk.rP 0 3 (.slice none 0 0) rfl rfl ?_
  refine Wk.rP 1 4 (.bool true) rfl rfl ?_
  refine Wk.rEnd 2 rfl (Wk.nxt (wp_cond_true (by kernel_rfl) (wp_seq (Wk.reg ?_))))
  refine Wk.rP 0 2 (.slice none 0 0) rfl rfl ?_
  refine Wk.rEnd 1 rfl (Wk.nxt (wp_ret (Wk.thR ?_)))
  refine Wk.ret (.slice none 0 0) rfl (by kernel_rfl) ?_
  exact ⟨_, _, _, rfl, Mur.own8_nil _ _ _, (Wk.Chg.refl _)⟩
 refine calls_of_wp Tryd.func75 rfl ?_
 refine wp_seq (Wk.reg ?_)
 refine Wk.rP 0 2 (.slice none 0 0) rfl rfl ?_
 refine Wk.rEnd 1 rfl (Wk.nxt (wp_seq (wp_seq (Wk.reg ?_))))
 refine Wk.rP 0 3 (.slice (some ad_) n c) rfl rfl ?_
 refine Wk.rP 1 4 (.bool false) rfl rfl ?_
 refine Wk.rEnd 2 rfl (Wk.nxt (wp_cond_false (by kernel_rfl) (wp_skip (Wk.nxt (wp_seq (Wk.reg ?_))))))
 refine Wk.rEx 0 (some 5) _ rfl rfl (by kernel_rfl) (Wk.new_ex (.slice (some ⟨w.heap.size, 0, none⟩) 0 0) #[] 5 (by kernel_rfl)) ?_
 rintro _ W1 ⟨rfl, hb1, ch1, sz1⟩
 have zz1 := ch1.size
 refine Wk.rP 1 6 (.slice (some ad_) n c) rfl rfl ?_
 have ow1 := Mur.own8_empty hb1 (Nat.le_refl _)
 have kk1 : Wk.Chg [] w W1 := Wk.Chg.step ((Wk.Chg.refl _).more (by simp)) ch1 trivial
 refine Wk.rEx 2 (some 7) _ rfl rfl (by kernel_rfl) (Mur.append8 (.tmp 5) (.tmp 6) 38 5 rfl Tryd.underlying38 (by kernel_rfl) w.heap.size (some ⟨w.heap.size, 0, none⟩) 0 0 ([]) (some ad_) n c l (by kernel_rfl) (by kernel_rfl) ow1.own (Mur.byt_chg hb kk1 (fun g off e hl => trivial)) (fun h => by cases h) (by omega) (by omega) n (by omega) l rfl) ?_
 rintro _ W2 ⟨AA1, nn1, rfl, ow2, ch2, ha1⟩
 have zz2 := ch2.size
 have hq1 := ow2.nc
 have hq2 := ow2.cm
 refine Wk.rP 3 2 (.slice AA1 n nn1) rfl rfl ?_
 refine Wk.rEnd 4 rfl (Wk.nxt (wp_ret ?_))
 have kk2 := Wk.Chg.step kk1 ch2 (Wk.newOr_blk (fun g hg => by have := ow1.lt g hg; omega))
 refine Wk.ret (.slice AA1 n nn1) rfl (by kernel_rfl) ?_
 exact ⟨_, _, _, rfl, ow2, kk2⟩
theorem within_any (x : Att) (p : List UInt8) (PA : Option Addr) (pn pc : Nat) (w : World) (hb : Byt w PA pn p) (hn : pn ≤ 64) : Calls Tryd.prog 58 #[.agg (attC x.k x.r x.n x.t).toArray, .slice PA pn pc] w fun e w' => e = .returned (.bool (Mur.under p x.k)) ∧ Wk.Chg [] w w' := by
 have hpl_ := hb.1
 refine calls_of_wp Tryd.func58 rfl ?_
 refine wp_seq (Wk.reg ?_)
 refine Wk.rEx 0 (some 2) _ rfl rfl (by kernel_rfl) (Wk.new_ex (.pointer (some ⟨w.heap.size, 0, none⟩)) ((Mur.attC x.k x.r x.n x.t).toArray) 32 (by kernel_rfl)) ?_
 rintro _ W1 ⟨rfl, hb1, ch1, sz1⟩
 have zz1 := ch1.size
 refine Wk.rP 1 4 (.bool false) rfl rfl ?_
 refine Wk.rEnd 2 rfl (Wk.nxt (wp_seq (wp_seq (Wk.reg ?_))))
 refine Wk.rP 0 7 (.slice PA pn pc) rfl rfl ?_
 refine Wk.rP 1 8 (.int .i64 ((pn : Nat) : Int)) rfl rfl ?_
 refine Wk.rP 2 9 (.int .i64 0) rfl rfl ?_
 refine Wk.rEnd 3 rfl (Wk.nxt (wp_block ?_))
 refine Wk.loop (fun m_ a wr => ∃ (i : Nat), m_ = pn - i ∧ a = Within_F1 a.tmps (.pointer (some ⟨w.heap.size, 0, none⟩)) (.slice PA pn pc) (.int .i64 ((pn : Nat) : Int)) (.int .i64 ((i : Nat) : Int)) ∧ i ≤ pn ∧ (∀ j, j < i → Mur.nib x.k j = p.getD j 0) ∧ wr.heap[w.heap.size]? = some (.cells (Mur.attC x.k x.r x.n x.t).toArray 32 (0, 0)) ∧ Wk.Chg [] w wr) (pn - 0) ?_ ?_
 ·have kk1 : Wk.Chg [] w W1 := Wk.Chg.step ((Wk.Chg.refl _).more (by simp)) ch1 trivial
  refine ⟨0, rfl, by kernel_rfl, Nat.zero_le _, (fun j hj => by omega), hb1, kk1⟩
 rintro mm1 aa1 W2 ⟨i, hmm1, hF1, hi, hall, hX, HB⟩
 generalize aa1.tmps = bb1 at hF1
 subst hF1
 have hzB := HB.size
 by_cases hlt : i < pn
 ·obtain ⟨q2, off2, hA2, _⟩ := hb.2 (by omega)
  subst hA2
  refine wp_seq (Wk.reg ?_)
  refine Wk.rQ 0 10 (.bool true) rfl rfl (Wk.boolT (b := decide (((i : Nat) : Int) < ((pn : Nat) : Int))) (decide_eq_true (by omega)) (by kernel_rfl)) ?_
  refine Wk.rEnd 1 rfl (Wk.nxt (wp_seq (wp_cond_true (by kernel_rfl) (wp_skip (Wk.nxt (wp_seq (wp_block (wp_seq (Wk.reg ?_)))))))))
  refine Wk.rP 0 11 (.int .i64 ((i : Nat) : Int)) rfl rfl ?_
  refine Wk.rQ 1 12 (.pointer (some ⟨q2, off2 + i * 1, none⟩)) rfl rfl (Wk.index_sl 38 5 (.tmp 7) (.tmp 9) rfl Tryd.underlying38 1 (by kernel_rfl) q2 off2 pn pc i .i64 (by kernel_rfl) (by kernel_rfl) (by omega)) ?_
  refine Wk.rQ 2 13 (.int .u8 (((p.getD i 0).toNat : Nat) : Int)) rfl rfl (Wk.load1 5 (.tmp 12) rfl (by kernel_rfl) ⟨q2, off2 + i * 1, none⟩ (by kernel_rfl) (.int .u8 (((p.getD i 0).toNat : Nat) : Int)) (Mur.byt_cell (Mur.byt_chg hb HB (fun g off e hl => trivial)) i (by omega))) ?_
  refine Wk.rP 3 5 (.int .i64 ((i : Nat) : Int)) rfl rfl ?_
  refine Wk.rP 4 6 (.int .u8 (((p.getD i 0).toNat : Nat) : Int)) rfl rfl ?_
  refine Wk.rEnd 5 rfl (Wk.nxt (wp_seq (Wk.reg ?_)))
  refine Wk.rP 0 14 (.int .i64 ((i : Nat) : Int)) rfl rfl ?_
  refine Wk.rQ 1 15 (.int .i64 ((i / 2 : Nat) : Int)) rfl rfl (Mur.quo_nat 3 3 (.tmp 14) (.const (.int .i64 2)) rfl i 2 (by kernel_rfl) (by kernel_rfl) (by omega) (by omega)) ?_
  refine Wk.rP 2 16 (.pointer (some ⟨w.heap.size, 0, none⟩)) rfl rfl ?_
  refine Wk.rQ 3 17 (.pointer (some ⟨w.heap.size, 0 + (i / 2) * 1, none⟩)) rfl rfl (Wk.index_arr 30 5 (.tmp 16) (.tmp 15) rfl 32 Tryd.underlying30 1 (by kernel_rfl) w.heap.size 0 (i / 2) .i64 (by kernel_rfl) (by kernel_rfl) (by omega)) ?_
  refine Wk.rQ 4 18 (.int .u8 (((x.k.getD (i / 2) 0).toNat : Nat) : Int)) rfl rfl (Wk.load1 5 (.tmp 17) rfl (by kernel_rfl) ⟨w.heap.size, 0 + (i / 2) * 1, none⟩ (by kernel_rfl) (.int .u8 (((x.k.getD (i / 2) 0).toNat : Nat) : Int)) (show World.cell? _ ⟨_, 0 + 0 * 97 + i / 2 * 1, _⟩ = _ from Mur.SlA.kcell (Mur.slA_box x hX) (i := 0) rfl (j := i / 2) (by omega))) ?_
  refine Wk.rP 5 19 (.int .i64 ((i : Nat) : Int)) rfl rfl ?_
  refine Wk.rQ 6 20 (.int .i64 ((i % 2 : Nat) : Int)) rfl rfl (Wk.rem_nat 3 3 (.tmp 19) (.const (.int .i64 2)) rfl i 2 (by kernel_rfl) (by kernel_rfl) (by omega)) ?_
  refine Wk.rQ 7 21 (.int .i64 ((4 * (i % 2) : Nat) : Int)) rfl rfl (Wk.int64 (n := (4 : Int) * ((i % 2 : Nat) : Int)) (z := ((4 * (i % 2) : Nat) : Int)) (by omega) (by omega) (by omega) (by kernel_rfl)) ?_
  refine Wk.rQ 8 22 (.int .i64 ((4 - 4 * (i % 2) : Nat) : Int)) rfl rfl (Wk.int64 (n := (4 : Int) - ((4 * (i % 2) : Nat) : Int)) (z := ((4 - 4 * (i % 2) : Nat) : Int)) (by omega) (by omega) (by omega) (by kernel_rfl)) ?_
  refine Wk.rQ 9 23 (.int .u8 (((Mur.shn (x.k.getD (i / 2) 0) i).toNat : Nat) : Int)) rfl rfl (Mur.shr8_n 5 3 (.tmp 18) (.tmp 22) rfl (x.k.getD (i / 2) 0) i (by kernel_rfl) (by kernel_rfl)) ?_
  refine Wk.rQ 10 24 (.int .u8 (((Mur.shn (x.k.getD (i / 2) 0) i &&& 15).toNat : Nat) : Int)) rfl rfl (Mur.and8_15 5 5 (.tmp 23) (.const (.int .u8 15)) rfl (Mur.shn (x.k.getD (i / 2) 0) i) (by kernel_rfl) (by kernel_rfl)) ?_
  refine Wk.rP 11 25 (.int .u8 (((p.getD i 0).toNat : Nat) : Int)) rfl rfl ?_
  by_cases hx1 : (((Mur.shn (x.k.getD (i / 2) 0) i &&& 15).toNat : Nat) : Int) ≠ (((p.getD i 0).toNat : Nat) : Int)
  ·refine Wk.rQ 12 26 (.bool true) rfl rfl (Wk.boolT (b := ((((Mur.shn (x.k.getD (i / 2) 0) i &&& 15).toNat : Nat) : Int) != (((p.getD i 0).toNat : Nat) : Int))) (bne_iff_ne.2 (by first | exact hx1 | omega)) (by kernel_rfl)) ?_
   refine Wk.rEnd 13 rfl (Wk.nxt (wp_cond_true (by kernel_rfl) (wp_seq (Wk.reg ?_))))
   refine Wk.rP 0 4 (.bool false) rfl rfl ?_
   refine Wk.rEnd 1 rfl (Wk.nxt (wp_ret (Wk.inR (Wk.thR (Wk.thR (Wk.inR (Wk.thR ?_)))))))
   refine Wk.ret (.bool false) rfl (by kernel_rfl) ?_
   exact ⟨by rw [Mur.under_false (p := p) (k := x.k) (i := i) (by have := hb.1; omega) (fun q_ => hx1 (by rw [Mur.nib_shn] at q_; rw [q_]))], HB⟩
  refine Wk.rQ 12 26 (.bool false) rfl rfl (Wk.boolF (b := ((((Mur.shn (x.k.getD (i / 2) 0) i &&& 15).toNat : Nat) : Int) != (((p.getD i 0).toNat : Nat) : Int))) (bne_eq_false_iff_eq.2 (by first | exact hx1 | omega)) (by kernel_rfl)) ?_
  refine Wk.rEnd 13 rfl (Wk.nxt (wp_cond_false (by kernel_rfl) (wp_skip (Wk.inN (Wk.nxt (Wk.reg ?_))))))
  refine Wk.rQ 0 27 (.int .i64 ((i + 1 : Nat) : Int)) rfl rfl (Wk.int64 (n := ((i : Nat) : Int) + 1) (z := ((i + 1 : Nat) : Int)) (by omega) (by omega) (by omega) (by kernel_rfl)) ?_
  refine Wk.rP 1 9 (.int .i64 ((i + 1 : Nat) : Int)) rfl rfl ?_
  refine Wk.rEnd 2 rfl (Wk.nxt ?_)
  refine ⟨_, ?_, i + 1, rfl, by kernel_rfl, (by omega), (Mur.nib_step hall (by rw [Mur.nib_shn]; exact Mur.u8_cast_inj (Decidable.not_not.1 hx1))), hX, HB⟩
  omega
 have hun : Mur.under p x.k = true := Mur.under_all hb.1 (show pn ≤ i by omega) hall
 refine wp_seq (Wk.reg ?_)
 refine Wk.rQ 0 10 (.bool false) rfl rfl (Wk.boolF (b := decide (((i : Nat) : Int) < ((pn : Nat) : Int))) (decide_eq_false (by omega)) (by kernel_rfl)) ?_
 refine Wk.rEnd 1 rfl (Wk.nxt (wp_seq (wp_cond_false (by kernel_rfl) (wp_exit (Wk.thX (Wk.thX (Wk.inX (Wk.nxt (wp_seq (Wk.reg ?_))))))))))
 refine Wk.rP 0 4 (.bool true) rfl rfl ?_
 refine Wk.rEnd 1 rfl (Wk.nxt (wp_ret ?_))
 refine Wk.ret (.bool true) rfl (by kernel_rfl) ?_
 exact ⟨by rw [hun], HB⟩
theorem summary_any (lo : Nat) (L : List Att) (g : Nat) (F : List Nat) (p : List UInt8) (PA : Option Addr) (pn pc : Nat) (w : World) (hv : ShaVars w) (h : Mur.SetF 32 57 lo w g L F) (hb : Byt w PA pn p) (hnil : PA = none → pc = 0) (hn : pn ≤ 100000) : Calls Tryd.prog 74 #[.pointer (some ⟨g, 0, none⟩), .slice PA pn pc] w fun e w' => ∃ d P1 n1 c1, Hid (d = Mur.sumL p L) ∧ d.length = 32 ∧ e = .returned (.agg (msgC 1 P1 n1 c1 d (((Mur.belowL p L).length : Nat) : Int) none 0 0 false).toArray) ∧ Own8 w' w.heap.size 5 P1 n1 c1 p ∧ Wk.Chg [] w w' := by
 have HV := Go.Lib.hid hv
 clear hv
 have hM_ := Mur.SetF.mem h
 refine calls_of_wp Tryd.func74 rfl ?_
 refine wp_seq (Wk.reg ?_)
 refine Wk.rEx 0 (some 4) _ rfl rfl (by kernel_rfl) (Wk.new_ex (.pointer (some ⟨w.heap.size, 0, none⟩)) #[.int .u8 0, .slice none 0 0, .int .u8 0, .int .u8 0, .int .u8 0, .int .u8 0, .int .u8 0, .int .u8 0, .int .u8 0, .int .u8 0, .int .u8 0, .int .u8 0, .int .u8 0, .int .u8 0, .int .u8 0, .int .u8 0, .int .u8 0, .int .u8 0, .int .u8 0, .int .u8 0, .int .u8 0, .int .u8 0, .int .u8 0, .int .u8 0, .int .u8 0, .int .u8 0, .int .u8 0, .int .u8 0, .int .u8 0, .int .u8 0, .int .u8 0, .int .u8 0, .int .u8 0, .int .u8 0, .int .i64 0, .slice none 0 0, .bool false] 66 (by kernel_rfl)) ?_
 rintro _ W1 ⟨rfl, hb1, ch1, sz1⟩
 have zz1 := ch1.size
 refine Wk.rEnd 1 rfl (Wk.nxt (wp_seq (Wk.reg ?_)))
 refine Wk.rP 0 8 (.pointer (some ⟨g, 0, none⟩)) rfl rfl ?_
 refine Wk.rP 1 9 (.slice PA pn pc) rfl rfl ?_
 refine Wk.rC 2 10 16 [.tmp 8, .tmp 9] #[24, 38] [.pointer (some ⟨g, 0, none⟩), .slice PA pn pc] rfl rfl rfl ?_
 have kk1 : Wk.Chg [] w W1 := Wk.Chg.step ((Wk.Chg.refl _).more (by simp)) ch1 trivial
 have hD1 := Mur.SetF.chg h ch1 (fun s hs => trivial)
 refine (Sum_any lo L g F p PA pn pc W1 (HV.out.below (Wk.Chg.below0 kk1)) hD1 (Mur.byt_chg hb kk1 (fun g off e hl => trivial)) (by omega)).mono ?_
 rintro _ W2 ⟨dd1, hd1, hdl1, rfl, ch2⟩
 have zz2 := ch2.size
 refine ⟨_, rfl, ?_⟩
 refine Wk.rP 3 7 (.tuple #[.agg ((b8s dd1).toArray), .int .i64 (((Mur.belowL p L).length : Nat) : Int)]) rfl rfl ?_
 refine Wk.rP 4 11 (.agg ((b8s dd1).toArray)) rfl rfl ?_
 refine Wk.rP 5 12 (.int .i64 (((Mur.belowL p L).length : Nat) : Int)) rfl rfl ?_
 refine Wk.rEx 6 (some 5) _ rfl rfl (by kernel_rfl) (Wk.new_ex (.pointer (some ⟨W2.heap.size, 0, none⟩)) #[.int .u8 0, .int .u8 0, .int .u8 0, .int .u8 0, .int .u8 0, .int .u8 0, .int .u8 0, .int .u8 0, .int .u8 0, .int .u8 0, .int .u8 0, .int .u8 0, .int .u8 0, .int .u8 0, .int .u8 0, .int .u8 0, .int .u8 0, .int .u8 0, .int .u8 0, .int .u8 0, .int .u8 0, .int .u8 0, .int .u8 0, .int .u8 0, .int .u8 0, .int .u8 0, .int .u8 0, .int .u8 0, .int .u8 0, .int .u8 0, .int .u8 0, .int .u8 0] 30 (by kernel_rfl)) ?_
 rintro _ W3 ⟨rfl, hb2, ch3, sz2⟩
 have zz3 := ch3.size
 refine Wk.rExS 7 none _ rfl rfl (by kernel_rfl) (Mur.storeAll 30 (.tmp 5) (.tmp 11) rfl W2.heap.size (by kernel_rfl) dd1 32 hdl1 (by kernel_rfl) (by kernel_rfl) 30 #[.int .u8 0, .int .u8 0, .int .u8 0, .int .u8 0, .int .u8 0, .int .u8 0, .int .u8 0, .int .u8 0, .int .u8 0, .int .u8 0, .int .u8 0, .int .u8 0, .int .u8 0, .int .u8 0, .int .u8 0, .int .u8 0, .int .u8 0, .int .u8 0, .int .u8 0, .int .u8 0, .int .u8 0, .int .u8 0, .int .u8 0, .int .u8 0, .int .u8 0, .int .u8 0, .int .u8 0, .int .u8 0, .int .u8 0, .int .u8 0, .int .u8 0, .int .u8 0] hb2 rfl) ?_
 rintro W4 ⟨hb3, ch4⟩
 have zz4 := ch4.size
 refine Wk.rP 8 6 (.int .i64 (((Mur.belowL p L).length : Nat) : Int)) rfl rfl ?_
 refine Wk.rEnd 9 rfl (Wk.nxt (wp_seq ?_))
 refine Wk.dReg ([w.heap.size]) (by kernel_rfl) ?_
 intro W5 ch5 sz3
 have zz5 := ch5.size
 have sS1 : Wk.Chg ([w.heap.size]) W5 W5 := (Wk.Chg.refl _).more (by simp)
 refine Wk.dV 0 13 (.slice PA pn pc) rfl rfl (fun _ _ => by kernel_rfl) sS1 ?_
 refine Wk.dV 2 15 (.agg ((b8s dd1).toArray)) rfl rfl (fun w' hw' => (Mur.loadAll 30 (.tmp 5) rfl _ Tryd.underlying30 rfl W2.heap.size (by kernel_rfl) dd1 32 hdl1 (by kernel_rfl) 30 (0, 0) (Wk.Chg.hp hw' (Wk.Chg.hp ch5 hb3 trivial) ⟨by omega, trivial⟩))) sS1 ?_
 refine Wk.dV 3 16 (.int .i64 (((Mur.belowL p L).length : Nat) : Int)) rfl rfl (fun _ _ => by kernel_rfl) sS1 ?_
 refine Wk.dOp 1 (by kernel_rfl) ?_
 refine Wk.oCall (some 14) 75 [.tmp 13] #[38] [.slice PA pn pc] rfl rfl (by kernel_rfl) rfl (by kernel_rfl) (by kernel_rfl) ?_
 have kk2 := Wk.Chg.step kk1 ch2 trivial
 have kk3 := Wk.Chg.step kk2 ch3 trivial
 have kk4 := Wk.Chg.step kk3 ch4 ⟨.inr (by omega), trivial⟩
 have kk5 := Wk.Chg.step kk4 ch5 trivial
 refine (CloneB_any p PA pn pc W5 (Mur.byt_chg hb kk5 (fun g off e hl => trivial)) hnil (by omega)).mono ?_
 rintro _ W6 ⟨AA1, nn1, nn2, rfl, ow1, ch6⟩
 have zz6 := ch6.size
 have hq1 := ow1.byt.1
 have hq2 := ow1.nc
 have hq3 := ow1.cm
 have sS2 := Wk.Chg.step sS1 ch6 trivial
 refine ⟨_, rfl, sS2, ?_⟩
 refine Wk.dV 4 17 (.agg ((Mur.msgC 1 AA1 nn1 nn2 dd1 (((Mur.belowL p L).length : Nat) : Int) none 0 0 false).toArray)) rfl rfl (fun w' hw' => (Mur.run_built 66 _ rfl [(0, .int .u8 1), (1, .slice AA1 nn1 nn2), (2, .agg ((b8s dd1).toArray)), (3, .int .i64 (((Mur.belowL p L).length : Nat) : Int))] (by kernel_rfl) _ (built_summary hdl1 AA1 nn1 nn2 (((Mur.belowL p L).length : Nat) : Int)))) sS2 ?_
 refine Wk.dOp 5 (by kernel_rfl) ?_
 refine Wk.oExS none _ rfl rfl (by kernel_rfl) (Mur.storeArr 66 (.tmp 4) (.tmp 17) rfl w.heap.size (by kernel_rfl) (Mur.msgC 1 AA1 nn1 nn2 dd1 (((Mur.belowL p L).length : Nat) : Int) none 0 0 false).toArray 37 (Mur.msgC_size hdl1) Mur.msgC_all (by kernel_rfl) (by kernel_rfl) 66 #[.int .u8 0, .slice none 0 0, .int .u8 0, .int .u8 0, .int .u8 0, .int .u8 0, .int .u8 0, .int .u8 0, .int .u8 0, .int .u8 0, .int .u8 0, .int .u8 0, .int .u8 0, .int .u8 0, .int .u8 0, .int .u8 0, .int .u8 0, .int .u8 0, .int .u8 0, .int .u8 0, .int .u8 0, .int .u8 0, .int .u8 0, .int .u8 0, .int .u8 0, .int .u8 0, .int .u8 0, .int .u8 0, .int .u8 0, .int .u8 0, .int .u8 0, .int .u8 0, .int .u8 0, .int .u8 0, .int .i64 0, .slice none 0 0, .bool false] (Wk.Chg.hp ch6 (Wk.Chg.hp ch5 (Wk.Chg.hp ch4 (Wk.Chg.hp ch3 (Wk.Chg.hp ch2 hb1 trivial) trivial) ⟨by omega, trivial⟩) trivial) trivial) (by kernel_rfl)) ?_
 rintro W7 ⟨hb4, ch7⟩
 have zz7 := ch7.size
 have sS3 := Wk.Chg.step sS2 ch7 ⟨.inl (by simp), trivial⟩
 refine ⟨sS3, ?_⟩
 refine Wk.dEnd (by kernel_rfl) (Wk.nxt (wp_ret ?_))
 have ow2 := Mur.own8 (Wk.own_chg ow1.own ch7 (fun q e _ _ => ⟨by have := ow1.lt q e; omega, trivial⟩))
 have kk6 := Wk.Chg.step kk5 ch6 trivial
 have kk7 := Wk.Chg.step kk6 ch7 ⟨.inr (by omega), trivial⟩
 refine Wk.ret (.agg (Mur.msgC 1 AA1 nn1 nn2 dd1 (((Mur.belowL p L).length : Nat) : Int) none 0 0 false).toArray) rfl (results_cell_row rfl _ _ w.heap.size 66 (Mur.msgC 1 AA1 nn1 nn2 dd1 (((Mur.belowL p L).length : Nat) : Int) none 0 0 false).toArray (0, 0) _ (by kernel_rfl) hb4 Tryd.underlying66 rfl (by rw [(Mur.msgC_size hdl1)]; kernel_rfl)) ?_
 exact ⟨_, _, _, _, hd1, hdl1, rfl, Mur.own8_low ow2 (by omega), kk7⟩
end Go.Proofs.YtfhneademopciaaDoor
namespace Go.Proofs.YtfhneademopciaaDoor
open Go.RowKit
open Mur (b8s Byt Own8 Seg Segs flat cutA attC Att SlA OwnA rowA msgC)
set_option maxRecDepth 100000
set_option maxHeartbeats 4000000
def ChkS_F1 (b : Array Value) (u0 : Value) (u1 : Value) (u2 : Value) (u4 : Value) : Act := ⟨#[u0, u1, u2, b.getD 3 undef, u4, b.getD 5 undef, b.getD 6 undef, b.getD 7 undef, b.getD 8 undef, b.getD 9 undef, b.getD 10 undef, b.getD 11 undef, b.getD 12 undef, b.getD 13 undef, b.getD 14 undef, b.getD 15 undef, b.getD 16 undef, b.getD 17 undef, b.getD 18 undef, b.getD 19 undef, b.getD 20 undef, b.getD 21 undef, b.getD 22 undef, b.getD 23 undef, b.getD 24 undef, b.getD 25 undef, b.getD 26 undef, b.getD 27 undef, b.getD 28 undef, b.getD 29 undef, b.getD 30 undef], []⟩
theorem Chunk_any (A : Option Addr) (n c : Nat) (w : World) : Calls Tryd.prog 78 #[.slice A n c, .int .i64 8] w fun e w' => ∃ b1 b2, e = .returned (.func (.func 89) #[] #[.pointer (some ⟨b1, 0, none⟩), .pointer (some ⟨b2, 0, none⟩)]) ∧ w'.heap[b1]? = some (.cells #[.slice A n c] 22 (0, 0)) ∧ w'.heap[b2]? = some (.cells #[.int .i64 8] 3 (0, 0)) ∧ (w.heap.size ≤ b1 ∧ b1 < w'.heap.size) ∧ (w.heap.size ≤ b2 ∧ b2 < w'.heap.size) ∧ b1 ≠ b2 ∧ Wk.Chg [] w w' := by
 refine calls_of_wp Tryd.func78 rfl ?_
 refine wp_seq (Wk.reg ?_)
 refine Wk.rEx 0 (some 2) _ rfl rfl (by kernel_rfl) (Wk.new_ex (.pointer (some ⟨w.heap.size, 0, none⟩)) #[.slice A n c] 22 (by kernel_rfl)) ?_
 rintro _ W1 ⟨rfl, hb1, ch1, sz1⟩
 have zz1 := ch1.size
 refine Wk.rEx 1 (some 3) _ rfl rfl (by kernel_rfl) (Wk.new_ex (.pointer (some ⟨W1.heap.size, 0, none⟩)) #[.int .i64 8] 3 (by kernel_rfl)) ?_
 rintro _ W2 ⟨rfl, hb2, ch2, sz2⟩
 have zz2 := ch2.size
 refine Wk.rP 2 4 (.nilFunc) rfl rfl ?_
 refine Wk.rEnd 3 rfl (Wk.nxt (wp_seq (wp_seq (Wk.reg ?_))))
 refine Wk.rQ 0 5 (.int .i64 8) rfl rfl (Wk.load1 3 (.tmp 3) rfl (by kernel_rfl) ⟨W1.heap.size, 0, none⟩ (by kernel_rfl) (.int .i64 8) ((cell_of_row _ _ 0 _ _ _ hb2).trans rfl)) ?_
 refine Wk.rQ 1 6 (.bool false) rfl rfl (Wk.boolF (b := decide ((8 : Int) < (1 : Int))) (decide_eq_false (by decide)) (by kernel_rfl)) ?_
 refine Wk.rEnd 2 rfl (Wk.nxt (wp_cond_false (by kernel_rfl) (wp_skip (Wk.nxt (wp_seq (Wk.reg ?_))))))
 refine Wk.rP 0 8 (.func (.func 89) #[] #[.pointer (some ⟨w.heap.size, 0, none⟩), .pointer (some ⟨W1.heap.size, 0, none⟩)]) rfl rfl ?_
 refine Wk.rP 1 4 (.func (.func 89) #[] #[.pointer (some ⟨w.heap.size, 0, none⟩), .pointer (some ⟨W1.heap.size, 0, none⟩)]) rfl rfl ?_
 refine Wk.rEnd 2 rfl (Wk.nxt (wp_ret ?_))
 have kk1 : Wk.Chg [] w W1 := Wk.Chg.step ((Wk.Chg.refl _).more (by simp)) ch1 trivial
 have kk2 := Wk.Chg.step kk1 ch2 trivial
 refine Wk.ret (.func (.func 89) #[] #[.pointer (some ⟨w.heap.size, 0, none⟩), .pointer (some ⟨W1.heap.size, 0, none⟩)]) rfl (by kernel_rfl) ?_
 exact ⟨_, _, rfl, (Wk.Chg.hp ch2 hb1 trivial), hb2, ⟨by omega, by omega⟩, ⟨by omega, by omega⟩, by omega, kk2⟩
theorem chunk_seq (q off n c : Nat) (b1 b2 : Nat) (w : World) (hnc : n ≤ c ∧ n ≤ 1000000 ∧ c ≤ 9223372036854775807) (hX1 : w.heap[b1]? = some (.cells #[.slice (some ⟨q, off, none⟩) n c] 22 (0, 0))) (hX2 : w.heap[b2]? = some (.cells #[.int .i64 8] 3 (0, 0))) : Wk.Seq Tryd.prog 89 #[.pointer (some ⟨b1, 0, none⟩), .pointer (some ⟨b2, 0, none⟩)] (Mur.encC q off n) (List.range ((n + 7) / 8)) [b1, b2] w := by
 refine ⟨fun k_ hk_ => ?_, fun l J W hW hJ0 hY hJ => ?_⟩
 ·simp only [List.mem_cons, List.not_mem_nil, or_false] at hk_
  rcases hk_ with rfl | rfl
  ·exact (Array.getElem?_eq_some_iff.1 hX1).1
  exact (Array.getElem?_eq_some_iff.1 hX2).1
 replace hX1 := hW.hp hX1 (by simp)
 replace hX2 := hW.hp hX2 (by simp)
 have hFlt : ∀ k_, k_ ∈ [b1, b2] → k_ < W.heap.size := fun k_ hk_ => by
  simp only [List.mem_cons, List.not_mem_nil, or_false] at hk_
  rcases hk_ with rfl | rfl
  ·exact (Array.getElem?_eq_some_iff.1 hX1).1
  ·exact (Array.getElem?_eq_some_iff.1 hX2).1
 show Calls Tryd.prog 89 #[.func (.yield l) #[] #[], .pointer (some ⟨b1, 0, none⟩), .pointer (some ⟨b2, 0, none⟩)] W _
 refine calls_of_wp Tryd.func89 rfl ?_
 refine wp_seq (Wk.reg ?_)
 refine Wk.rP 0 4 (.int .i64 0) rfl rfl ?_
 refine Wk.rEnd 1 rfl (Wk.nxt (wp_block ?_))
 refine Wk.loop (fun m_ a wr => ∃ (k : Nat), m_ = n - 8 * k ∧ a = ChkS_F1 a.tmps (.func (.yield l) #[] #[]) (.pointer (some ⟨b1, 0, none⟩)) (.pointer (some ⟨b2, 0, none⟩)) (.int .i64 ((8 * k : Nat) : Int)) ∧ k ≤ (n + 7) / 8 ∧ J (List.range k) wr ∧ Wk.Keep [b1, b2] W wr ∧ W.heap.size ≤ wr.heap.size) (n - 8 * 0) ?_ ?_
 ·refine ⟨0, rfl, by kernel_rfl, Nat.zero_le _, hJ, Wk.Keep.refl _ _, Nat.le_refl _⟩
 rintro mm1 aa1 W1 ⟨k, hmm1, hF1, hk, hJk, hK, hsW⟩
 generalize aa1.tmps = bb1 at hF1
 subst hF1
 have hmb1 := hK.hp hX1 (by simp)
 have hmb2 := hK.hp hX2 (by simp)
 by_cases hlt : 8 * k < n
 ·obtain ⟨mz, hmz, hmz2⟩ : ∃ m_ : Nat, (if ((n - 8 * k : Nat) : Int) < (8 : Int) then ((n - 8 * k : Nat) : Int) else (8 : Int)) = ((m_ : Nat) : Int) ∧ m_ = min 8 (n - 8 * k) := ⟨min 8 (n - 8 * k), by split <;> omega, rfl⟩
  refine wp_seq (wp_seq (Wk.reg ?_))
  refine Wk.rP 0 6 (.int .i64 ((8 * k : Nat) : Int)) rfl rfl ?_
  refine Wk.rQ 1 7 (.slice (some ⟨q, off, none⟩) n c) rfl rfl (Wk.load1 22 (.tmp 1) rfl (by kernel_rfl) ⟨b1, 0, none⟩ (by kernel_rfl) (.slice (some ⟨q, off, none⟩) n c) ((cell_of_row _ _ 0 _ _ _ hmb1).trans rfl)) ?_
  refine Wk.rP 2 8 (.int .i64 ((n : Nat) : Int)) rfl rfl ?_
  refine Wk.rQ 3 9 (.bool true) rfl rfl (Wk.boolT (b := decide (((8 * k : Nat) : Int) < ((n : Nat) : Int))) (decide_eq_true (by omega)) (by kernel_rfl)) ?_
  refine Wk.rEnd 4 rfl (Wk.nxt (wp_cond_true (by kernel_rfl) (wp_skip (Wk.nxt (wp_seq (wp_block (wp_seq ?_)))))))
  refine Wk.dReg ([]) (by kernel_rfl) ?_
  intro W2 ch1 sz1
  have zz1 := ch1.size
  have sS1 : Wk.Chg ([]) W2 W2 := (Wk.Chg.refl _).more (by simp)
  have kk1 : Wk.Chg [] W1 W2 := Wk.Chg.step ((Wk.Chg.refl _).more (by simp)) ch1 trivial
  refine Wk.dV 0 13 (.int .i64 8) rfl rfl (fun w' hw' => (Wk.load1 3 (.tmp 2) rfl (by kernel_rfl) ⟨b2, 0, none⟩ (by kernel_rfl) (.int .i64 8) ((cell_of_row _ _ 0 _ _ _ (Wk.Chg.hp hw' (Wk.Chg.hp kk1 hmb2 trivial) trivial)).trans rfl))) sS1 ?_
  refine Wk.dV 1 14 (.slice (some ⟨q, off, none⟩) n c) rfl rfl (fun w' hw' => (Wk.load1 22 (.tmp 1) rfl (by kernel_rfl) ⟨b1, 0, none⟩ (by kernel_rfl) (.slice (some ⟨q, off, none⟩) n c) ((cell_of_row _ _ 0 _ _ _ (Wk.Chg.hp hw' (Wk.Chg.hp kk1 hmb1 trivial) trivial)).trans rfl))) sS1 ?_
  refine Wk.dV 2 15 (.int .i64 ((8 * k : Nat) : Int)) rfl rfl (fun _ _ => by kernel_rfl) sS1 ?_
  refine Wk.dV 3 16 (.slice (some ⟨q, off + 8 * k * 97, none⟩) (n - 8 * k) (c - 8 * k)) rfl rfl (fun w' hw' => (Mur.run_fromS 22 (.tmp 14) (.tmp 15) rfl 32 Tryd.underlying22 97 (by kernel_rfl) q off n c (8 * k) (by kernel_rfl) (by kernel_rfl) (by omega) (by omega) (n - 8 * k) rfl)) sS1 ?_
  refine Wk.dV 4 17 (.int .i64 ((n - 8 * k : Nat) : Int)) rfl rfl (fun _ _ => by kernel_rfl) sS1 ?_
  refine Wk.dV 5 18 (.int .i64 ((mz : Nat) : Int)) rfl rfl (fun w' hw' => (Wk.val (congrArg (Value.int .i64) hmz) (by kernel_rfl))) sS1 ?_
  refine Wk.dV 6 5 (.int .i64 ((mz : Nat) : Int)) rfl rfl (fun _ _ => by kernel_rfl) sS1 ?_
  refine Wk.dEnd (by kernel_rfl) (Wk.nxt (wp_seq (Wk.regW ?_)))
  refine Wk.iPure 0 (some 19) (.func (.yield l) #[] #[]) rfl rfl rfl (by kernel_rfl) (by kernel_rfl) ?_
  refine Wk.iPure 1 (some 20) (.slice (some ⟨q, off, none⟩) n c) rfl rfl rfl (by kernel_rfl) (Wk.load1 22 (.tmp 1) rfl (by kernel_rfl) ⟨b1, 0, none⟩ (by kernel_rfl) (.slice (some ⟨q, off, none⟩) n c) ((cell_of_row _ _ 0 _ _ _ (Wk.Chg.hp kk1 hmb1 trivial)).trans rfl)) ?_
  refine Wk.iPure 2 (some 21) (.int .i64 ((8 * k : Nat) : Int)) rfl rfl rfl (by kernel_rfl) (by kernel_rfl) ?_
  refine Wk.iPure 3 (some 22) (.int .i64 ((8 * k : Nat) : Int)) rfl rfl rfl (by kernel_rfl) (by kernel_rfl) ?_
  refine Wk.iPure 4 (some 23) (.int .i64 ((mz : Nat) : Int)) rfl rfl rfl (by kernel_rfl) (by kernel_rfl) ?_
  refine Wk.iPure 5 (some 24) (.int .i64 ((8 * k + mz : Nat) : Int)) rfl rfl rfl (by kernel_rfl) (Wk.int64 (n := ((8 * k : Nat) : Int) + ((mz : Nat) : Int)) (z := ((8 * k + mz : Nat) : Int)) (by omega) (by omega) (by omega) (by kernel_rfl)) ?_
  refine Wk.iPure 6 (some 25) (.int .i64 ((8 * k : Nat) : Int)) rfl rfl rfl (by kernel_rfl) (by kernel_rfl) ?_
  refine Wk.iPure 7 (some 26) (.int .i64 ((mz : Nat) : Int)) rfl rfl rfl (by kernel_rfl) (by kernel_rfl) ?_
  refine Wk.iPure 8 (some 27) (.int .i64 ((8 * k + mz : Nat) : Int)) rfl rfl rfl (by kernel_rfl) (Wk.int64 (n := ((8 * k : Nat) : Int) + ((mz : Nat) : Int)) (z := ((8 * k + mz : Nat) : Int)) (by omega) (by omega) (by omega) (by kernel_rfl)) ?_
  refine Wk.iPure 9 (some 28) (.slice (some ⟨q, off + 8 * k * 97, none⟩) mz mz) rfl rfl rfl (by kernel_rfl) (Mur.run_cutK 22 (.tmp 20) (.tmp 21) (.tmp 24) (.tmp 27) rfl 32 Tryd.underlying22 97 (by kernel_rfl) q off n c (8 * k) (8 * k + mz) (by kernel_rfl) (by kernel_rfl) (by kernel_rfl) (by kernel_rfl) (by omega) (by omega) mz (by omega)) ?_
  refine Wk.iYield 10 (some 29) (.tmp 19) l [.tmp 28] #[22] [.slice (some ⟨q, off + 8 * k * 97, none⟩) mz mz] rfl rfl (by kernel_rfl) rfl (by kernel_rfl) (by kernel_rfl) ((by have h_ := hY _ k _ _ (Mur.range_split (show k < (n + 7) / 8 by omega)) (hJ0 _ _ _ hJk kk1); unfold Mur.encC at h_; rw [← hmz2] at h_; exact h_)) ?_
  rintro _ W9_ ⟨rfl, hJ9, hK9⟩
  refine ⟨_, rfl, ?_⟩
  refine Wk.iPure 11 (some 30) (.bool false) rfl rfl rfl (by kernel_rfl) (by kernel_rfl) ?_
  refine Wk.iEnd 12 rfl (Wk.nxt (wp_cond_false (by kernel_rfl) (wp_skip (Wk.inN (Wk.nxt (Wk.reg ?_))))))
  refine Wk.rP 0 10 (.int .i64 ((8 * k : Nat) : Int)) rfl rfl ?_
  refine Wk.rQ 1 11 (.int .i64 8) rfl rfl (Wk.load1 3 (.tmp 2) rfl (by kernel_rfl) ⟨b2, 0, none⟩ (by kernel_rfl) (.int .i64 8) ((cell_of_row _ _ 0 _ _ _ (((hK.trans (Wk.Keep.of kk1 (fun k_ hk_ => Nat.lt_of_lt_of_le (hFlt k_ hk_) hsW) (fun _ _ => trivial))).trans hK9).hp hX2 (by simp))).trans rfl)) ?_
  refine Wk.rQ 2 12 (.int .i64 ((8 * (k + 1) : Nat) : Int)) rfl rfl (Wk.int64 (n := ((8 * k : Nat) : Int) + 8) (z := ((8 * (k + 1) : Nat) : Int)) (by omega) (by omega) (by omega) (by kernel_rfl)) ?_
  refine Wk.rP 3 4 (.int .i64 ((8 * (k + 1) : Nat) : Int)) rfl rfl ?_
  refine Wk.rEnd 4 rfl (Wk.nxt ?_)
  refine ⟨_, ?_, k + 1, rfl, by kernel_rfl, (by omega), (by rw [List.range_succ]; exact hJ9), ((hK.trans (Wk.Keep.of kk1 (fun k_ hk_ => Nat.lt_of_lt_of_le (hFlt k_ hk_) hsW) (fun _ _ => trivial))).trans hK9), (by have := hK.size; have := hK9.size; omega)⟩
  omega
 obtain rfl : k = (n + 7) / 8 := by omega
 refine wp_seq (wp_seq (Wk.reg ?_))
 refine Wk.rP 0 6 (.int .i64 ((8 * ((n + 7) / 8) : Nat) : Int)) rfl rfl ?_
 refine Wk.rQ 1 7 (.slice (some ⟨q, off, none⟩) n c) rfl rfl (Wk.load1 22 (.tmp 1) rfl (by kernel_rfl) ⟨b1, 0, none⟩ (by kernel_rfl) (.slice (some ⟨q, off, none⟩) n c) ((cell_of_row _ _ 0 _ _ _ hmb1).trans rfl)) ?_
 refine Wk.rP 2 8 (.int .i64 ((n : Nat) : Int)) rfl rfl ?_
 refine Wk.rQ 3 9 (.bool false) rfl rfl (Wk.boolF (b := decide (((8 * ((n + 7) / 8) : Nat) : Int) < ((n : Nat) : Int))) (decide_eq_false (by omega)) (by kernel_rfl)) ?_
 refine Wk.rEnd 4 rfl (Wk.nxt (wp_cond_false (by kernel_rfl) (wp_exit (Wk.thX (Wk.thX (Wk.inX ?_))))))
 refine Wk.retN (.tuple #[]) rfl (by kernel_rfl) ?_
 exact ⟨⟨_, rfl⟩, hJk⟩
theorem chunk_seq0 (A : Option Addr) (c : Nat) (b1 b2 : Nat) (w : World) (enc : Nat → Array Value) (hX1 : w.heap[b1]? = some (.cells #[.slice A 0 c] 22 (0, 0))) (hX2 : w.heap[b2]? = some (.cells #[.int .i64 8] 3 (0, 0))) : Wk.Seq Tryd.prog 89 #[.pointer (some ⟨b1, 0, none⟩), .pointer (some ⟨b2, 0, none⟩)] enc ([] : List Nat) [b1, b2] w := by
 refine ⟨fun k_ hk_ => ?_, fun l J W hW hJ0 hY hJ => ?_⟩
 ·simp only [List.mem_cons, List.not_mem_nil, or_false] at hk_
  rcases hk_ with rfl | rfl
  ·exact (Array.getElem?_eq_some_iff.1 hX1).1
  exact (Array.getElem?_eq_some_iff.1 hX2).1
 replace hX1 := hW.hp hX1 (by simp)
 replace hX2 := hW.hp hX2 (by simp)
 show Calls Tryd.prog 89 #[.func (.yield l) #[] #[], .pointer (some ⟨b1, 0, none⟩), .pointer (some ⟨b2, 0, none⟩)] W _
 refine calls_of_wp Tryd.func89 rfl ?_
 refine wp_seq (Wk.reg ?_)
 refine Wk.rP 0 4 (.int .i64 0) rfl rfl ?_
 refine Wk.rEnd 1 rfl (Wk.nxt (wp_block ?_))
 refine Wk.loopN 1 ?_
 refine Wk.rdS (wp_seq (wp_seq (Wk.reg ?_)))
 refine Wk.rP 0 6 (.int .i64 0) rfl rfl ?_
 refine Wk.rQ 1 7 (.slice A 0 c) rfl rfl (Wk.load1 22 (.tmp 1) rfl (by kernel_rfl) ⟨b1, 0, none⟩ (by kernel_rfl) (.slice A 0 c) ((cell_of_row _ _ 0 _ _ _ hX1).trans rfl)) ?_
 refine Wk.rP 2 8 (.int .i64 0) rfl rfl ?_
 refine Wk.rQ 3 9 (.bool false) rfl rfl (Wk.boolF (b := decide ((0 : Int) < (0 : Int))) (decide_eq_false (by decide)) (by kernel_rfl)) ?_
 refine Wk.rEnd 4 rfl (Wk.nxt (wp_cond_false (by kernel_rfl) (wp_exit (Wk.thX (Wk.thX (Wk.inX ?_))))))
 refine Wk.retN (.tuple #[]) rfl (by kernel_rfl) ?_
 exact ⟨⟨_, rfl⟩, hJ⟩
end Go.Proofs.YtfhneademopciaaDoor
namespace Go.Proofs.YtfhneademopciaaDoor
open Go.RowKit
open Mur (b8s Byt Own8 Seg Segs flat cutA attC Att SlA OwnA rowA msgC)
set_option maxRecDepth 100000
set_option maxHeartbeats 4000000
theorem CloneS_any (q off n c : Nat) (L : List Att) (w : World) (h : SlA w (some ⟨q, off, none⟩) n L) (hn : n ≤ 300) : Calls Tryd.prog 51 #[.slice (some ⟨q, off, none⟩) n c] w fun e w' => ∃ A1 c1, e = .returned (.slice A1 n c1) ∧ OwnA w' w.heap.size 32 A1 n c1 L ∧ Wk.Chg [] w w' := by
 have hOl := h.len
 refine calls_of_wp Tryd.func51 rfl ?_
 refine wp_seq (Wk.reg ?_)
 refine Wk.rP 0 2 (.slice none 0 0) rfl rfl ?_
 refine Wk.rEnd 1 rfl (Wk.nxt (wp_seq (wp_seq (Wk.reg ?_))))
 refine Wk.rP 0 3 (.slice (some ⟨q, off, none⟩) n c) rfl rfl ?_
 refine Wk.rP 1 4 (.bool false) rfl rfl ?_
 refine Wk.rEnd 2 rfl (Wk.nxt (wp_cond_false (by kernel_rfl) (wp_skip (Wk.nxt (wp_seq (Wk.reg ?_))))))
 refine Wk.rEx 0 (some 5) _ rfl rfl (by kernel_rfl) (Wk.new_ex (.slice (some ⟨w.heap.size, 0, none⟩) 0 0) #[] 32 (by kernel_rfl)) ?_
 rintro _ W1 ⟨rfl, hb1, ch1, sz1⟩
 have zz1 := ch1.size
 refine Wk.rP 1 6 (.slice (some ⟨q, off, none⟩) n c) rfl rfl ?_
 have ow1 := Mur.ownA_empty hb1 (Nat.le_refl _)
 have kk1 : Wk.Chg [] w W1 := Wk.Chg.step ((Wk.Chg.refl _).more (by simp)) ch1 trivial
 refine Wk.rEx 2 (some 7) _ rfl rfl (by kernel_rfl) (Mur.appendA (.tmp 5) (.tmp 6) 22 32 rfl Tryd.underlying22 attI w.heap.size (some ⟨w.heap.size, 0, none⟩) 0 0 ([]) (some ⟨q, off, none⟩) n c L (by kernel_rfl) (by kernel_rfl) ow1 (Mur.SlA.chg h kk1 (fun g off e hl => trivial)) (fun h => by cases h) (by omega) (by omega) n (by omega) L rfl) ?_
 rintro _ W2 ⟨AA1, nn1, rfl, ow2, ch2, ha1⟩
 have zz2 := ch2.size
 have hq1 := ow2.nc
 have hq2 := ow2.cm
 refine Wk.rP 3 2 (.slice AA1 n nn1) rfl rfl ?_
 refine Wk.rEnd 4 rfl (Wk.nxt (wp_ret ?_))
 have kk2 := Wk.Chg.step kk1 ch2 (Wk.newOr_blk (fun g hg => by have := ow1.lt g hg; omega))
 refine Wk.ret (.slice AA1 n nn1) rfl (by kernel_rfl) ?_
 exact ⟨_, _, rfl, ow2, kk2⟩
end Go.Proofs.YtfhneademopciaaDoor
namespace Wk
open Go
/-- The ways out by a panic, or by what is too large, shut. -/
def shut (Q : Exit → Act → World → Prop) : Exit → Act → World → Prop
  | .panic _, _, _ => False
  | .outgrown, _, _ => False
  | e, a, w => Q e a w
section
variable {r : Option Nat} {P : Program} {ops : Array Oper} {Q : Exit → Act → World → Prop} {a : Act} {w : World} {S : World → Prop}
theorem shut_le {e : Exit} (h : shut Q e a w) : Q e a w := by
  cases e with
  | panic _ => exact h.elim
  | outgrown => exact h.elim
  | _ => exact h
theorem shut_no : ¬ LetsOut (shut Q) := fun ⟨_, _, h⟩ => h
theorem rows_wf {row : String} {args : Array Value} {R : Value → World → Prop} (h : Rows P row args w R) : RowsIn (WF r) 0 P row args w R :=
  fun c cs _ => let ⟨v, w', k, s⟩ := h c cs; ⟨v, w', k, stepsIn_wide.2 s⟩
theorem opsIn_of (hno : ¬ LetsOut Q) (hd : ops.all (fun o => noDefer o.op) = true) : ∀ (l : List Nat) (a : Act) (w : World), wpOps P ops Q l a w → wpOpsIn (WF r) 0 P ops Q l a w
  | [], _, _, h => h
  | i :: l, a, w, h => by
    unfold wpOps at h
    unfold wpOpsIn
    cases ho : ops[i]? with
    | none =>
      simp only [ho] at h ⊢
      exact opsIn_of hno hd l a w h
    | some o =>
      simp only [ho] at h ⊢
      have hn : noDefer o.op = true := (Array.all_eq_true_iff_forall_mem.1 hd) o (Array.mem_of_getElem? ho)
      by_cases hw : Region.wanted o (yielded ops a.tmps) = true
      · rw [if_pos hw] at h ⊢
        rcases h with h | ⟨_, h⟩
        · refine ⟨fun _ _ => trivial, ?_⟩
          rw [semAt_any hn]
          unfold Oper.wp at h
          generalize (execOp a.eval o).run P w = x at h ⊢
          cases x with
          | ok x w1 =>
            cases x with
            | value v => exact opsIn_of hno hd l _ _ h
            | skip => exact opsIn_of hno hd l _ _ h
            | defer d => exact opsIn_of hno hd l _ _ h
            | enter f args =>
              refine ⟨fun h => (by cases h), calls_wf (Calls.mono h ?_)⟩
              intro e w2 k
              cases e with
              | returned v => exact opsIn_of hno hd l _ _ k
              | panicked c => exact k
              | outgrown => exact k
            | row row args => exact ⟨fun h => (by cases h), rows_wf (Rows.mono h fun v w2 k => opsIn_of hno hd l _ _ k)⟩
            | _ => exact h.elim
          | halt x w1 =>
            cases x with
            | panic v => exact h
            | _ => exact h.elim
        · exact absurd h hno
      · rw [if_neg hw] at h ⊢
        exact ⟨fun _ _ => trivial, opsIn_of hno hd l _ _ h⟩
theorem dRegI {id : Nat} (S : List Nat) (hm : P.follows .mixedOrders = true) (hd : ops.all (fun o => noDefer o.op) = true)
    (h : ∀ w1, Chg [] w w1 → w1.heap.size = w.heap.size → wpAnyH P .any ops (shut Q) (fun w' => Chg S w1 w') ops.size (Array.replicate ops.size false) a w1) : (Code.region id ops true).wpIn (WF r) 0 P Q a w := by
  refine wpIn_mono (wpIn_region_draw (Q := shut Q) fun t => opsIn_of shut_no hd _ _ _ ?_) fun e a w k => shut_le k
  simp only [Region.schedule, hm, Bool.true_or, if_true]
  exact wpAny_sound ops.size t _ a _ (wpAny_of_held _ _ _ _ (h w.drew (Chg.drew w) rfl))
theorem dEndI {fuel : Nat} {listed : Array Bool} (hr : Region.ready .any ops listed = []) (h : Q .normal a w) : wpAnyH P .any ops (shut Q) S fuel listed a w := wpAnyH_done (Q := shut Q) hr h _
end
end Wk
namespace Go.Proofs.YtfhneademopciaaDoor
open Go.RowKit
open Mur (b8s Byt Own8 Seg Segs flat cutA attC Att SlA OwnA rowA msgC)
set_option maxRecDepth 100000
set_option maxHeartbeats 4000000
theorem items_any (p : List UInt8) (PA : Option Addr) (pn pc : Nat) (A : Option Addr) (n0 c0 : Nat) (L : List Att) (b : Bool) (w : World) (hb : Byt w PA pn p) (hnil : PA = none → pc = 0) (hpn : pn ≤ 1000) (hl : SlA w A n0 L) (hnc : n0 ≤ c0 ∧ n0 ≤ 1000 ∧ c0 ≤ 9223372036854775807) : Calls Tryd.prog 57 #[.slice PA pn pc, .slice A n0 c0, .bool b] w fun e w' => ∃ A1 n1 c1, e = .returned (.slice A1 n1 c1) ∧ Mur.MsgA w' w.heap.size 66 A1 n1 c1 (Mur.itemsM p L b) ∧ Wk.Chg [] w w' := by
 have hlL_ := hl.len
 rcases Nat.eq_zero_or_pos n0 with h0_ | h0_
 ·subst h0_
  refine Wk.calls_of_wpM Tryd.func57 rfl ?_
  refine Wk.noP ?_
  refine wp_seq (Wk.reg ?_)
  refine Wk.rEx 0 (some 3) _ rfl rfl (by kernel_rfl) (Wk.new_ex (.pointer (some ⟨w.heap.size, 0, none⟩)) #[.slice PA pn pc] 38 (by kernel_rfl)) ?_
  rintro _ W1 ⟨rfl, hb1, ch1, sz1⟩
  have zz1 := ch1.size
  refine Wk.rEx 1 (some 5) _ rfl rfl (by kernel_rfl) (Wk.new_ex (.pointer (some ⟨W1.heap.size, 0, none⟩)) #[.bool b] 4 (by kernel_rfl)) ?_
  rintro _ W2 ⟨rfl, hb2, ch2, sz2⟩
  have zz2 := ch2.size
  refine Wk.rEx 2 (some 6) _ rfl rfl (by kernel_rfl) (Wk.new_ex (.pointer (some ⟨W2.heap.size, 0, none⟩)) #[.slice none 0 0] 67 (by kernel_rfl)) ?_
  rintro _ W3 ⟨rfl, hb3, ch3, sz3⟩
  have zz3 := ch3.size
  refine Wk.rEnd 3 rfl (Wk.nxt (wp_seq (wp_seq (Wk.reg ?_))))
  refine Wk.rP 0 8 (.slice A 0 c0) rfl rfl ?_
  refine Wk.rC 1 9 78 [.tmp 8, .const (.int .i64 8)] #[22, 3] [.slice A 0 c0, .int .i64 8] rfl rfl rfl ?_
  refine (Chunk_any A 0 c0 W3).mono ?_
  rintro _ W4 ⟨bq1, bq2, rfl, hbq1, hbq2, hzq1, hzq2, hzq3, ch4⟩
  have zz4 := ch4.size
  refine ⟨_, rfl, ?_⟩
  refine Wk.rEnd 2 rfl (Wk.nxt (wp_block ?_))
  have kk1 : Wk.Chg [] w W1 := Wk.Chg.step ((Wk.Chg.refl _).more (by simp)) ch1 trivial
  have kk2 := Wk.Chg.step kk1 ch2 trivial
  have kk3 := Wk.Chg.step kk2 ch3 trivial
  have kk4 := Wk.Chg.step kk3 ch4 trivial
  have hseq1 := chunk_seq0 A c0 bq1 bq2 W4 (Mur.encC 0 0 0) hbq1 hbq2
  have hFw := hseq1.1
  have hFb_ : ∀ k_, k_ ∈ [bq1, bq2] → k_ ≠ W2.heap.size := fun k_ hk_ => by
   simp only [List.mem_cons, List.not_mem_nil, or_false] at hk_
   rcases hk_ with rfl | rfl <;> omega
  refine Wk.range (hseq1) (by kernel_rfl) (fun _ _ => by kernel_rfl) (fun x => rfl) (fun pre W' => ∃ A n c, W'.heap[W2.heap.size]? = some (.cells #[.slice A n c] 67 (0, 0)) ∧ Mur.MsgA W' W4.heap.size 66 A n c (pre.map (Mur.chunkM p L b)) ∧ Wk.Chg [W2.heap.size] W4 W' ∧ W'.heap[w.heap.size]? = some (.cells #[.slice PA pn pc] 38 (0, 0)) ∧ W'.heap[W1.heap.size]? = some (.cells #[.bool b] 4 (0, 0))) ?_ ?_ ?_ ?_ ?_
  ·rintro pre A1_ A2_ ⟨A, n, c, h1, h2, h3, hE0, hE1⟩ hc
   exact ⟨A, n, c, hc.hp h1 trivial, h2.chg hc (fun _ _ _ _ => trivial), h3.step hc trivial, hc.hp hE0 trivial, hc.hp hE1 trivial⟩
  ·rintro pre A1_ A2_ r_ o_ ⟨A, n, c, h1, h2, h3, hE0, hE1⟩ hr ho hoc hc
   exact ⟨A, n, c, hc.hp h1 ⟨Mur.cells_ne h1 ho hoc, trivial⟩, h2.chg hc (fun q _ _ k_ => ⟨Mur.off_noncells ho hoc k_, trivial⟩), h3.step hc ⟨.inr hr, trivial⟩, hc.hp hE0 ⟨Mur.cells_ne hE0 ho hoc, trivial⟩, hc.hp hE1 ⟨Mur.cells_ne hE1 ho hoc, trivial⟩⟩
  ·exact ⟨none, 0, 0, (Wk.Chg.hp ch4 hb3 trivial), Mur.msgA_nil _ _ _, (Wk.Chg.refl _).more (by simp), (Wk.Chg.hp ch4 (Wk.Chg.hp ch3 (Wk.Chg.hp ch2 hb1 trivial) trivial) trivial), (Wk.Chg.hp ch4 (Wk.Chg.hp ch3 hb2 trivial) trivial)⟩
  ·intro lz pre x post A1 hsp hI hwl hlA hlz
   exact absurd hsp (by simp)
  intro D W9 hI hwD hKD
  obtain ⟨A, n, c, hIp, hIo, hIc, hE0, hE1⟩ := hI
  have hlhE0_ := (Array.getElem?_eq_some_iff.1 hE0).1
  have hlhE1_ := (Array.getElem?_eq_some_iff.1 hE1).1
  have hzI_ := hIc.size
  have hIlen := hIo.len
  have hInc := hIo.nc
  have hbl_ := (Array.getElem?_eq_some_iff.1 hIp).1
  have hbD := Mur.cells_ne hIp hKD rfl
  have hDl := (Array.getElem?_eq_some_iff.1 hKD).1
  have hbDhE0 := Mur.cells_ne hE0 hKD rfl
  have hbDhE1 := Mur.cells_ne hE1 hKD rfl
  have hW9 : Wk.Chg [] w W9 := Wk.Chg.step kk4 hIc ⟨.inr (by omega), trivial⟩
  refine Wk.inN (Wk.nxt (wp_seq (Wk.reg ?_)))
  refine Wk.rQ 0 20 (.slice A n c) rfl rfl (Wk.load1 67 (.tmp 6) rfl (by kernel_rfl) ⟨W2.heap.size, 0, none⟩ (by kernel_rfl) (.slice A n c) ((cell_of_row _ _ 0 _ _ _ hIp).trans rfl)) ?_
  refine Wk.rExS 1 none _ rfl rfl (by kernel_rfl) (Wk.store1 67 (.tmp 6) (.tmp 20) rfl (by kernel_rfl) W2.heap.size 0 (by kernel_rfl) (.slice A n c) (by kernel_rfl) rfl 67 #[.slice A n c] hIp (by simp)) ?_
  rintro W5 ⟨hb4, ch5⟩
  replace hb4 : W5.heap[W2.heap.size]? = some (.cells #[.slice A n c] 67 (0, 0)) := hb4
  have zz5 := ch5.size
  refine Wk.rEnd 2 rfl (Wk.nxt (wp_ret (Wk.npR ?_)))
  refine Wk.retM D rfl (Wk.Chg.hp ch5 hKD ⟨by omega, trivial⟩) ?_
  intro W6 ch6
  have zz6 := ch6.size
  have ow1 := (Mur.MsgA.chg hIo ch5 (fun q_ k1_ k2_ _ => ⟨by omega, trivial⟩))
  have ow2 := (Mur.MsgA.chg ow1 ch6 (fun q_ _ _ k_ => ⟨Mur.off_noncells (Wk.Chg.hp ch5 hKD ⟨by omega, trivial⟩) rfl k_, trivial⟩))
  have kk5 := Wk.Chg.step hW9 ch5 ⟨.inr (by omega), trivial⟩
  have kk6 := Wk.Chg.step kk5 ch6 ⟨.inr (by omega), trivial⟩
  refine ⟨.slice A n c, Mur.results_sl rfl _ _ W2.heap.size 67 (.slice A n c) (0, 0) (by kernel_rfl) (Wk.Chg.hp ch6 hb4 ⟨by omega, trivial⟩) (by kernel_rfl), ⟨_, _, _, rfl, ?_, kk6⟩⟩
  exact Mur.MsgA.low (by rw [← Mur.chunkM_all, hlL_]; exact ow2) (by omega)
 obtain ⟨q, off, hA_, hr_⟩ := hl.ex h0_
 subst hA_
 have hql_ := hl.lt h0_
 refine Wk.calls_of_wpM Tryd.func57 rfl ?_
 refine Wk.noP ?_
 refine wp_seq (Wk.reg ?_)
 refine Wk.rEx 0 (some 3) _ rfl rfl (by kernel_rfl) (Wk.new_ex (.pointer (some ⟨w.heap.size, 0, none⟩)) #[.slice PA pn pc] 38 (by kernel_rfl)) ?_
 rintro _ W7 ⟨rfl, hb5, ch7, sz4⟩
 have zz7 := ch7.size
 refine Wk.rEx 1 (some 5) _ rfl rfl (by kernel_rfl) (Wk.new_ex (.pointer (some ⟨W7.heap.size, 0, none⟩)) #[.bool b] 4 (by kernel_rfl)) ?_
 rintro _ W8 ⟨rfl, hb6, ch8, sz5⟩
 have zz8 := ch8.size
 refine Wk.rEx 2 (some 6) _ rfl rfl (by kernel_rfl) (Wk.new_ex (.pointer (some ⟨W8.heap.size, 0, none⟩)) #[.slice none 0 0] 67 (by kernel_rfl)) ?_
 rintro _ W10 ⟨rfl, hb7, ch9, sz6⟩
 have zz9 := ch9.size
 refine Wk.rEnd 3 rfl (Wk.nxt (wp_seq (wp_seq (Wk.reg ?_))))
 refine Wk.rP 0 8 (.slice (some ⟨q, off, none⟩) n0 c0) rfl rfl ?_
 refine Wk.rC 1 9 78 [.tmp 8, .const (.int .i64 8)] #[22, 3] [.slice (some ⟨q, off, none⟩) n0 c0, .int .i64 8] rfl rfl rfl ?_
 refine (Chunk_any (some ⟨q, off, none⟩) n0 c0 W10).mono ?_
 rintro _ W11 ⟨bq3, bq4, rfl, hbq3, hbq4, hzq4, hzq5, hzq6, ch10⟩
 have zz10 := ch10.size
 refine ⟨_, rfl, ?_⟩
 refine Wk.rEnd 2 rfl (Wk.nxt (wp_block ?_))
 have kk7 : Wk.Chg [] w W7 := Wk.Chg.step ((Wk.Chg.refl _).more (by simp)) ch7 trivial
 have kk8 := Wk.Chg.step kk7 ch8 trivial
 have kk9 := Wk.Chg.step kk8 ch9 trivial
 have kk10 := Wk.Chg.step kk9 ch10 trivial
 have hseq2 := chunk_seq q off n0 c0 bq3 bq4 W11 (by omega) hbq3 hbq4
 have hFw := hseq2.1
 have hFb_ : ∀ k_, k_ ∈ [bq3, bq4] → k_ ≠ W8.heap.size := fun k_ hk_ => by
  simp only [List.mem_cons, List.not_mem_nil, or_false] at hk_
  rcases hk_ with rfl | rfl <;> omega
 refine Wk.range (hseq2) (by kernel_rfl) (fun _ _ => by kernel_rfl) (fun x => rfl) (fun pre W' => ∃ A n c, W'.heap[W8.heap.size]? = some (.cells #[.slice A n c] 67 (0, 0)) ∧ Mur.MsgA W' W11.heap.size 66 A n c (pre.map (Mur.chunkM p L b)) ∧ Wk.Chg [W8.heap.size] W11 W' ∧ W'.heap[w.heap.size]? = some (.cells #[.slice PA pn pc] 38 (0, 0)) ∧ W'.heap[W7.heap.size]? = some (.cells #[.bool b] 4 (0, 0))) ?_ ?_ ?_ ?_ ?_
 ·rintro pre A1_ A2_ ⟨A, n, c, h1, h2, h3, hE0, hE1⟩ hc
  exact ⟨A, n, c, hc.hp h1 trivial, h2.chg hc (fun _ _ _ _ => trivial), h3.step hc trivial, hc.hp hE0 trivial, hc.hp hE1 trivial⟩
 ·rintro pre A1_ A2_ r_ o_ ⟨A, n, c, h1, h2, h3, hE0, hE1⟩ hr ho hoc hc
  exact ⟨A, n, c, hc.hp h1 ⟨Mur.cells_ne h1 ho hoc, trivial⟩, h2.chg hc (fun q _ _ k_ => ⟨Mur.off_noncells ho hoc k_, trivial⟩), h3.step hc ⟨.inr hr, trivial⟩, hc.hp hE0 ⟨Mur.cells_ne hE0 ho hoc, trivial⟩, hc.hp hE1 ⟨Mur.cells_ne hE1 ho hoc, trivial⟩⟩
 ·exact ⟨none, 0, 0, (Wk.Chg.hp ch10 hb7 trivial), Mur.msgA_nil _ _ _, (Wk.Chg.refl _).more (by simp), (Wk.Chg.hp ch10 (Wk.Chg.hp ch9 (Wk.Chg.hp ch8 hb5 trivial) trivial) trivial), (Wk.Chg.hp ch10 (Wk.Chg.hp ch9 hb6 trivial) trivial)⟩
 ·intro lz pre x post A1 hsp hI hwl hlA hlz
  obtain ⟨A, n, c, hIp, hIo, hIc, hE0, hE1⟩ := hI
  have hlhE0_ := (Array.getElem?_eq_some_iff.1 hE0).1
  have hlhE1_ := (Array.getElem?_eq_some_iff.1 hE1).1
  have hzI_ := hIc.size
  have hIlen := hIo.len
  have hInc := hIo.nc
  have hbl_ := (Array.getElem?_eq_some_iff.1 hIp).1
  have hbz := Mur.cells_ne' hIp hlz
  have hpl_ : pre.length + 1 ≤ (n0 + 7) / 8 := by have := congrArg List.length hsp; simp at this; omega
  have hpl2_ : (pre.map (Mur.chunkM p L b)).length = pre.length := List.length_map _
  have hbzhE0 := Mur.cells_ne' hE0 hlz
  have hbzhE1 := Mur.cells_ne' hE1 hlz
  have hIw_ : Wk.Chg [W8.heap.size] w A1 := Wk.Chg.step (kk10.more (by simp)) hIc ⟨.inl (by simp), trivial⟩
  have hxs_ : SlA w (some ⟨q, off + 8 * x * 97, none⟩) (min 8 (n0 - 8 * x)) ((L.drop (8 * x)).take 8) := hl.chunk x
  have hxlt_ : ∀ g_ off_, some (⟨q, off + 8 * x * 97, none⟩ : Addr) = some ⟨g_, off_, none⟩ → g_ < w.heap.size := fun g_ off_ e_ => by cases e_; exact hql_
  have hPlt_ : ∀ g_ off_, PA = some ⟨g_, off_, none⟩ → 0 < pn → g_ < w.heap.size := fun g_ off_ e_ hn_ => Mur.pblk_lt hb g_ (Mur.pblk_mem e_ hn_)
  refine Wk.regI ?_
  refine Wk.iPure 0 (some 7) (.slice (some ⟨q, off + 8 * x * 97, none⟩) (min 8 (n0 - 8 * x)) (min 8 (n0 - 8 * x))) rfl rfl rfl (by kernel_rfl) (by kernel_rfl) ?_
  refine Wk.iEnd 1 rfl (Wk.nxt ?_)
  refine ⟨(Wk.Chg.refl _), ?_⟩
  have hlz2_ := hlz.imp (fun _ h_ => Wk.Chg.hp (Wk.Chg.refl _) h_ trivial)
  intro A2 hch2
  have zz11 := hch2.size
  refine wpIn_block ?_
  refine Wk.dRegI (([W8.heap.size] ++ Wk.blk (.slice A n c))) (by kernel_rfl) (by kernel_rfl) ?_
  intro W12 ch11 sz7
  have zz12 := ch11.size
  have sS1 : Wk.Chg (([W8.heap.size] ++ Wk.blk (.slice A n c))) W12 W12 := (Wk.Chg.refl _).more (by simp)
  refine Wk.dV 1 12 (.slice PA pn pc) rfl rfl (fun w' hw' => (Wk.load1 38 (.tmp 3) rfl (by kernel_rfl) ⟨w.heap.size, 0, none⟩ (by kernel_rfl) (.slice PA pn pc) ((cell_of_row _ _ 0 _ _ _ (Wk.Chg.hp hw' (Wk.Chg.hp ch11 (Wk.Chg.hp hch2 hE0 ⟨by omega, trivial⟩) trivial) ⟨by omega, (Wk.off_blk (fun gz hgz => by have := hIo.lt gz hgz; omega))⟩)).trans rfl))) sS1 ?_
  refine Wk.dV 3 14 (.slice (some ⟨q, off + 8 * x * 97, none⟩) (min 8 (n0 - 8 * x)) (min 8 (n0 - 8 * x))) rfl rfl (fun _ _ => by kernel_rfl) sS1 ?_
  refine Wk.dV 5 16 (.bool b) rfl rfl (fun w' hw' => (Wk.load1 4 (.tmp 5) rfl (by kernel_rfl) ⟨W7.heap.size, 0, none⟩ (by kernel_rfl) (.bool b) ((cell_of_row _ _ 0 _ _ _ (Wk.Chg.hp hw' (Wk.Chg.hp ch11 (Wk.Chg.hp hch2 hE1 ⟨by omega, trivial⟩) trivial) ⟨by omega, (Wk.off_blk (fun gz hgz => by have := hIo.lt gz hgz; omega))⟩)).trans rfl))) sS1 ?_
  refine Wk.dOp2 0 2 (by kernel_rfl) ?_ ?_
  ·refine Wk.oVal (some 11) (.slice A n c) rfl rfl (by kernel_rfl) (Wk.load1 67 (.tmp 6) rfl (by kernel_rfl) ⟨W8.heap.size, 0, none⟩ (by kernel_rfl) (.slice A n c) ((cell_of_row _ _ 0 _ _ _ (Wk.Chg.hp ch11 (Wk.Chg.hp hch2 hIp ⟨by omega, trivial⟩) trivial)).trans rfl)) ?_
   refine ⟨sS1, ?_⟩
   refine Wk.dOp 2 (by kernel_rfl) ?_
   refine Wk.oCall (some 13) 75 [.tmp 12] #[38] [.slice PA pn pc] rfl rfl (by kernel_rfl) rfl (by kernel_rfl) (by kernel_rfl) ?_
   have kk11 := Wk.Chg.step hIw_ hch2 ⟨.inr (by omega), trivial⟩
   have kk12 := Wk.Chg.step kk11 ch11 trivial
   refine (CloneB_any p PA pn pc W12 (Mur.byt_chg hb kk12 (fun g off e hl => ⟨by have := hPlt_ g off e; omega, trivial⟩)) hnil (by omega)).mono ?_
   rintro _ W13 ⟨AA1, nn1, nn2, rfl, ow3, ch12⟩
   have zz13 := ch12.size
   have hq1 := ow3.byt.1
   have hq2 := ow3.nc
   have hq3 := ow3.cm
   have sS2 := Wk.Chg.step sS1 ch12 trivial
   refine ⟨_, rfl, sS2, ?_⟩
   refine Wk.dOp 4 (by kernel_rfl) ?_
   refine Wk.oCall (some 15) 51 [.tmp 14] #[22] [.slice (some ⟨q, off + 8 * x * 97, none⟩) (min 8 (n0 - 8 * x)) (min 8 (n0 - 8 * x))] rfl rfl (by kernel_rfl) rfl (by kernel_rfl) (by kernel_rfl) ?_
   have kk13 := Wk.Chg.step kk12 ch12 trivial
   refine (CloneS_any q (off + 8 * x * 97) (min 8 (n0 - 8 * x)) (min 8 (n0 - 8 * x)) ((L.drop (8 * x)).take 8) W13 (Mur.SlA.chg hxs_ kk13 (fun g off e hl => ⟨by have := hxlt_ g off e; omega, trivial⟩)) (by omega)).mono ?_
   rintro _ W14 ⟨AA2, nn3, rfl, ow4, ch13⟩
   have zz14 := ch13.size
   have hq4 := ow4.nc
   have sS3 := Wk.Chg.step sS2 ch13 trivial
   refine ⟨_, rfl, sS3, ?_⟩
   refine Wk.dV 6 17 (.agg ((Mur.msgC 2 AA1 nn1 nn2 Mur.z32 0 AA2 (min 8 (n0 - 8 * x)) nn3 b).toArray)) rfl rfl (fun w' hw' => (Mur.run_built 66 _ rfl [(0, .int .u8 2), (1, .slice AA1 nn1 nn2), (4, .slice AA2 (min 8 (n0 - 8 * x)) nn3), (5, .bool b)] (by kernel_rfl) _ (built_items AA1 nn1 nn2 AA2 (min 8 (n0 - 8 * x)) nn3 b))) sS3 ?_
   refine Wk.dOp 7 (by kernel_rfl) ?_
   refine Wk.oEx (some 18) _ rfl rfl (by kernel_rfl) (Mur.buildR1 67 66 (.tmp 17) rfl Tryd.underlying67 Mur.msgZ 37 104 msgI (Mur.msgC_length rfl) (by decide) (by decide) (Mur.msgC 2 AA1 nn1 nn2 Mur.z32 0 AA2 (min 8 (n0 - 8 * x)) nn3 b) (Mur.msgC_length rfl) (by kernel_rfl)) ?_
   rintro _ W15 ⟨rfl, hb8, ch14, sz8⟩
   have zz15 := ch14.size
   have sS4 := Wk.Chg.step sS3 ch14 trivial
   refine ⟨sS4, ?_⟩
   refine Wk.dOp 8 (by kernel_rfl) ?_
   have ow5 := (Mur.MsgA.chg hIo (Wk.Chg.refl _) (fun _ _ _ _ => trivial))
   have ow6 := (Mur.MsgA.chg ow5 hch2 (fun q_ _ _ k_ => ⟨Mur.off_loop hlz2_ k_, trivial⟩))
   have ow7 := (Mur.MsgA.chg ow6 ch11 (fun _ _ _ _ => trivial))
   have ow8 := (Mur.MsgA.chg ow7 ch12 (fun _ _ _ _ => trivial))
   have ow9 := (Mur.MsgA.chg ow8 ch13 (fun _ _ _ _ => trivial))
   have ow10 := (Mur.MsgA.chg ow9 ch14 (fun _ _ _ _ => trivial))
   have ow11 := Mur.own8 (Wk.own_chg ow3.own ch13 (fun q e _ _ => trivial))
   have ow12 := Mur.own8 (Wk.own_chg ow11.own ch14 (fun q e _ _ => trivial))
   have ow13 := Mur.OwnA.chg ow4 ch14 (fun q e _ _ => trivial)
   have hsub1 := Mur.subs_own (kd := 2) (s := Mur.z32) (k := 0) (b := b) ow12 ow13 rfl
   have hlt1 := hIo.lt
   refine Wk.oEx (some 19) _ rfl rfl (by kernel_rfl) (Mur.appendM (.tmp 11) (.tmp 18) 67 66 rfl Tryd.underlying67 msgI W11.heap.size A n c (pre.map (Mur.chunkM p L b)) W14.heap.size ⟨2, AA1, nn1, nn2, Mur.z32, 0, AA2, (min 8 (n0 - 8 * x)), nn3, b, rfl⟩ (Mur.chunkM p L b x) (by kernel_rfl) (by kernel_rfl) ow10 hb8 (Mur.rawok_items ow12 ow13 b) (fun q_ hq_ => ⟨by have := hsub1 q_ hq_; omega, fun e_ => by have := hlt1 q_ e_; have := hsub1 q_ hq_; omega⟩) (by omega) (by omega)) ?_
   rintro _ W16 ⟨AA3, nn4, rfl, ow14, ch15⟩
   have zz16 := ch15.size
   have hq5 := ow14.nc
   have hq6 := ow14.cm
   have sS5 := Wk.Chg.step sS4 ch15 (Mur.newOr_iff.2 (fun t ht => .inl (List.mem_append_right _ ht)))
   refine ⟨sS5, ?_⟩
   refine Wk.dOp 9 (by kernel_rfl) ?_
   refine Wk.oExS none _ rfl rfl (by kernel_rfl) (Wk.store1 67 (.tmp 6) (.tmp 19) rfl (by kernel_rfl) W8.heap.size 0 (by kernel_rfl) (.slice AA3 (n + 1) nn4) (by kernel_rfl) rfl 67 #[.slice A n c] (Wk.Chg.hp ch15 (Wk.Chg.hp ch14 (Wk.Chg.hp ch13 (Wk.Chg.hp ch12 (Wk.Chg.hp ch11 (Wk.Chg.hp hch2 hIp ⟨by omega, trivial⟩) trivial) trivial) trivial) trivial) (Wk.off_blk (fun gz hgz => by have := hlt1 gz hgz; omega))) (by simp)) ?_
   rintro W17 ⟨hb9, ch16⟩
   replace hb9 : W17.heap[W8.heap.size]? = some (.cells #[.slice AA3 (n + 1) nn4] 67 (0, 0)) := hb9
   have zz17 := ch16.size
   have sS6 := Wk.Chg.step sS5 ch16 ⟨.inl (by simp), trivial⟩
   refine ⟨sS6, ?_⟩
   refine Wk.dEndI (by kernel_rfl) (Wk.inN ?_)
   have kk14 : Wk.Chg ([W8.heap.size] ++ Wk.blk (.slice A n c)) A2 W12 := Wk.Chg.step ((Wk.Chg.refl _).more (by simp)) ch11 trivial
   have kk15 := Wk.Chg.step kk14 ch12 trivial
   have kk16 := Wk.Chg.step kk15 ch13 trivial
   have kk17 := Wk.Chg.step kk16 ch14 trivial
   have kk18 := Wk.Chg.step kk17 ch15 (Mur.newOr_iff.2 (fun t ht => .inl (List.mem_append_right _ ht)))
   have kk19 := Wk.Chg.step kk18 ch16 ⟨.inl (by simp), trivial⟩
   have kk20 := Wk.Chg.step hIc hch2 ⟨.inr (by omega), trivial⟩
   have kk21 := Wk.Chg.step kk20 ch11 trivial
   have kk22 := Wk.Chg.step kk21 ch12 trivial
   have kk23 := Wk.Chg.step kk22 ch13 trivial
   have kk24 := Wk.Chg.step kk23 ch14 trivial
   have kk25 := Wk.Chg.step kk24 ch15 (Wk.newOr_blk (fun g hg => by have := hlt1 g hg; omega))
   have kk26 := Wk.Chg.step kk25 ch16 ⟨.inl (by simp), trivial⟩
   have ow15 := (Mur.MsgA.chg ow14 ch16 (fun q_ k1_ k2_ _ => ⟨by omega, trivial⟩))
   refine Wk.roundN _ kk19 (fun s_ hs_ hlt_ => ?_) (fun k_ hk_ => ⟨hFb_ k_ hk_, Wk.off_blk (fun q hq => by have := hIo.lt q hq; have := hFw k_ hk_; omega)⟩) ⟨_, _, _, hb9, (by rw [List.map_append]; exact ow15), kk26, (Wk.Chg.hp ch16 (Wk.Chg.hp ch15 (Wk.Chg.hp ch14 (Wk.Chg.hp ch13 (Wk.Chg.hp ch12 (Wk.Chg.hp ch11 (Wk.Chg.hp hch2 hE0 ⟨by omega, trivial⟩) trivial) trivial) trivial) trivial) (Wk.off_blk (fun gz hgz => by have := hlt1 gz hgz; omega))) ⟨by omega, trivial⟩), (Wk.Chg.hp ch16 (Wk.Chg.hp ch15 (Wk.Chg.hp ch14 (Wk.Chg.hp ch13 (Wk.Chg.hp ch12 (Wk.Chg.hp ch11 (Wk.Chg.hp hch2 hE1 ⟨by omega, trivial⟩) trivial) trivial) trivial) trivial) (Wk.off_blk (fun gz hgz => by have := hlt1 gz hgz; omega))) ⟨by omega, trivial⟩)⟩
   rcases List.mem_cons.1 hs_ with rfl | hs_
   ·exact ⟨_, (hch2.hp hIp ⟨hbz, trivial⟩), rfl⟩
   exact Mur.MsgA.cells (Mur.MsgA.chg (Mur.MsgA.chg hIo (Wk.Chg.refl _) (fun _ _ _ _ => trivial)) hch2 (fun q_ _ _ k_ => ⟨Mur.off_loop hlz2_ k_, trivial⟩)) (Mur.blk_mem hs_)
  refine Wk.oCall (some 13) 75 [.tmp 12] #[38] [.slice PA pn pc] rfl rfl (by kernel_rfl) rfl (by kernel_rfl) (by kernel_rfl) ?_
  have kk27 := Wk.Chg.step hIw_ hch2 ⟨.inr (by omega), trivial⟩
  have kk28 := Wk.Chg.step kk27 ch11 trivial
  refine (CloneB_any p PA pn pc W12 (Mur.byt_chg hb kk28 (fun g off e hl => ⟨by have := hPlt_ g off e; omega, trivial⟩)) hnil (by omega)).mono ?_
  rintro _ W18 ⟨AA4, nn5, nn6, rfl, ow16, ch17⟩
  have zz18 := ch17.size
  have hq7 := ow16.byt.1
  have hq8 := ow16.nc
  have hq9 := ow16.cm
  have sS7 := Wk.Chg.step sS1 ch17 trivial
  refine ⟨_, rfl, sS7, ?_⟩
  refine Wk.dOp2 0 4 (by kernel_rfl) ?_ ?_
  ·refine Wk.oVal (some 11) (.slice A n c) rfl rfl (by kernel_rfl) (Wk.load1 67 (.tmp 6) rfl (by kernel_rfl) ⟨W8.heap.size, 0, none⟩ (by kernel_rfl) (.slice A n c) ((cell_of_row _ _ 0 _ _ _ (Wk.Chg.hp ch17 (Wk.Chg.hp ch11 (Wk.Chg.hp hch2 hIp ⟨by omega, trivial⟩) trivial) trivial)).trans rfl)) ?_
   refine ⟨sS7, ?_⟩
   refine Wk.dOp 4 (by kernel_rfl) ?_
   refine Wk.oCall (some 15) 51 [.tmp 14] #[22] [.slice (some ⟨q, off + 8 * x * 97, none⟩) (min 8 (n0 - 8 * x)) (min 8 (n0 - 8 * x))] rfl rfl (by kernel_rfl) rfl (by kernel_rfl) (by kernel_rfl) ?_
   have kk29 := Wk.Chg.step kk28 ch17 trivial
   refine (CloneS_any q (off + 8 * x * 97) (min 8 (n0 - 8 * x)) (min 8 (n0 - 8 * x)) ((L.drop (8 * x)).take 8) W18 (Mur.SlA.chg hxs_ kk29 (fun g off e hl => ⟨by have := hxlt_ g off e; omega, trivial⟩)) (by omega)).mono ?_
   rintro _ W19 ⟨AA5, nn7, rfl, ow17, ch18⟩
   have zz19 := ch18.size
   have hq10 := ow17.nc
   have sS8 := Wk.Chg.step sS7 ch18 trivial
   refine ⟨_, rfl, sS8, ?_⟩
   refine Wk.dV 6 17 (.agg ((Mur.msgC 2 AA4 nn5 nn6 Mur.z32 0 AA5 (min 8 (n0 - 8 * x)) nn7 b).toArray)) rfl rfl (fun w' hw' => (Mur.run_built 66 _ rfl [(0, .int .u8 2), (1, .slice AA4 nn5 nn6), (4, .slice AA5 (min 8 (n0 - 8 * x)) nn7), (5, .bool b)] (by kernel_rfl) _ (built_items AA4 nn5 nn6 AA5 (min 8 (n0 - 8 * x)) nn7 b))) sS8 ?_
   refine Wk.dOp 7 (by kernel_rfl) ?_
   refine Wk.oEx (some 18) _ rfl rfl (by kernel_rfl) (Mur.buildR1 67 66 (.tmp 17) rfl Tryd.underlying67 Mur.msgZ 37 104 msgI (Mur.msgC_length rfl) (by decide) (by decide) (Mur.msgC 2 AA4 nn5 nn6 Mur.z32 0 AA5 (min 8 (n0 - 8 * x)) nn7 b) (Mur.msgC_length rfl) (by kernel_rfl)) ?_
   rintro _ W20 ⟨rfl, hb10, ch19, sz9⟩
   have zz20 := ch19.size
   have sS9 := Wk.Chg.step sS8 ch19 trivial
   refine ⟨sS9, ?_⟩
   refine Wk.dOp 8 (by kernel_rfl) ?_
   have ow18 := (Mur.MsgA.chg hIo (Wk.Chg.refl _) (fun _ _ _ _ => trivial))
   have ow19 := (Mur.MsgA.chg ow18 hch2 (fun q_ _ _ k_ => ⟨Mur.off_loop hlz2_ k_, trivial⟩))
   have ow20 := (Mur.MsgA.chg ow19 ch11 (fun _ _ _ _ => trivial))
   have ow21 := (Mur.MsgA.chg ow20 ch17 (fun _ _ _ _ => trivial))
   have ow22 := (Mur.MsgA.chg ow21 ch18 (fun _ _ _ _ => trivial))
   have ow23 := (Mur.MsgA.chg ow22 ch19 (fun _ _ _ _ => trivial))
   have ow24 := Mur.own8 (Wk.own_chg ow16.own ch18 (fun q e _ _ => trivial))
   have ow25 := Mur.own8 (Wk.own_chg ow24.own ch19 (fun q e _ _ => trivial))
   have ow26 := Mur.OwnA.chg ow17 ch19 (fun q e _ _ => trivial)
   have hsub2 := Mur.subs_own (kd := 2) (s := Mur.z32) (k := 0) (b := b) ow25 ow26 rfl
   have hlt2 := hIo.lt
   refine Wk.oEx (some 19) _ rfl rfl (by kernel_rfl) (Mur.appendM (.tmp 11) (.tmp 18) 67 66 rfl Tryd.underlying67 msgI W11.heap.size A n c (pre.map (Mur.chunkM p L b)) W19.heap.size ⟨2, AA4, nn5, nn6, Mur.z32, 0, AA5, (min 8 (n0 - 8 * x)), nn7, b, rfl⟩ (Mur.chunkM p L b x) (by kernel_rfl) (by kernel_rfl) ow23 hb10 (Mur.rawok_items ow25 ow26 b) (fun q_ hq_ => ⟨by have := hsub2 q_ hq_; omega, fun e_ => by have := hlt2 q_ e_; have := hsub2 q_ hq_; omega⟩) (by omega) (by omega)) ?_
   rintro _ W21 ⟨AA6, nn8, rfl, ow27, ch20⟩
   have zz21 := ch20.size
   have hq11 := ow27.nc
   have hq12 := ow27.cm
   have sS10 := Wk.Chg.step sS9 ch20 (Mur.newOr_iff.2 (fun t ht => .inl (List.mem_append_right _ ht)))
   refine ⟨sS10, ?_⟩
   refine Wk.dOp 9 (by kernel_rfl) ?_
   refine Wk.oExS none _ rfl rfl (by kernel_rfl) (Wk.store1 67 (.tmp 6) (.tmp 19) rfl (by kernel_rfl) W8.heap.size 0 (by kernel_rfl) (.slice AA6 (n + 1) nn8) (by kernel_rfl) rfl 67 #[.slice A n c] (Wk.Chg.hp ch20 (Wk.Chg.hp ch19 (Wk.Chg.hp ch18 (Wk.Chg.hp ch17 (Wk.Chg.hp ch11 (Wk.Chg.hp hch2 hIp ⟨by omega, trivial⟩) trivial) trivial) trivial) trivial) (Wk.off_blk (fun gz hgz => by have := hlt2 gz hgz; omega))) (by simp)) ?_
   rintro W22 ⟨hb11, ch21⟩
   replace hb11 : W22.heap[W8.heap.size]? = some (.cells #[.slice AA6 (n + 1) nn8] 67 (0, 0)) := hb11
   have zz22 := ch21.size
   have sS11 := Wk.Chg.step sS10 ch21 ⟨.inl (by simp), trivial⟩
   refine ⟨sS11, ?_⟩
   refine Wk.dEndI (by kernel_rfl) (Wk.inN ?_)
   have kk30 : Wk.Chg ([W8.heap.size] ++ Wk.blk (.slice A n c)) A2 W12 := Wk.Chg.step ((Wk.Chg.refl _).more (by simp)) ch11 trivial
   have kk31 := Wk.Chg.step kk30 ch17 trivial
   have kk32 := Wk.Chg.step kk31 ch18 trivial
   have kk33 := Wk.Chg.step kk32 ch19 trivial
   have kk34 := Wk.Chg.step kk33 ch20 (Mur.newOr_iff.2 (fun t ht => .inl (List.mem_append_right _ ht)))
   have kk35 := Wk.Chg.step kk34 ch21 ⟨.inl (by simp), trivial⟩
   have kk36 := Wk.Chg.step hIc hch2 ⟨.inr (by omega), trivial⟩
   have kk37 := Wk.Chg.step kk36 ch11 trivial
   have kk38 := Wk.Chg.step kk37 ch17 trivial
   have kk39 := Wk.Chg.step kk38 ch18 trivial
   have kk40 := Wk.Chg.step kk39 ch19 trivial
   have kk41 := Wk.Chg.step kk40 ch20 (Wk.newOr_blk (fun g hg => by have := hlt2 g hg; omega))
   have kk42 := Wk.Chg.step kk41 ch21 ⟨.inl (by simp), trivial⟩
   have ow28 := (Mur.MsgA.chg ow27 ch21 (fun q_ k1_ k2_ _ => ⟨by omega, trivial⟩))
   refine Wk.roundN _ kk35 (fun s_ hs_ hlt_ => ?_) (fun k_ hk_ => ⟨hFb_ k_ hk_, Wk.off_blk (fun q hq => by have := hIo.lt q hq; have := hFw k_ hk_; omega)⟩) ⟨_, _, _, hb11, (by rw [List.map_append]; exact ow28), kk42, (Wk.Chg.hp ch21 (Wk.Chg.hp ch20 (Wk.Chg.hp ch19 (Wk.Chg.hp ch18 (Wk.Chg.hp ch17 (Wk.Chg.hp ch11 (Wk.Chg.hp hch2 hE0 ⟨by omega, trivial⟩) trivial) trivial) trivial) trivial) (Wk.off_blk (fun gz hgz => by have := hlt2 gz hgz; omega))) ⟨by omega, trivial⟩), (Wk.Chg.hp ch21 (Wk.Chg.hp ch20 (Wk.Chg.hp ch19 (Wk.Chg.hp ch18 (Wk.Chg.hp ch17 (Wk.Chg.hp ch11 (Wk.Chg.hp hch2 hE1 ⟨by omega, trivial⟩) trivial) trivial) trivial) trivial) (Wk.off_blk (fun gz hgz => by have := hlt2 gz hgz; omega))) ⟨by omega, trivial⟩)⟩
   rcases List.mem_cons.1 hs_ with rfl | hs_
   ·exact ⟨_, (hch2.hp hIp ⟨hbz, trivial⟩), rfl⟩
   exact Mur.MsgA.cells (Mur.MsgA.chg (Mur.MsgA.chg hIo (Wk.Chg.refl _) (fun _ _ _ _ => trivial)) hch2 (fun q_ _ _ k_ => ⟨Mur.off_loop hlz2_ k_, trivial⟩)) (Mur.blk_mem hs_)
  refine Wk.oCall (some 15) 51 [.tmp 14] #[22] [.slice (some ⟨q, off + 8 * x * 97, none⟩) (min 8 (n0 - 8 * x)) (min 8 (n0 - 8 * x))] rfl rfl (by kernel_rfl) rfl (by kernel_rfl) (by kernel_rfl) ?_
  have kk43 := Wk.Chg.step kk28 ch17 trivial
  refine (CloneS_any q (off + 8 * x * 97) (min 8 (n0 - 8 * x)) (min 8 (n0 - 8 * x)) ((L.drop (8 * x)).take 8) W18 (Mur.SlA.chg hxs_ kk43 (fun g off e hl => ⟨by have := hxlt_ g off e; omega, trivial⟩)) (by omega)).mono ?_
  rintro _ W23 ⟨AA7, nn9, rfl, ow29, ch22⟩
  have zz23 := ch22.size
  have hq13 := ow29.nc
  have sS12 := Wk.Chg.step sS7 ch22 trivial
  refine ⟨_, rfl, sS12, ?_⟩
  refine Wk.dV 6 17 (.agg ((Mur.msgC 2 AA4 nn5 nn6 Mur.z32 0 AA7 (min 8 (n0 - 8 * x)) nn9 b).toArray)) rfl rfl (fun w' hw' => (Mur.run_built 66 _ rfl [(0, .int .u8 2), (1, .slice AA4 nn5 nn6), (4, .slice AA7 (min 8 (n0 - 8 * x)) nn9), (5, .bool b)] (by kernel_rfl) _ (built_items AA4 nn5 nn6 AA7 (min 8 (n0 - 8 * x)) nn9 b))) sS12 ?_
  refine Wk.dOp2 0 7 (by kernel_rfl) ?_ ?_
  ·refine Wk.oVal (some 11) (.slice A n c) rfl rfl (by kernel_rfl) (Wk.load1 67 (.tmp 6) rfl (by kernel_rfl) ⟨W8.heap.size, 0, none⟩ (by kernel_rfl) (.slice A n c) ((cell_of_row _ _ 0 _ _ _ (Wk.Chg.hp ch22 (Wk.Chg.hp ch17 (Wk.Chg.hp ch11 (Wk.Chg.hp hch2 hIp ⟨by omega, trivial⟩) trivial) trivial) trivial)).trans rfl)) ?_
   refine ⟨sS12, ?_⟩
   refine Wk.dOp 7 (by kernel_rfl) ?_
   refine Wk.oEx (some 18) _ rfl rfl (by kernel_rfl) (Mur.buildR1 67 66 (.tmp 17) rfl Tryd.underlying67 Mur.msgZ 37 104 msgI (Mur.msgC_length rfl) (by decide) (by decide) (Mur.msgC 2 AA4 nn5 nn6 Mur.z32 0 AA7 (min 8 (n0 - 8 * x)) nn9 b) (Mur.msgC_length rfl) (by kernel_rfl)) ?_
   rintro _ W24 ⟨rfl, hb12, ch23, sz10⟩
   have zz24 := ch23.size
   have sS13 := Wk.Chg.step sS12 ch23 trivial
   refine ⟨sS13, ?_⟩
   refine Wk.dOp 8 (by kernel_rfl) ?_
   have ow30 := (Mur.MsgA.chg hIo (Wk.Chg.refl _) (fun _ _ _ _ => trivial))
   have ow31 := (Mur.MsgA.chg ow30 hch2 (fun q_ _ _ k_ => ⟨Mur.off_loop hlz2_ k_, trivial⟩))
   have ow32 := (Mur.MsgA.chg ow31 ch11 (fun _ _ _ _ => trivial))
   have ow33 := (Mur.MsgA.chg ow32 ch17 (fun _ _ _ _ => trivial))
   have ow34 := (Mur.MsgA.chg ow33 ch22 (fun _ _ _ _ => trivial))
   have ow35 := (Mur.MsgA.chg ow34 ch23 (fun _ _ _ _ => trivial))
   have ow36 := Mur.own8 (Wk.own_chg ow16.own ch22 (fun q e _ _ => trivial))
   have ow37 := Mur.own8 (Wk.own_chg ow36.own ch23 (fun q e _ _ => trivial))
   have ow38 := Mur.OwnA.chg ow29 ch23 (fun q e _ _ => trivial)
   have hsub3 := Mur.subs_own (kd := 2) (s := Mur.z32) (k := 0) (b := b) ow37 ow38 rfl
   have hlt3 := hIo.lt
   refine Wk.oEx (some 19) _ rfl rfl (by kernel_rfl) (Mur.appendM (.tmp 11) (.tmp 18) 67 66 rfl Tryd.underlying67 msgI W11.heap.size A n c (pre.map (Mur.chunkM p L b)) W23.heap.size ⟨2, AA4, nn5, nn6, Mur.z32, 0, AA7, (min 8 (n0 - 8 * x)), nn9, b, rfl⟩ (Mur.chunkM p L b x) (by kernel_rfl) (by kernel_rfl) ow35 hb12 (Mur.rawok_items ow37 ow38 b) (fun q_ hq_ => ⟨by have := hsub3 q_ hq_; omega, fun e_ => by have := hlt3 q_ e_; have := hsub3 q_ hq_; omega⟩) (by omega) (by omega)) ?_
   rintro _ W25 ⟨AA8, nn10, rfl, ow39, ch24⟩
   have zz25 := ch24.size
   have hq14 := ow39.nc
   have hq15 := ow39.cm
   have sS14 := Wk.Chg.step sS13 ch24 (Mur.newOr_iff.2 (fun t ht => .inl (List.mem_append_right _ ht)))
   refine ⟨sS14, ?_⟩
   refine Wk.dOp 9 (by kernel_rfl) ?_
   refine Wk.oExS none _ rfl rfl (by kernel_rfl) (Wk.store1 67 (.tmp 6) (.tmp 19) rfl (by kernel_rfl) W8.heap.size 0 (by kernel_rfl) (.slice AA8 (n + 1) nn10) (by kernel_rfl) rfl 67 #[.slice A n c] (Wk.Chg.hp ch24 (Wk.Chg.hp ch23 (Wk.Chg.hp ch22 (Wk.Chg.hp ch17 (Wk.Chg.hp ch11 (Wk.Chg.hp hch2 hIp ⟨by omega, trivial⟩) trivial) trivial) trivial) trivial) (Wk.off_blk (fun gz hgz => by have := hlt3 gz hgz; omega))) (by simp)) ?_
   rintro W26 ⟨hb13, ch25⟩
   replace hb13 : W26.heap[W8.heap.size]? = some (.cells #[.slice AA8 (n + 1) nn10] 67 (0, 0)) := hb13
   have zz26 := ch25.size
   have sS15 := Wk.Chg.step sS14 ch25 ⟨.inl (by simp), trivial⟩
   refine ⟨sS15, ?_⟩
   refine Wk.dEndI (by kernel_rfl) (Wk.inN ?_)
   have kk44 : Wk.Chg ([W8.heap.size] ++ Wk.blk (.slice A n c)) A2 W12 := Wk.Chg.step ((Wk.Chg.refl _).more (by simp)) ch11 trivial
   have kk45 := Wk.Chg.step kk44 ch17 trivial
   have kk46 := Wk.Chg.step kk45 ch22 trivial
   have kk47 := Wk.Chg.step kk46 ch23 trivial
   have kk48 := Wk.Chg.step kk47 ch24 (Mur.newOr_iff.2 (fun t ht => .inl (List.mem_append_right _ ht)))
   have kk49 := Wk.Chg.step kk48 ch25 ⟨.inl (by simp), trivial⟩
   have kk50 := Wk.Chg.step hIc hch2 ⟨.inr (by omega), trivial⟩
   have kk51 := Wk.Chg.step kk50 ch11 trivial
   have kk52 := Wk.Chg.step kk51 ch17 trivial
   have kk53 := Wk.Chg.step kk52 ch22 trivial
   have kk54 := Wk.Chg.step kk53 ch23 trivial
   have kk55 := Wk.Chg.step kk54 ch24 (Wk.newOr_blk (fun g hg => by have := hlt3 g hg; omega))
   have kk56 := Wk.Chg.step kk55 ch25 ⟨.inl (by simp), trivial⟩
   have ow40 := (Mur.MsgA.chg ow39 ch25 (fun q_ k1_ k2_ _ => ⟨by omega, trivial⟩))
   refine Wk.roundN _ kk49 (fun s_ hs_ hlt_ => ?_) (fun k_ hk_ => ⟨hFb_ k_ hk_, Wk.off_blk (fun q hq => by have := hIo.lt q hq; have := hFw k_ hk_; omega)⟩) ⟨_, _, _, hb13, (by rw [List.map_append]; exact ow40), kk56, (Wk.Chg.hp ch25 (Wk.Chg.hp ch24 (Wk.Chg.hp ch23 (Wk.Chg.hp ch22 (Wk.Chg.hp ch17 (Wk.Chg.hp ch11 (Wk.Chg.hp hch2 hE0 ⟨by omega, trivial⟩) trivial) trivial) trivial) trivial) (Wk.off_blk (fun gz hgz => by have := hlt3 gz hgz; omega))) ⟨by omega, trivial⟩), (Wk.Chg.hp ch25 (Wk.Chg.hp ch24 (Wk.Chg.hp ch23 (Wk.Chg.hp ch22 (Wk.Chg.hp ch17 (Wk.Chg.hp ch11 (Wk.Chg.hp hch2 hE1 ⟨by omega, trivial⟩) trivial) trivial) trivial) trivial) (Wk.off_blk (fun gz hgz => by have := hlt3 gz hgz; omega))) ⟨by omega, trivial⟩)⟩
   rcases List.mem_cons.1 hs_ with rfl | hs_
   ·exact ⟨_, (hch2.hp hIp ⟨hbz, trivial⟩), rfl⟩
   exact Mur.MsgA.cells (Mur.MsgA.chg (Mur.MsgA.chg hIo (Wk.Chg.refl _) (fun _ _ _ _ => trivial)) hch2 (fun q_ _ _ k_ => ⟨Mur.off_loop hlz2_ k_, trivial⟩)) (Mur.blk_mem hs_)
  refine Wk.oEx (some 18) _ rfl rfl (by kernel_rfl) (Mur.buildR1 67 66 (.tmp 17) rfl Tryd.underlying67 Mur.msgZ 37 104 msgI (Mur.msgC_length rfl) (by decide) (by decide) (Mur.msgC 2 AA4 nn5 nn6 Mur.z32 0 AA7 (min 8 (n0 - 8 * x)) nn9 b) (Mur.msgC_length rfl) (by kernel_rfl)) ?_
  rintro _ W27 ⟨rfl, hb14, ch26, sz11⟩
  have zz27 := ch26.size
  have sS16 := Wk.Chg.step sS12 ch26 trivial
  refine ⟨sS16, ?_⟩
  refine Wk.dOp 0 (by kernel_rfl) ?_
  refine Wk.oVal (some 11) (.slice A n c) rfl rfl (by kernel_rfl) (Wk.load1 67 (.tmp 6) rfl (by kernel_rfl) ⟨W8.heap.size, 0, none⟩ (by kernel_rfl) (.slice A n c) ((cell_of_row _ _ 0 _ _ _ (Wk.Chg.hp ch26 (Wk.Chg.hp ch22 (Wk.Chg.hp ch17 (Wk.Chg.hp ch11 (Wk.Chg.hp hch2 hIp ⟨by omega, trivial⟩) trivial) trivial) trivial) trivial)).trans rfl)) ?_
  refine ⟨sS16, ?_⟩
  refine Wk.dOp 8 (by kernel_rfl) ?_
  have ow41 := (Mur.MsgA.chg hIo (Wk.Chg.refl _) (fun _ _ _ _ => trivial))
  have ow42 := (Mur.MsgA.chg ow41 hch2 (fun q_ _ _ k_ => ⟨Mur.off_loop hlz2_ k_, trivial⟩))
  have ow43 := (Mur.MsgA.chg ow42 ch11 (fun _ _ _ _ => trivial))
  have ow44 := (Mur.MsgA.chg ow43 ch17 (fun _ _ _ _ => trivial))
  have ow45 := (Mur.MsgA.chg ow44 ch22 (fun _ _ _ _ => trivial))
  have ow46 := (Mur.MsgA.chg ow45 ch26 (fun _ _ _ _ => trivial))
  have ow47 := Mur.own8 (Wk.own_chg ow16.own ch22 (fun q e _ _ => trivial))
  have ow48 := Mur.own8 (Wk.own_chg ow47.own ch26 (fun q e _ _ => trivial))
  have ow49 := Mur.OwnA.chg ow29 ch26 (fun q e _ _ => trivial)
  have hsub4 := Mur.subs_own (kd := 2) (s := Mur.z32) (k := 0) (b := b) ow48 ow49 rfl
  have hlt4 := hIo.lt
  refine Wk.oEx (some 19) _ rfl rfl (by kernel_rfl) (Mur.appendM (.tmp 11) (.tmp 18) 67 66 rfl Tryd.underlying67 msgI W11.heap.size A n c (pre.map (Mur.chunkM p L b)) W23.heap.size ⟨2, AA4, nn5, nn6, Mur.z32, 0, AA7, (min 8 (n0 - 8 * x)), nn9, b, rfl⟩ (Mur.chunkM p L b x) (by kernel_rfl) (by kernel_rfl) ow46 hb14 (Mur.rawok_items ow48 ow49 b) (fun q_ hq_ => ⟨by have := hsub4 q_ hq_; omega, fun e_ => by have := hlt4 q_ e_; have := hsub4 q_ hq_; omega⟩) (by omega) (by omega)) ?_
  rintro _ W28 ⟨AA9, nn11, rfl, ow50, ch27⟩
  have zz28 := ch27.size
  have hq16 := ow50.nc
  have hq17 := ow50.cm
  have sS17 := Wk.Chg.step sS16 ch27 (Mur.newOr_iff.2 (fun t ht => .inl (List.mem_append_right _ ht)))
  refine ⟨sS17, ?_⟩
  refine Wk.dOp 9 (by kernel_rfl) ?_
  refine Wk.oExS none _ rfl rfl (by kernel_rfl) (Wk.store1 67 (.tmp 6) (.tmp 19) rfl (by kernel_rfl) W8.heap.size 0 (by kernel_rfl) (.slice AA9 (n + 1) nn11) (by kernel_rfl) rfl 67 #[.slice A n c] (Wk.Chg.hp ch27 (Wk.Chg.hp ch26 (Wk.Chg.hp ch22 (Wk.Chg.hp ch17 (Wk.Chg.hp ch11 (Wk.Chg.hp hch2 hIp ⟨by omega, trivial⟩) trivial) trivial) trivial) trivial) (Wk.off_blk (fun gz hgz => by have := hlt4 gz hgz; omega))) (by simp)) ?_
  rintro W29 ⟨hb15, ch28⟩
  replace hb15 : W29.heap[W8.heap.size]? = some (.cells #[.slice AA9 (n + 1) nn11] 67 (0, 0)) := hb15
  have zz29 := ch28.size
  have sS18 := Wk.Chg.step sS17 ch28 ⟨.inl (by simp), trivial⟩
  refine ⟨sS18, ?_⟩
  refine Wk.dEndI (by kernel_rfl) (Wk.inN ?_)
  have kk57 : Wk.Chg ([W8.heap.size] ++ Wk.blk (.slice A n c)) A2 W12 := Wk.Chg.step ((Wk.Chg.refl _).more (by simp)) ch11 trivial
  have kk58 := Wk.Chg.step kk57 ch17 trivial
  have kk59 := Wk.Chg.step kk58 ch22 trivial
  have kk60 := Wk.Chg.step kk59 ch26 trivial
  have kk61 := Wk.Chg.step kk60 ch27 (Mur.newOr_iff.2 (fun t ht => .inl (List.mem_append_right _ ht)))
  have kk62 := Wk.Chg.step kk61 ch28 ⟨.inl (by simp), trivial⟩
  have kk63 := Wk.Chg.step hIc hch2 ⟨.inr (by omega), trivial⟩
  have kk64 := Wk.Chg.step kk63 ch11 trivial
  have kk65 := Wk.Chg.step kk64 ch17 trivial
  have kk66 := Wk.Chg.step kk65 ch22 trivial
  have kk67 := Wk.Chg.step kk66 ch26 trivial
  have kk68 := Wk.Chg.step kk67 ch27 (Wk.newOr_blk (fun g hg => by have := hlt4 g hg; omega))
  have kk69 := Wk.Chg.step kk68 ch28 ⟨.inl (by simp), trivial⟩
  have ow51 := (Mur.MsgA.chg ow50 ch28 (fun q_ k1_ k2_ _ => ⟨by omega, trivial⟩))
  refine Wk.roundN _ kk62 (fun s_ hs_ hlt_ => ?_) (fun k_ hk_ => ⟨hFb_ k_ hk_, Wk.off_blk (fun q hq => by have := hIo.lt q hq; have := hFw k_ hk_; omega)⟩) ⟨_, _, _, hb15, (by rw [List.map_append]; exact ow51), kk69, (Wk.Chg.hp ch28 (Wk.Chg.hp ch27 (Wk.Chg.hp ch26 (Wk.Chg.hp ch22 (Wk.Chg.hp ch17 (Wk.Chg.hp ch11 (Wk.Chg.hp hch2 hE0 ⟨by omega, trivial⟩) trivial) trivial) trivial) trivial) (Wk.off_blk (fun gz hgz => by have := hlt4 gz hgz; omega))) ⟨by omega, trivial⟩), (Wk.Chg.hp ch28 (Wk.Chg.hp ch27 (Wk.Chg.hp ch26 (Wk.Chg.hp ch22 (Wk.Chg.hp ch17 (Wk.Chg.hp ch11 (Wk.Chg.hp hch2 hE1 ⟨by omega, trivial⟩) trivial) trivial) trivial) trivial) (Wk.off_blk (fun gz hgz => by have := hlt4 gz hgz; omega))) ⟨by omega, trivial⟩)⟩
  rcases List.mem_cons.1 hs_ with rfl | hs_
  ·exact ⟨_, (hch2.hp hIp ⟨hbz, trivial⟩), rfl⟩
  exact Mur.MsgA.cells (Mur.MsgA.chg (Mur.MsgA.chg hIo (Wk.Chg.refl _) (fun _ _ _ _ => trivial)) hch2 (fun q_ _ _ k_ => ⟨Mur.off_loop hlz2_ k_, trivial⟩)) (Mur.blk_mem hs_)
 intro D W9 hI hwD hKD
 obtain ⟨A, n, c, hIp, hIo, hIc, hE0, hE1⟩ := hI
 have hlhE0_ := (Array.getElem?_eq_some_iff.1 hE0).1
 have hlhE1_ := (Array.getElem?_eq_some_iff.1 hE1).1
 have hzI_ := hIc.size
 have hIlen := hIo.len
 have hInc := hIo.nc
 have hbl_ := (Array.getElem?_eq_some_iff.1 hIp).1
 have hbD := Mur.cells_ne hIp hKD rfl
 have hDl := (Array.getElem?_eq_some_iff.1 hKD).1
 have hbDhE0 := Mur.cells_ne hE0 hKD rfl
 have hbDhE1 := Mur.cells_ne hE1 hKD rfl
 have hW9 : Wk.Chg [] w W9 := Wk.Chg.step kk10 hIc ⟨.inr (by omega), trivial⟩
 refine Wk.inN (Wk.nxt (wp_seq (Wk.reg ?_)))
 refine Wk.rQ 0 20 (.slice A n c) rfl rfl (Wk.load1 67 (.tmp 6) rfl (by kernel_rfl) ⟨W8.heap.size, 0, none⟩ (by kernel_rfl) (.slice A n c) ((cell_of_row _ _ 0 _ _ _ hIp).trans rfl)) ?_
 refine Wk.rExS 1 none _ rfl rfl (by kernel_rfl) (Wk.store1 67 (.tmp 6) (.tmp 20) rfl (by kernel_rfl) W8.heap.size 0 (by kernel_rfl) (.slice A n c) (by kernel_rfl) rfl 67 #[.slice A n c] hIp (by simp)) ?_
 rintro W30 ⟨hb16, ch29⟩
 replace hb16 : W30.heap[W8.heap.size]? = some (.cells #[.slice A n c] 67 (0, 0)) := hb16
 have zz30 := ch29.size
 refine Wk.rEnd 2 rfl (Wk.nxt (wp_ret (Wk.npR ?_)))
 refine Wk.retM D rfl (Wk.Chg.hp ch29 hKD ⟨by omega, trivial⟩) ?_
 intro W31 ch30
 have zz31 := ch30.size
 have ow52 := (Mur.MsgA.chg hIo ch29 (fun q_ k1_ k2_ _ => ⟨by omega, trivial⟩))
 have ow53 := (Mur.MsgA.chg ow52 ch30 (fun q_ _ _ k_ => ⟨Mur.off_noncells (Wk.Chg.hp ch29 hKD ⟨by omega, trivial⟩) rfl k_, trivial⟩))
 have kk70 := Wk.Chg.step hW9 ch29 ⟨.inr (by omega), trivial⟩
 have kk71 := Wk.Chg.step kk70 ch30 ⟨.inr (by omega), trivial⟩
 refine ⟨.slice A n c, Mur.results_sl rfl _ _ W8.heap.size 67 (.slice A n c) (0, 0) (by kernel_rfl) (Wk.Chg.hp ch30 hb16 ⟨by omega, trivial⟩) (by kernel_rfl), ⟨_, _, _, rfl, ?_, kk71⟩⟩
 exact Mur.MsgA.low (by rw [← Mur.chunkM_all, hlL_]; exact ow53) (by omega)
end Go.Proofs.YtfhneademopciaaDoor
