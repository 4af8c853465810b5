/- adverts: Copy, Of; none. A result that no one has; the cells of a slice of one's own. No program in sight. AdvertsNone, walked. -/
import Derived.Test.YtfhneademopciaaDoorPO11
import Derived.Test.YtfhneademopciaaDoorPN1
import Derived.Test.YtfhneademopciaaDoorPO9
namespace Go.Proofs.YtfhneademopciaaDoor
open Go.RowKit
open Mur (b8s Byt Own8 Seg Segs flat cutA attC Att SlA OwnA rowA)
set_option maxRecDepth 100000
set_option maxHeartbeats 4000000
theorem Clone_none (w : World) : Calls Tryd.prog 51 #[.slice none 0 0] w fun e w' => e = .returned (.slice none 0 0) ∧ Wk.Chg [] w w' := by
  refine calls_of_wp Tryd.func51 rfl ?_
  refine wp_seq ?_
  refine Wk.reg ?_
  refine Wk.rPure 0 (some 2) (.slice none 0 0) rfl rfl (by kernel_rfl) (by kernel_rfl) ?_
  refine Wk.rEnd 1 rfl ?_
  refine Wk.nxt ?_
  refine wp_seq ?_
  refine wp_seq ?_
  refine Wk.reg ?_
  refine Wk.rPure 0 (some 3) (.slice none 0 0) rfl rfl (by kernel_rfl) (by kernel_rfl) ?_
  refine Wk.rPure 1 (some 4) (.bool true) rfl rfl (by kernel_rfl) (by kernel_rfl) ?_
  refine Wk.rEnd 2 rfl ?_
  refine Wk.nxt ?_
  refine wp_cond_true (by kernel_rfl) ?_
  refine wp_seq ?_
  refine Wk.reg ?_
  refine Wk.rPure 0 (some 2) (.slice none 0 0) rfl rfl (by kernel_rfl) (by kernel_rfl) ?_
  refine Wk.rEnd 1 rfl ?_
  refine Wk.nxt ?_
  refine wp_ret ?_
  refine Wk.thR ?_
  refine Wk.ret (.slice none 0 0) rfl (by kernel_rfl) ?_
  exact ⟨rfl, (Wk.Chg.refl _)⟩
theorem Clone_some (lo q n c : Nat) (L : List Att) (w : World) (h : OwnA w lo 32 (some ⟨q, 0, none⟩) n c L) (hn : n ≤ 300) : Calls Tryd.prog 51 #[.slice (some ⟨q, 0, none⟩) n c] w fun e w' => ∃ A1 c1, e = .returned (.slice A1 n c1) ∧ OwnA w' w.heap.size 32 A1 n c1 L ∧ Wk.Chg [] w w' := by
  have hOl := h.sl.len
  have hOc := h.nc
  have hqn := h.lt q rfl
  refine calls_of_wp Tryd.func51 rfl ?_
  refine wp_seq ?_
  refine Wk.reg ?_
  refine Wk.rPure 0 (some 2) (.slice none 0 0) rfl rfl (by kernel_rfl) (by kernel_rfl) ?_
  refine Wk.rEnd 1 rfl ?_
  refine Wk.nxt ?_
  refine wp_seq ?_
  refine wp_seq ?_
  refine Wk.reg ?_
  refine Wk.rPure 0 (some 3) (.slice (some ⟨q, 0, none⟩) n c) rfl rfl (by kernel_rfl) (by kernel_rfl) ?_
  refine Wk.rPure 1 (some 4) (.bool false) rfl rfl (by kernel_rfl) (by kernel_rfl) ?_
  refine Wk.rEnd 2 rfl ?_
  refine Wk.nxt ?_
  refine wp_cond_false (by kernel_rfl) ?_
  refine wp_skip ?_
  refine Wk.nxt ?_
  refine wp_seq ?_
  refine Wk.reg ?_
  refine Wk.rEx 0 (some 5) _ rfl rfl (by kernel_rfl) (Wk.new_ex (.slice (some ⟨w.heap.size, 0, none⟩) 0 0) #[] 32 (by kernel_rfl)) ?_
  rintro _ W1 ⟨rfl, hb1, ch1, sz1⟩
  have zz1 := ch1.size
  refine Wk.rPure 1 (some 6) (.slice (some ⟨q, 0, none⟩) n c) rfl rfl (by kernel_rfl) (by kernel_rfl) ?_
  have ow1 := Mur.ownA_empty hb1 (Nat.le_refl _)
  have ow2 := Mur.OwnA.chg h ch1 (fun q e _ _ => trivial)
  refine Wk.rEx 2 (some 7) _ rfl rfl (by kernel_rfl) (Mur.appendA (.tmp 5) (.tmp 6) 22 32 rfl Tryd.underlying22 attI w.heap.size (some ⟨w.heap.size, 0, none⟩) 0 0 ([]) (some ⟨q, 0, none⟩) n c L (by kernel_rfl) (by kernel_rfl) ow1 ow2.sl (fun h => by cases h) (by omega) (by omega) n (by omega) L rfl) ?_
  rintro _ W2 ⟨AA1, nn1, rfl, ow3, ch2, ha1⟩
  have zz2 := ch2.size
  have hq1 := ow3.nc
  have hq2 := ow3.cm
  refine Wk.rPure 3 (some 2) (.slice AA1 n nn1) rfl rfl (by kernel_rfl) (by kernel_rfl) ?_
  refine Wk.rEnd 4 rfl ?_
  refine Wk.nxt ?_
  refine wp_ret ?_
  have kk1 : Wk.Chg [] w W1 := Wk.Chg.step ((Wk.Chg.refl _).more (by simp)) ch1 trivial
  have kk2 := Wk.Chg.step kk1 ch2 (Wk.newOr_blk (fun g hg => by have := ow1.lt g hg; omega))
  refine Wk.ret (.slice AA1 n nn1) rfl (by kernel_rfl) ?_
  exact ⟨_, _, rfl, ow3, kk2⟩
theorem Copy_any (lo : Nat) (L : List Att) (g : Nat) (F : List Nat) (w : World) (h : Mur.SetF 32 57 lo w g L F) : Calls Tryd.prog 27 #[.pointer (some ⟨g, 0, none⟩)] w fun e w' => ∃ g' F', e = .returned (.pointer (some ⟨g', 0, none⟩)) ∧ Mur.SetF 32 57 w.heap.size w' g' L F' ∧ Wk.Chg [] w w' := by
  have hmem_ := Mur.SetF.mem h
  obtain ⟨A, n, c, hS, rfl⟩ := h
  have hpS := hS.hp
  have hgl := (Array.getElem?_eq_some_iff.1 hpS).1
  have hOw := hS.own
  have hlen := hS.len
  have hOl := hOw.sl.len
  have hOc := hOw.nc
  have hlo_ := hS.lo_
  rcases hOw.cur with ⟨rfl, rfl, rfl⟩ | ⟨q, cur, rfl, hbq_, hq_, _, _⟩
  · obtain rfl : L = [] := List.eq_nil_of_length_eq_zero hOl
    refine calls_of_wp Tryd.func27 rfl ?_
    refine wp_seq ?_
    refine Wk.reg ?_
    refine Wk.rPure 0 (some 2) (.pointer none) rfl rfl (by kernel_rfl) (by kernel_rfl) ?_
    refine Wk.rEnd 1 rfl ?_
    refine Wk.nxt ?_
    refine wp_seq ?_
    refine wp_seq ?_
    refine Wk.reg ?_
    refine Wk.rPure 0 (some 3) (.pointer (some ⟨g, 0, none⟩)) rfl rfl (by kernel_rfl) (by kernel_rfl) ?_
    refine Wk.rPure 1 (some 4) (.bool false) rfl rfl (by kernel_rfl) (by kernel_rfl) ?_
    refine Wk.rEnd 2 rfl ?_
    refine Wk.nxt ?_
    refine wp_cond_false (by kernel_rfl) ?_
    refine wp_skip ?_
    refine Wk.nxt ?_
    refine wp_seq ?_
    refine Wk.reg ?_
    refine Wk.rPure 0 (some 5) (.pointer (some ⟨g, 0, none⟩)) rfl rfl (by kernel_rfl) (by kernel_rfl) ?_
    refine Wk.rPure 1 (some 6) (.pointer (some ⟨g, 0, none⟩)) rfl rfl (by kernel_rfl) (by kernel_rfl) ?_
    refine Wk.rPure 2 (some 7) (.pointer (some ⟨g, 0, none⟩)) rfl rfl (by kernel_rfl) (by kernel_rfl) ?_
    refine Wk.rPure 3 (some 8) (.slice none 0 0) rfl rfl (by kernel_rfl) (Wk.load1 22 (.tmp 7) rfl (by kernel_rfl) ⟨g, 0, none⟩ (by kernel_rfl) (.slice none 0 0) ((cell_of_row _ _ 0 _ _ _ hpS).trans rfl)) ?_
    refine Wk.rCall 4 (some 9) 51 [.tmp 8] #[22] [.slice none 0 0] rfl rfl (by kernel_rfl) rfl (by kernel_rfl) (by kernel_rfl) ?_
    refine (Clone_none w).mono ?_
    rintro _ W1 ⟨rfl, ch1⟩
    have zz1 := ch1.size
    refine ⟨_, rfl, ?_⟩
    refine Wk.rPure 5 (some 10) (.agg #[.slice none 0 0]) rfl rfl (by kernel_rfl) (by kernel_rfl) ?_
    refine Wk.rEx 6 (some 11) _ rfl rfl (by kernel_rfl) (Wk.new_ex (.pointer (some ⟨W1.heap.size, 0, none⟩)) #[.slice none 0 0] 57 (by kernel_rfl)) ?_
    rintro _ W2 ⟨rfl, hb1, ch2, sz1⟩
    have zz2 := ch2.size
    refine Wk.rPure 7 (some 2) (.pointer (some ⟨W1.heap.size, 0, none⟩)) rfl rfl (by kernel_rfl) (by kernel_rfl) ?_
    refine Wk.rEnd 8 rfl ?_
    refine Wk.nxt ?_
    refine wp_ret ?_
    have kk1 : Wk.Chg [] w W1 := Wk.Chg.step ((Wk.Chg.refl _).more (by simp)) ch1 trivial
    have kk2 := Wk.Chg.step kk1 ch2 trivial
    refine Wk.ret (.pointer (some ⟨W1.heap.size, 0, none⟩)) rfl (by kernel_rfl) ?_
    exact ⟨W1.heap.size, _, rfl, ⟨_, _, _, ⟨hb1, Mur.ownA_nil _ _ _, (fun q h => by cases h), by omega, hS.srt, hS.len, hS.ok⟩, rfl⟩, kk2⟩
  · have hql_ := (Array.getElem?_eq_some_iff.1 hq_).1
    refine calls_of_wp Tryd.func27 rfl ?_
    refine wp_seq ?_
    refine Wk.reg ?_
    refine Wk.rPure 0 (some 2) (.pointer none) rfl rfl (by kernel_rfl) (by kernel_rfl) ?_
    refine Wk.rEnd 1 rfl ?_
    refine Wk.nxt ?_
    refine wp_seq ?_
    refine wp_seq ?_
    refine Wk.reg ?_
    refine Wk.rPure 0 (some 3) (.pointer (some ⟨g, 0, none⟩)) rfl rfl (by kernel_rfl) (by kernel_rfl) ?_
    refine Wk.rPure 1 (some 4) (.bool false) rfl rfl (by kernel_rfl) (by kernel_rfl) ?_
    refine Wk.rEnd 2 rfl ?_
    refine Wk.nxt ?_
    refine wp_cond_false (by kernel_rfl) ?_
    refine wp_skip ?_
    refine Wk.nxt ?_
    refine wp_seq ?_
    refine Wk.reg ?_
    refine Wk.rPure 0 (some 5) (.pointer (some ⟨g, 0, none⟩)) rfl rfl (by kernel_rfl) (by kernel_rfl) ?_
    refine Wk.rPure 1 (some 6) (.pointer (some ⟨g, 0, none⟩)) rfl rfl (by kernel_rfl) (by kernel_rfl) ?_
    refine Wk.rPure 2 (some 7) (.pointer (some ⟨g, 0, none⟩)) rfl rfl (by kernel_rfl) (by kernel_rfl) ?_
    refine Wk.rPure 3 (some 8) (.slice (some ⟨q, 0, none⟩) n c) rfl rfl (by kernel_rfl) (Wk.load1 22 (.tmp 7) rfl (by kernel_rfl) ⟨g, 0, none⟩ (by kernel_rfl) (.slice (some ⟨q, 0, none⟩) n c) ((cell_of_row _ _ 0 _ _ _ hpS).trans rfl)) ?_
    refine Wk.rCall 4 (some 9) 51 [.tmp 8] #[22] [.slice (some ⟨q, 0, none⟩) n c] rfl rfl (by kernel_rfl) rfl (by kernel_rfl) (by kernel_rfl) ?_
    refine (Clone_some lo q n c L w hOw (by omega)).mono ?_
    rintro _ W3 ⟨AA1, nn1, rfl, ow1, ch3⟩
    have zz3 := ch3.size
    have hq1 := ow1.nc
    refine ⟨_, rfl, ?_⟩
    refine Wk.rPure 5 (some 10) (.agg #[.slice AA1 n nn1]) rfl rfl (by kernel_rfl) (by kernel_rfl) ?_
    refine Wk.rEx 6 (some 11) _ rfl rfl (by kernel_rfl) (Wk.new_ex (.pointer (some ⟨W3.heap.size, 0, none⟩)) #[.slice AA1 n nn1] 57 (by kernel_rfl)) ?_
    rintro _ W4 ⟨rfl, hb2, ch4, sz2⟩
    have zz4 := ch4.size
    refine Wk.rPure 7 (some 2) (.pointer (some ⟨W3.heap.size, 0, none⟩)) rfl rfl (by kernel_rfl) (by kernel_rfl) ?_
    refine Wk.rEnd 8 rfl ?_
    refine Wk.nxt ?_
    refine wp_ret ?_
    have ow2 := Mur.OwnA.chg ow1 ch4 (fun q e _ _ => trivial)
    have kk3 : Wk.Chg [] w W3 := Wk.Chg.step ((Wk.Chg.refl _).more (by simp)) ch3 trivial
    have kk4 := Wk.Chg.step kk3 ch4 trivial
    refine Wk.ret (.pointer (some ⟨W3.heap.size, 0, none⟩)) rfl (by kernel_rfl) ?_
    exact ⟨W3.heap.size, _, rfl, ⟨_, _, _, ⟨hb2, ow2, (fun q_ h_ => by have := ow1.lt q_ h_; omega), by omega, hS.srt, hS.len, hS.ok⟩, rfl⟩, kk4⟩
theorem Copy_nil (w : World) : Calls Tryd.prog 27 #[.pointer none] w fun e w' => e = .returned (.pointer none) ∧ Wk.Chg [] w w' := by
  refine calls_of_wp Tryd.func27 rfl ?_
  refine wp_seq ?_
  refine Wk.reg ?_
  refine Wk.rPure 0 (some 2) (.pointer none) rfl rfl (by kernel_rfl) (by kernel_rfl) ?_
  refine Wk.rEnd 1 rfl ?_
  refine Wk.nxt ?_
  refine wp_seq ?_
  refine wp_seq ?_
  refine Wk.reg ?_
  refine Wk.rPure 0 (some 3) (.pointer none) rfl rfl (by kernel_rfl) (by kernel_rfl) ?_
  refine Wk.rPure 1 (some 4) (.bool true) rfl rfl (by kernel_rfl) (by kernel_rfl) ?_
  refine Wk.rEnd 2 rfl ?_
  refine Wk.nxt ?_
  refine wp_cond_true (by kernel_rfl) ?_
  refine wp_seq ?_
  refine Wk.reg ?_
  refine Wk.rPure 0 (some 2) (.pointer none) rfl rfl (by kernel_rfl) (by kernel_rfl) ?_
  refine Wk.rEnd 1 rfl ?_
  refine Wk.nxt ?_
  refine wp_ret ?_
  refine Wk.thR ?_
  refine Wk.ret (.pointer none) rfl (by kernel_rfl) ?_
  exact ⟨rfl, (Wk.Chg.refl _)⟩
theorem below_seqn (A : Option Addr) (n c : Nat) (b1 b2 : Nat) (w : World) (hX1 : w.heap[b1]? = some (.cells #[.pointer none] 24 (0, 0))) (hX2 : w.heap[b2]? = some (.cells #[.slice A n c] 38 (0, 0))) : Wk.Seq Tryd.prog 64 #[.pointer (some ⟨b1, 0, none⟩), .pointer (some ⟨b2, 0, none⟩)] Mur.encA [] [b1, b2] w := by
  refine ⟨fun k_ hk_ => ?_, fun l J W hW hJ0 hY hJ => ?_⟩
  · simp only [List.mem_cons, List.not_mem_nil, or_false] at hk_
    rcases hk_ with rfl | rfl
    · exact (Array.getElem?_eq_some_iff.1 hX1).1
    · exact (Array.getElem?_eq_some_iff.1 hX2).1
  · replace hX1 := hW.hp hX1 (by simp)
    replace hX2 := hW.hp hX2 (by simp)
    show Calls Tryd.prog 64 #[.func (.yield l) #[] #[], .pointer (some ⟨b1, 0, none⟩), .pointer (some ⟨b2, 0, none⟩)] W _
    refine calls_of_wp Tryd.func64 rfl ?_
    refine wp_scope_straight ?_
    refine wp_seq ?_
    refine wp_seq ?_
    refine Wk.reg ?_
    refine Wk.rPure 0 (some 8) (.pointer none) rfl rfl (by kernel_rfl) (Wk.load1 24 (.tmp 1) rfl (by kernel_rfl) ⟨b1, 0, none⟩ (by kernel_rfl) (.pointer none) ((cell_of_row _ _ 0 _ _ _ hX1).trans rfl)) ?_
    refine Wk.rPure 1 (some 9) (.bool true) rfl rfl (by kernel_rfl) (by kernel_rfl) ?_
    refine Wk.rPure 2 (some 10) (.bool true) rfl rfl (by kernel_rfl) (by kernel_rfl) ?_
    refine Wk.rPass 3 (some 11) rfl rfl (by kernel_rfl) ?_
    refine Wk.rPass 4 (some 12) rfl rfl (by kernel_rfl) ?_
    refine Wk.rPass 5 (some 13) rfl rfl (by kernel_rfl) ?_
    refine Wk.rPure 6 (some 14) (.bool true) rfl rfl (by kernel_rfl) (by kernel_rfl) ?_
    refine Wk.rEnd 7 rfl ?_
    refine Wk.nxt ?_
    refine wp_cond_true (by kernel_rfl) ?_
    refine wp_ret ?_
    refine Wk.thR ?_
    refine Wk.ngR ?_
    refine Wk.ret (.tuple #[]) rfl (by kernel_rfl) ?_
    exact ⟨⟨_, rfl⟩, hJ⟩
theorem Below_nil (A : Option Addr) (n c : Nat) (w : World) : Calls Tryd.prog 18 #[.pointer none, .slice A n c] w fun e w' => ∃ A n c, e = .returned (.slice A n c) ∧ OwnA w' w.heap.size 32 A n c [] ∧ Wk.Chg [] w w' := by
  refine calls_of_wp Tryd.func18 rfl ?_
  refine wp_seq ?_
  refine Wk.reg ?_
  refine Wk.rPure 0 (some 4) (.slice none 0 0) rfl rfl (by kernel_rfl) (by kernel_rfl) ?_
  refine Wk.rEnd 1 rfl ?_
  refine Wk.nxt ?_
  refine wp_seq ?_
  refine Wk.reg ?_
  refine Wk.rPure 0 (some 5) (.pointer none) rfl rfl (by kernel_rfl) (by kernel_rfl) ?_
  refine Wk.rPure 1 (some 6) (.slice A n c) rfl rfl (by kernel_rfl) (by kernel_rfl) ?_
  refine Wk.rCall 2 (some 7) 42 [.tmp 5, .tmp 6] #[24, 38] [.pointer none, .slice A n c] rfl rfl (by kernel_rfl) rfl (by kernel_rfl) (by kernel_rfl) ?_
  refine (below_nil A n c w).mono ?_
  rintro _ W1 ⟨bq1, bq2, rfl, hbq1, hbq2, hzq1, hzq2, hzq3, ch1⟩
  have zz1 := ch1.size
  refine ⟨_, rfl, ?_⟩
  refine Wk.rCall 3 (some 8) 44 [.tmp 7] #[85] [.func (.func 64) #[] #[.pointer (some ⟨bq1, 0, none⟩), .pointer (some ⟨bq2, 0, none⟩)]] rfl rfl (by kernel_rfl) rfl (by kernel_rfl) (by kernel_rfl) ?_
  refine (Collect_any bq1 bq2 ([] : List Att) ([bq1, bq2]) W1 (below_seqn A n c bq1 bq2 W1 hbq1 hbq2) (Nat.zero_le _)).mono ?_
  rintro _ W2 ⟨AA1, nn1, nn2, rfl, ow1, ch2⟩
  have zz2 := ch2.size
  have hq1 := ow1.nc
  have hq2 := ow1.cm
  have hq3 := ow1.sl.len
  refine ⟨_, rfl, ?_⟩
  refine Wk.rPure 4 (some 4) (.slice AA1 nn1 nn2) rfl rfl (by kernel_rfl) (by kernel_rfl) ?_
  refine Wk.rEnd 5 rfl ?_
  refine Wk.nxt ?_
  refine wp_ret ?_
  have kk1 : Wk.Chg [] w W1 := Wk.Chg.step ((Wk.Chg.refl _).more (by simp)) ch1 trivial
  have kk2 := Wk.Chg.step kk1 ch2 trivial
  refine Wk.ret (.slice AA1 nn1 nn2) rfl (by kernel_rfl) ?_
  exact ⟨_, _, _, rfl, ow1.rebase (fun q_ h_ => by have := ow1.lt q_ h_; omega), kk2⟩
theorem Of_any (lo : Nat) (L : List Att) (g : Nat) (F : List Nat) (k : List UInt8) (w : World) (h : Mur.SetF 32 57 lo w g L F) (hk : k.length = 32) : Calls Tryd.prog 31 #[.pointer (some ⟨g, 0, none⟩), .agg (b8s k).toArray] w fun e w' => ∃ A n c, e = .returned (.slice A n c) ∧ OwnA w' w.heap.size 32 A n c (Mur.ofK k L) ∧ Wk.Chg [] w w' := by
  have hM_ := Mur.SetF.mem h
  have hS_ := Mur.SetF.len h
  refine Wk.calls_of_wpM Tryd.func31 rfl ?_
  refine Wk.noP ?_
  refine wp_seq ?_
  refine Wk.reg ?_
  refine Wk.rEx 0 (some 3) _ rfl rfl (by kernel_rfl) (Wk.new_ex (.pointer (some ⟨w.heap.size, 0, none⟩)) ((b8s k).toArray) 30 (by kernel_rfl)) ?_
  rintro _ W1 ⟨rfl, hb1, ch1, sz1⟩
  have zz1 := ch1.size
  refine Wk.rEx 1 (some 4) _ rfl rfl (by kernel_rfl) (Wk.new_ex (.pointer (some ⟨W1.heap.size, 0, none⟩)) #[.slice none 0 0] 22 (by kernel_rfl)) ?_
  rintro _ W2 ⟨rfl, hb2, ch2, sz2⟩
  have zz2 := ch2.size
  refine Wk.rEnd 2 rfl ?_
  refine Wk.nxt ?_
  refine wp_seq ?_
  refine wp_seq ?_
  refine Wk.reg ?_
  refine Wk.rPure 0 (some 6) (.pointer (some ⟨g, 0, none⟩)) rfl rfl (by kernel_rfl) (by kernel_rfl) ?_
  refine Wk.rCall 1 (some 7) 42 [.tmp 6, .const (.slice none 0 0)] #[24, 38] [.pointer (some ⟨g, 0, none⟩), .slice none 0 0] rfl rfl (by kernel_rfl) rfl (by kernel_rfl) (by kernel_rfl) ?_
  refine (below_any g none 0 0 W2).mono ?_
  rintro _ W3 ⟨bq1, bq2, rfl, hbq1, hbq2, hzq1, hzq2, hzq3, ch3⟩
  have zz3 := ch3.size
  refine ⟨_, rfl, ?_⟩
  refine Wk.rEnd 2 rfl ?_
  refine Wk.nxt ?_
  refine wp_block ?_
  have kk1 : Wk.Chg [] w W1 := Wk.Chg.step ((Wk.Chg.refl _).more (by simp)) ch1 trivial
  have kk2 := Wk.Chg.step kk1 ch2 trivial
  have kk3 := Wk.Chg.step kk2 ch3 trivial
  have hD1 := Mur.SetF.chg h ch1 (fun s hs => trivial)
  have hD2 := Mur.SetF.chg hD1 ch2 (fun s hs => trivial)
  have hD3 := Mur.SetF.chg hD2 ch3 (fun s hs => trivial)
  have hseq1 := below_seq lo L g F [] none 0 0 bq1 bq2 W3 hD3 (Byt.nil _ none) (by omega) hbq1 hbq2
  rw [Mur.belowL_nil] at hseq1
  have hFw := hseq1.1
  have hFb_ : ∀ k_, k_ ∈ (bq1 :: bq2 :: (F ++ Mur.pblk none 0)) → k_ ≠ W1.heap.size := fun k_ hk_ => by
    simp only [List.mem_cons, List.mem_append] at hk_
    rcases hk_ with rfl | rfl | hk_ | hk_
    · omega
    · omega
    · have := hM_ k_ hk_; omega
    · exact absurd hk_ (by simp [Mur.pblk])
  refine Wk.range (hseq1) (by kernel_rfl) (fun _ _ => by kernel_rfl) (fun x => rfl) (fun pre W' => ∃ A n c, W'.heap[W1.heap.size]? = some (.cells #[.slice A n c] 22 (0, 0)) ∧ OwnA W' W3.heap.size 32 A n c (Mur.ofK k pre) ∧ Wk.Chg [W1.heap.size] W3 W' ∧ W'.heap[w.heap.size]? = some (.cells (b8s k).toArray 30 (0, 0))) ?_ ?_ ?_ ?_ ?_
  · rintro pre A1_ A2_ ⟨A, n, c, h1, h2, h3, hE0⟩ hc
    exact ⟨A, n, c, hc.hp h1 trivial, h2.chg hc (fun _ _ _ _ => trivial), h3.step hc trivial, hc.hp hE0 trivial⟩
  · rintro pre A1_ A2_ r_ o_ ⟨A, n, c, h1, h2, h3, hE0⟩ hr ho hoc hc
    exact ⟨A, n, c, hc.hp h1 ⟨Mur.cells_ne h1 ho hoc, trivial⟩, h2.chg hc (fun q hq _ _ => ⟨h2.off_obj ho hoc q hq, trivial⟩), h3.step hc ⟨.inr hr, trivial⟩, hc.hp hE0 ⟨Mur.cells_ne hE0 ho hoc, trivial⟩⟩
  · exact ⟨none, 0, 0, (Wk.Chg.hp ch3 hb2 trivial), Mur.ownA_nil _ _ _, (Wk.Chg.refl _).more (by simp), (Wk.Chg.hp ch3 (Wk.Chg.hp ch2 hb1 trivial) trivial)⟩
  · intro lz pre x post A1 hsp hI hwl hlA hlz
    obtain ⟨A, n, c, hIp, hIo, hIc, hE0⟩ := hI
    have hlhE0_ := (Array.getElem?_eq_some_iff.1 hE0).1
    have hzI_ := hIc.size
    have hIlen := hIo.sl.len
    have hInc := hIo.nc
    have hbl_ := (Array.getElem?_eq_some_iff.1 hIp).1
    have hbz := Mur.cells_ne' hIp hlz
    have hIol := hIo.off_loop hlz
    have hpl_ : pre.length + 1 ≤ 200 := by have := congrArg List.length hsp; simp at this; omega
    have hfl_ := List.length_filter_le (fun _ : Att => true) pre
    have hbzhE0 := Mur.cells_ne' hE0 hlz
    have hol_ := Mur.ofK_len k pre
    refine Wk.regI ?_
    refine Wk.iEx 0 (some 5) _ rfl rfl rfl (by kernel_rfl) (Wk.new_ex (.pointer (some ⟨A1.heap.size, 0, none⟩)) #[.int .u8 0, .int .u8 0, .int .u8 0, .int .u8 0, .int .u8 0, .int .u8 0, .int .u8 0, .int .u8 0, .int .u8 0, .int .u8 0, .int .u8 0, .int .u8 0, .int .u8 0, .int .u8 0, .int .u8 0, .int .u8 0, .int .u8 0, .int .u8 0, .int .u8 0, .int .u8 0, .int .u8 0, .int .u8 0, .int .u8 0, .int .u8 0, .int .u8 0, .int .u8 0, .int .u8 0, .int .u8 0, .int .u8 0, .int .u8 0, .int .u8 0, .int .u8 0, .int .u8 0, .int .u8 0, .int .u8 0, .int .u8 0, .int .u8 0, .int .u8 0, .int .u8 0, .int .u8 0, .int .u8 0, .int .u8 0, .int .u8 0, .int .u8 0, .int .u8 0, .int .u8 0, .int .u8 0, .int .u8 0, .int .u8 0, .int .u8 0, .int .u8 0, .int .u8 0, .int .u8 0, .int .u8 0, .int .u8 0, .int .u8 0, .int .u8 0, .int .u8 0, .int .u8 0, .int .u8 0, .int .u8 0, .int .u8 0, .int .u8 0, .int .u8 0, .int .i64 0, .int .u8 0, .int .u8 0, .int .u8 0, .int .u8 0, .int .u8 0, .int .u8 0, .int .u8 0, .int .u8 0, .int .u8 0, .int .u8 0, .int .u8 0, .int .u8 0, .int .u8 0, .int .u8 0, .int .u8 0, .int .u8 0, .int .u8 0, .int .u8 0, .int .u8 0, .int .u8 0, .int .u8 0, .int .u8 0, .int .u8 0, .int .u8 0, .int .u8 0, .int .u8 0, .int .u8 0, .int .u8 0, .int .u8 0, .int .u8 0, .int .u8 0, .int .u8 0] 32 (by kernel_rfl)) ?_
    rintro _ W4 ⟨rfl, hb3, ch4, sz3⟩
    have zz4 := ch4.size
    rw [← Mur.attC_zero] at hb3
    refine Wk.iExS 1 none _ rfl rfl rfl (by kernel_rfl) (Mur.storeArr 32 (.tmp 5) (.tmp 8) rfl A1.heap.size (by kernel_rfl) (Mur.attC x.k x.r x.n x.t).toArray 97 (Mur.attC_size x.hk x.hr x.ht) Mur.attC_all (by kernel_rfl) (by kernel_rfl) 32 ((Mur.attC Mur.z32 Mur.z32 0 Mur.z32).toArray) hb3 (Mur.attC_size rfl rfl rfl)) ?_
    rintro W5 ⟨hb4, ch5⟩
    have zz5 := ch5.size
    refine Wk.iEnd 2 rfl ?_
    refine Wk.nxt ?_
    have kk4 : Wk.Chg [] A1 W4 := Wk.Chg.step ((Wk.Chg.refl _).more (by simp)) ch4 trivial
    have kk5 := Wk.Chg.step kk4 ch5 ⟨.inr (by omega), trivial⟩
    refine ⟨kk5, ?_⟩
    have hlz2_ := hlz.imp (fun _ h_ => Wk.Chg.hp kk5 h_ trivial)
    intro A2 hch2
    have zz6 := hch2.size
    refine wpIn_block ?_
    refine wpIn_seq ?_
    refine Wk.regI ?_
    refine Wk.iPure 0 (some 9) (.pointer (some ⟨A1.heap.size, 0, none⟩)) rfl rfl rfl (by kernel_rfl) (by kernel_rfl) ?_
    refine Wk.iPure 1 (some 10) (.agg ((b8s x.k).toArray)) rfl rfl rfl (by kernel_rfl) (Wk.loadR 30 (.tmp 9) rfl _ Tryd.underlying30 rfl A1.heap.size 0 (by kernel_rfl) (b8s x.k) (by rw [Mur.b8s_length, x.hk]; kernel_rfl) (Mur.att_key (Wk.Chg.hp hch2 hb4 ⟨by omega, trivial⟩))) ?_
    refine Wk.iPure 2 (some 11) (.agg ((b8s k).toArray)) rfl rfl rfl (by kernel_rfl) (Mur.loadAll 30 (.tmp 3) rfl _ Tryd.underlying30 rfl w.heap.size (by kernel_rfl) k 32 hk (by kernel_rfl) 30 (0, 0) (Wk.Chg.hp hch2 (Wk.Chg.hp ch5 (Wk.Chg.hp ch4 hE0 trivial) ⟨by omega, trivial⟩) ⟨by omega, trivial⟩)) ?_
    by_cases hkx : x.k = k
    · refine Wk.iPure 3 (some 12) (.bool true) rfl rfl rfl (by kernel_rfl) (Mur.run_eql_yes digT x.k k x.hk hk hkx _ (.tmp 10) (.tmp 11) 30 rfl (by kernel_rfl) (by kernel_rfl)) ?_
      refine Wk.iEnd 4 rfl ?_
      refine Wk.nxt ?_
      refine wpIn_cond_true (by kernel_rfl) ?_
      refine Wk.regI ?_
      refine Wk.iPure 0 (some 13) (.slice A n c) rfl rfl rfl (by kernel_rfl) (Wk.load1 22 (.tmp 4) rfl (by kernel_rfl) ⟨W1.heap.size, 0, none⟩ (by kernel_rfl) (.slice A n c) ((cell_of_row _ _ 0 _ _ _ (Wk.Chg.hp hch2 (Wk.Chg.hp ch5 (Wk.Chg.hp ch4 hIp trivial) ⟨by omega, trivial⟩) ⟨by omega, trivial⟩)).trans rfl)) ?_
      refine Wk.iPure 1 (some 14) (.agg ((Mur.attC x.k x.r x.n x.t).toArray)) rfl rfl rfl (by kernel_rfl) (Mur.loadArr 32 (.tmp 5) rfl _ Tryd.underlying32 rfl A1.heap.size (by kernel_rfl) (Mur.attC x.k x.r x.n x.t).toArray 97 (Mur.attC_size x.hk x.hr x.ht) (by kernel_rfl) 32 (0, 0) (Wk.Chg.hp hch2 hb4 ⟨by omega, trivial⟩)) ?_
      refine Wk.iEx 2 (some 15) _ rfl rfl rfl (by kernel_rfl) (Mur.build1 22 32 (.tmp 14) rfl Tryd.underlying22 attI x.k x.r x.t x.n x.hk x.hr x.ht (by kernel_rfl)) ?_
      rintro _ W6 ⟨rfl, hb5, ch6, sz4⟩
      have zz7 := ch6.size
      have ow1 := Mur.OwnA.chg hIo ch4 (fun q e _ _ => trivial)
      have ow2 := Mur.OwnA.chg ow1 ch5 (fun q e _ _ => ⟨by have := hIo.lt q e; omega, trivial⟩)
      have ow3 := Mur.OwnA.chg ow2 hch2 (fun q e _ _ => ⟨hIol q e, trivial⟩)
      have ow4 := Mur.OwnA.chg ow3 ch6 (fun q e _ _ => trivial)
      refine Wk.iEx 3 (some 16) _ rfl rfl rfl (by kernel_rfl) (Mur.appendA (.tmp 13) (.tmp 15) 22 32 rfl Tryd.underlying22 attI W3.heap.size A n c (Mur.ofK k pre) (some ⟨A2.heap.size, 0, none⟩) 1 1 ([x]) (by kernel_rfl) (by kernel_rfl) ow4 (Mur.slA_box x hb5) (fun h => by cases h) (by omega) (by omega) (n + 1) (by omega) ((Mur.ofK k pre) ++ ([x])) rfl) ?_
      rintro _ W7 ⟨AA1, nn1, rfl, ow5, ch7, ha1⟩
      have zz8 := ch7.size
      have hq1 := ow5.nc
      have hq2 := ow5.cm
      refine Wk.iExS 4 none _ rfl rfl rfl (by kernel_rfl) (Wk.store1 22 (.tmp 4) (.tmp 16) rfl (by kernel_rfl) W1.heap.size 0 (by kernel_rfl) (.slice AA1 (n + 1) nn1) (by kernel_rfl) rfl 22 #[.slice A n c] (Wk.Chg.hp ch7 (Wk.Chg.hp ch6 (Wk.Chg.hp hch2 (Wk.Chg.hp ch5 (Wk.Chg.hp ch4 hIp trivial) ⟨by omega, trivial⟩) ⟨by omega, trivial⟩) trivial) (Wk.off_blk (fun gz hgz => by have := hIo.lt gz hgz; omega))) (by simp)) ?_
      rintro W8 ⟨hb6, ch8⟩
      replace hb6 : W8.heap[W1.heap.size]? = some (.cells #[.slice AA1 (n + 1) nn1] 22 (0, 0)) := hb6
      have zz9 := ch8.size
      refine Wk.iEnd 5 rfl ?_
      refine Wk.inN ?_
      have kk6 : Wk.Chg ([W1.heap.size] ++ Wk.blk (.slice A n c)) A2 W6 := Wk.Chg.step ((Wk.Chg.refl _).more (by simp)) ch6 trivial
      have kk7 := Wk.Chg.step kk6 ch7 (Mur.newOr_iff.2 (fun t ht => .inl (List.mem_append_right _ ht)))
      have kk8 := Wk.Chg.step kk7 ch8 ⟨.inl (by simp), trivial⟩
      have kk9 := Wk.Chg.step hIc ch4 trivial
      have kk10 := Wk.Chg.step kk9 ch5 ⟨.inr (by omega), trivial⟩
      have kk11 := Wk.Chg.step kk10 hch2 ⟨.inr (by omega), trivial⟩
      have kk12 := Wk.Chg.step kk11 ch6 trivial
      have kk13 := Wk.Chg.step kk12 ch7 (Wk.newOr_blk (fun g hg => by have := hIo.lt g hg; omega))
      have kk14 := Wk.Chg.step kk13 ch8 ⟨.inl (by simp), trivial⟩
      have ow6 := Mur.OwnA.chg ow5 ch8 (fun q e _ _ => ⟨by have := ow5.lt q e; omega, trivial⟩)
      refine Wk.roundN _ kk8 (fun s_ hs_ hlt_ => ?_) (fun k_ hk_ => ⟨hFb_ k_ hk_, Wk.off_blk (fun q hq => by have := hIo.lt q hq; have := hFw k_ hk_; omega)⟩) ⟨_, _, _, hb6, (by rw [show Mur.ofK k (pre ++ [x]) = Mur.ofK k pre ++ [x] from Mur.ofK_yes hkx]; exact ow6), kk14, (Wk.Chg.hp ch8 (Wk.Chg.hp ch7 (Wk.Chg.hp ch6 (Wk.Chg.hp hch2 (Wk.Chg.hp ch5 (Wk.Chg.hp ch4 hE0 trivial) ⟨by omega, trivial⟩) ⟨by omega, trivial⟩) trivial) (Wk.off_blk (fun gz hgz => by have := hIo.lt gz hgz; omega))) ⟨by omega, trivial⟩)⟩
      rcases List.mem_cons.1 hs_ with rfl | hs_
      · exact ⟨_, (hch2.hp (ch5.hp (ch4.hp hIp trivial) ⟨by omega, trivial⟩) ⟨hbz, trivial⟩), rfl⟩
      · exact (Mur.OwnA.chg (Mur.OwnA.chg (Mur.OwnA.chg hIo ch4 (fun q e _ _ => trivial)) ch5 (fun q e _ _ => ⟨by have := hIo.lt q e; omega, trivial⟩)) hch2 (fun q e _ _ => ⟨hIol q e, trivial⟩)).isCells hs_
    · refine Wk.iPure 3 (some 12) (.bool false) rfl rfl rfl (by kernel_rfl) (Mur.run_eql_no digT x.k k x.hk hk hkx _ (.tmp 10) (.tmp 11) 30 rfl (by kernel_rfl) (by kernel_rfl)) ?_
      refine Wk.iEnd 4 rfl ?_
      refine Wk.nxt ?_
      refine wpIn_cond_false (by kernel_rfl) ?_
      refine wpIn_skip ?_
      refine Wk.inN ?_
      have kk15 := Wk.Chg.step hIc ch4 trivial
      have kk16 := Wk.Chg.step kk15 ch5 ⟨.inr (by omega), trivial⟩
      have kk17 := Wk.Chg.step kk16 hch2 ⟨.inr (by omega), trivial⟩
      have ow7 := Mur.OwnA.chg hIo ch4 (fun q e _ _ => trivial)
      have ow8 := Mur.OwnA.chg ow7 ch5 (fun q e _ _ => ⟨by have := hIo.lt q e; omega, trivial⟩)
      have ow9 := Mur.OwnA.chg ow8 hch2 (fun q e _ _ => ⟨hIol q e, trivial⟩)
      refine Wk.roundN _ (Wk.Chg.refl _) (fun s_ hs_ => absurd hs_ (by simp)) (fun k_ hk_ => trivial) ⟨_, _, _, (Wk.Chg.hp hch2 (Wk.Chg.hp ch5 (Wk.Chg.hp ch4 hIp trivial) ⟨by omega, trivial⟩) ⟨by omega, trivial⟩), (by rw [show Mur.ofK k (pre ++ [x]) = Mur.ofK k pre from Mur.ofK_no hkx]; exact ow9), kk17, (Wk.Chg.hp hch2 (Wk.Chg.hp ch5 (Wk.Chg.hp ch4 hE0 trivial) ⟨by omega, trivial⟩) ⟨by omega, trivial⟩)⟩
  · intro D W9 hI hwD hKD
    obtain ⟨A, n, c, hIp, hIo, hIc, hE0⟩ := hI
    have hlhE0_ := (Array.getElem?_eq_some_iff.1 hE0).1
    have hzI_ := hIc.size
    have hIlen := hIo.sl.len
    have hInc := hIo.nc
    have hbl_ := (Array.getElem?_eq_some_iff.1 hIp).1
    have hbD := Mur.cells_ne hIp hKD rfl
    have hIoD := hIo.off_obj hKD rfl
    have hDl := (Array.getElem?_eq_some_iff.1 hKD).1
    have hbDhE0 := Mur.cells_ne hE0 hKD rfl
    have hW9 : Wk.Chg [] w W9 := Wk.Chg.step kk3 hIc ⟨.inr (by omega), trivial⟩
    refine Wk.inN ?_
    refine Wk.nxt ?_
    refine wp_seq ?_
    refine Wk.reg ?_
    refine Wk.rPure 0 (some 17) (.slice A n c) rfl rfl (by kernel_rfl) (Wk.load1 22 (.tmp 4) rfl (by kernel_rfl) ⟨W1.heap.size, 0, none⟩ (by kernel_rfl) (.slice A n c) ((cell_of_row _ _ 0 _ _ _ hIp).trans rfl)) ?_
    refine Wk.rExS 1 none _ rfl rfl (by kernel_rfl) (Wk.store1 22 (.tmp 4) (.tmp 17) rfl (by kernel_rfl) W1.heap.size 0 (by kernel_rfl) (.slice A n c) (by kernel_rfl) rfl 22 #[.slice A n c] hIp (by simp)) ?_
    rintro W10 ⟨hb7, ch9⟩
    replace hb7 : W10.heap[W1.heap.size]? = some (.cells #[.slice A n c] 22 (0, 0)) := hb7
    have zz10 := ch9.size
    refine Wk.rEnd 2 rfl ?_
    refine Wk.nxt ?_
    refine wp_ret ?_
    refine Wk.npR ?_
    refine Wk.retM D rfl (Wk.Chg.hp ch9 hKD ⟨by omega, trivial⟩) ?_
    intro W11 ch10
    have zz11 := ch10.size
    have ow10 := Mur.OwnA.chg hIo ch9 (fun q e _ _ => ⟨by have := hIo.lt q e; omega, trivial⟩)
    have ow11 := Mur.OwnA.chg ow10 ch10 (fun q e _ _ => ⟨hIoD q e, trivial⟩)
    have kk18 := Wk.Chg.step hW9 ch9 ⟨.inr (by omega), trivial⟩
    have kk19 := Wk.Chg.step kk18 ch10 ⟨.inr (by omega), trivial⟩
    refine ⟨.slice A n c, Mur.results_sl rfl _ _ W1.heap.size 22 (.slice A n c) (0, 0) (by kernel_rfl) (Wk.Chg.hp ch10 hb7 ⟨by omega, trivial⟩) (by kernel_rfl), ⟨_, _, _, rfl, ow11.rebase (fun q_ h_ => by have := hIo.lt q_ h_; omega), kk19⟩⟩
theorem Of_nil (k : List UInt8) (w : World) (hk : k.length = 32) : Calls Tryd.prog 31 #[.pointer none, .agg (b8s k).toArray] w fun e w' => ∃ A n c, e = .returned (.slice A n c) ∧ OwnA w' w.heap.size 32 A n c [] ∧ Wk.Chg [] w w' := by
  refine Wk.calls_of_wpM Tryd.func31 rfl ?_
  refine Wk.noP ?_
  refine wp_seq ?_
  refine Wk.reg ?_
  refine Wk.rEx 0 (some 3) _ rfl rfl (by kernel_rfl) (Wk.new_ex (.pointer (some ⟨w.heap.size, 0, none⟩)) ((b8s k).toArray) 30 (by kernel_rfl)) ?_
  rintro _ W1 ⟨rfl, hb1, ch1, sz1⟩
  have zz1 := ch1.size
  refine Wk.rEx 1 (some 4) _ rfl rfl (by kernel_rfl) (Wk.new_ex (.pointer (some ⟨W1.heap.size, 0, none⟩)) #[.slice none 0 0] 22 (by kernel_rfl)) ?_
  rintro _ W2 ⟨rfl, hb2, ch2, sz2⟩
  have zz2 := ch2.size
  refine Wk.rEnd 2 rfl ?_
  refine Wk.nxt ?_
  refine wp_seq ?_
  refine wp_seq ?_
  refine Wk.reg ?_
  refine Wk.rPure 0 (some 6) (.pointer none) rfl rfl (by kernel_rfl) (by kernel_rfl) ?_
  refine Wk.rCall 1 (some 7) 42 [.tmp 6, .const (.slice none 0 0)] #[24, 38] [.pointer none, .slice none 0 0] rfl rfl (by kernel_rfl) rfl (by kernel_rfl) (by kernel_rfl) ?_
  refine (below_nil none 0 0 W2).mono ?_
  rintro _ W3 ⟨bq1, bq2, rfl, hbq1, hbq2, hzq1, hzq2, hzq3, ch3⟩
  have zz3 := ch3.size
  refine ⟨_, rfl, ?_⟩
  refine Wk.rEnd 2 rfl ?_
  refine Wk.nxt ?_
  refine wp_block ?_
  have kk1 : Wk.Chg [] w W1 := Wk.Chg.step ((Wk.Chg.refl _).more (by simp)) ch1 trivial
  have kk2 := Wk.Chg.step kk1 ch2 trivial
  have kk3 := Wk.Chg.step kk2 ch3 trivial
  have hseq1 := below_seqn none 0 0 bq1 bq2 W3 hbq1 hbq2
  have hFw := hseq1.1
  have hFb_ : ∀ k_, k_ ∈ [bq1, bq2] → k_ ≠ W1.heap.size := fun k_ hk_ => by
    simp only [List.mem_cons, List.not_mem_nil, or_false] at hk_
    rcases hk_ with rfl | rfl <;> omega
  refine Wk.range (hseq1) (by kernel_rfl) (fun _ _ => by kernel_rfl) (fun x => rfl) (fun pre W' => ∃ A n c, W'.heap[W1.heap.size]? = some (.cells #[.slice A n c] 22 (0, 0)) ∧ OwnA W' W3.heap.size 32 A n c (Mur.ofK k pre) ∧ Wk.Chg [W1.heap.size] W3 W' ∧ W'.heap[w.heap.size]? = some (.cells (b8s k).toArray 30 (0, 0))) ?_ ?_ ?_ ?_ ?_
  · rintro pre A1_ A2_ ⟨A, n, c, h1, h2, h3, hE0⟩ hc
    exact ⟨A, n, c, hc.hp h1 trivial, h2.chg hc (fun _ _ _ _ => trivial), h3.step hc trivial, hc.hp hE0 trivial⟩
  · rintro pre A1_ A2_ r_ o_ ⟨A, n, c, h1, h2, h3, hE0⟩ hr ho hoc hc
    exact ⟨A, n, c, hc.hp h1 ⟨Mur.cells_ne h1 ho hoc, trivial⟩, h2.chg hc (fun q hq _ _ => ⟨h2.off_obj ho hoc q hq, trivial⟩), h3.step hc ⟨.inr hr, trivial⟩, hc.hp hE0 ⟨Mur.cells_ne hE0 ho hoc, trivial⟩⟩
  · exact ⟨none, 0, 0, (Wk.Chg.hp ch3 hb2 trivial), Mur.ownA_nil _ _ _, (Wk.Chg.refl _).more (by simp), (Wk.Chg.hp ch3 (Wk.Chg.hp ch2 hb1 trivial) trivial)⟩
  · intro lz pre x post A1 hsp hI hwl hlA hlz
    obtain ⟨A, n, c, hIp, hIo, hIc, hE0⟩ := hI
    have hlhE0_ := (Array.getElem?_eq_some_iff.1 hE0).1
    have hzI_ := hIc.size
    have hIlen := hIo.sl.len
    have hInc := hIo.nc
    have hbl_ := (Array.getElem?_eq_some_iff.1 hIp).1
    have hbz := Mur.cells_ne' hIp hlz
    have hIol := hIo.off_loop hlz
    have hpl_ : pre.length + 1 ≤ 200 := by have := congrArg List.length hsp; simp at this <;> omega
    have hfl_ := List.length_filter_le (fun _ : Att => true) pre
    have hbzhE0 := Mur.cells_ne' hE0 hlz
    have hol_ := Mur.ofK_len k pre
    refine Wk.regI ?_
    refine Wk.iEx 0 (some 5) _ rfl rfl rfl (by kernel_rfl) (Wk.new_ex (.pointer (some ⟨A1.heap.size, 0, none⟩)) #[.int .u8 0, .int .u8 0, .int .u8 0, .int .u8 0, .int .u8 0, .int .u8 0, .int .u8 0, .int .u8 0, .int .u8 0, .int .u8 0, .int .u8 0, .int .u8 0, .int .u8 0, .int .u8 0, .int .u8 0, .int .u8 0, .int .u8 0, .int .u8 0, .int .u8 0, .int .u8 0, .int .u8 0, .int .u8 0, .int .u8 0, .int .u8 0, .int .u8 0, .int .u8 0, .int .u8 0, .int .u8 0, .int .u8 0, .int .u8 0, .int .u8 0, .int .u8 0, .int .u8 0, .int .u8 0, .int .u8 0, .int .u8 0, .int .u8 0, .int .u8 0, .int .u8 0, .int .u8 0, .int .u8 0, .int .u8 0, .int .u8 0, .int .u8 0, .int .u8 0, .int .u8 0, .int .u8 0, .int .u8 0, .int .u8 0, .int .u8 0, .int .u8 0, .int .u8 0, .int .u8 0, .int .u8 0, .int .u8 0, .int .u8 0, .int .u8 0, .int .u8 0, .int .u8 0, .int .u8 0, .int .u8 0, .int .u8 0, .int .u8 0, .int .u8 0, .int .i64 0, .int .u8 0, .int .u8 0, .int .u8 0, .int .u8 0, .int .u8 0, .int .u8 0, .int .u8 0, .int .u8 0, .int .u8 0, .int .u8 0, .int .u8 0, .int .u8 0, .int .u8 0, .int .u8 0, .int .u8 0, .int .u8 0, .int .u8 0, .int .u8 0, .int .u8 0, .int .u8 0, .int .u8 0, .int .u8 0, .int .u8 0, .int .u8 0, .int .u8 0, .int .u8 0, .int .u8 0, .int .u8 0, .int .u8 0, .int .u8 0, .int .u8 0, .int .u8 0] 32 (by kernel_rfl)) ?_
    rintro _ W4 ⟨rfl, hb3, ch4, sz3⟩
    have zz4 := ch4.size
    rw [← Mur.attC_zero] at hb3
    refine Wk.iExS 1 none _ rfl rfl rfl (by kernel_rfl) (Mur.storeArr 32 (.tmp 5) (.tmp 8) rfl A1.heap.size (by kernel_rfl) (Mur.attC x.k x.r x.n x.t).toArray 97 (Mur.attC_size x.hk x.hr x.ht) Mur.attC_all (by kernel_rfl) (by kernel_rfl) 32 ((Mur.attC Mur.z32 Mur.z32 0 Mur.z32).toArray) hb3 (Mur.attC_size rfl rfl rfl)) ?_
    rintro W5 ⟨hb4, ch5⟩
    have zz5 := ch5.size
    refine Wk.iEnd 2 rfl ?_
    refine Wk.nxt ?_
    have kk4 : Wk.Chg [] A1 W4 := Wk.Chg.step ((Wk.Chg.refl _).more (by simp)) ch4 trivial
    have kk5 := Wk.Chg.step kk4 ch5 ⟨.inr (by omega), trivial⟩
    refine ⟨kk5, ?_⟩
    have hlz2_ := hlz.imp (fun _ h_ => Wk.Chg.hp kk5 h_ trivial)
    intro A2 hch2
    have zz6 := hch2.size
    refine wpIn_block ?_
    refine wpIn_seq ?_
    refine Wk.regI ?_
    refine Wk.iPure 0 (some 9) (.pointer (some ⟨A1.heap.size, 0, none⟩)) rfl rfl rfl (by kernel_rfl) (by kernel_rfl) ?_
    refine Wk.iPure 1 (some 10) (.agg ((b8s x.k).toArray)) rfl rfl rfl (by kernel_rfl) (Wk.loadR 30 (.tmp 9) rfl _ Tryd.underlying30 rfl A1.heap.size 0 (by kernel_rfl) (b8s x.k) (by rw [Mur.b8s_length, x.hk]; kernel_rfl) (Mur.att_key (Wk.Chg.hp hch2 hb4 ⟨by omega, trivial⟩))) ?_
    refine Wk.iPure 2 (some 11) (.agg ((b8s k).toArray)) rfl rfl rfl (by kernel_rfl) (Mur.loadAll 30 (.tmp 3) rfl _ Tryd.underlying30 rfl w.heap.size (by kernel_rfl) k 32 hk (by kernel_rfl) 30 (0, 0) (Wk.Chg.hp hch2 (Wk.Chg.hp ch5 (Wk.Chg.hp ch4 hE0 trivial) ⟨by omega, trivial⟩) ⟨by omega, trivial⟩)) ?_
    by_cases hkx : x.k = k
    · refine Wk.iPure 3 (some 12) (.bool true) rfl rfl rfl (by kernel_rfl) (Mur.run_eql_yes digT x.k k x.hk hk hkx _ (.tmp 10) (.tmp 11) 30 rfl (by kernel_rfl) (by kernel_rfl)) ?_
      refine Wk.iEnd 4 rfl ?_
      refine Wk.nxt ?_
      refine wpIn_cond_true (by kernel_rfl) ?_
      refine Wk.regI ?_
      refine Wk.iPure 0 (some 13) (.slice A n c) rfl rfl rfl (by kernel_rfl) (Wk.load1 22 (.tmp 4) rfl (by kernel_rfl) ⟨W1.heap.size, 0, none⟩ (by kernel_rfl) (.slice A n c) ((cell_of_row _ _ 0 _ _ _ (Wk.Chg.hp hch2 (Wk.Chg.hp ch5 (Wk.Chg.hp ch4 hIp trivial) ⟨by omega, trivial⟩) ⟨by omega, trivial⟩)).trans rfl)) ?_
      refine Wk.iPure 1 (some 14) (.agg ((Mur.attC x.k x.r x.n x.t).toArray)) rfl rfl rfl (by kernel_rfl) (Mur.loadArr 32 (.tmp 5) rfl _ Tryd.underlying32 rfl A1.heap.size (by kernel_rfl) (Mur.attC x.k x.r x.n x.t).toArray 97 (Mur.attC_size x.hk x.hr x.ht) (by kernel_rfl) 32 (0, 0) (Wk.Chg.hp hch2 hb4 ⟨by omega, trivial⟩)) ?_
      refine Wk.iEx 2 (some 15) _ rfl rfl rfl (by kernel_rfl) (Mur.build1 22 32 (.tmp 14) rfl Tryd.underlying22 attI x.k x.r x.t x.n x.hk x.hr x.ht (by kernel_rfl)) ?_
      rintro _ W6 ⟨rfl, hb5, ch6, sz4⟩
      have zz7 := ch6.size
      have ow1 := Mur.OwnA.chg hIo ch4 (fun q e _ _ => trivial)
      have ow2 := Mur.OwnA.chg ow1 ch5 (fun q e _ _ => ⟨by have := hIo.lt q e; omega, trivial⟩)
      have ow3 := Mur.OwnA.chg ow2 hch2 (fun q e _ _ => ⟨hIol q e, trivial⟩)
      have ow4 := Mur.OwnA.chg ow3 ch6 (fun q e _ _ => trivial)
      refine Wk.iEx 3 (some 16) _ rfl rfl rfl (by kernel_rfl) (Mur.appendA (.tmp 13) (.tmp 15) 22 32 rfl Tryd.underlying22 attI W3.heap.size A n c (Mur.ofK k pre) (some ⟨A2.heap.size, 0, none⟩) 1 1 ([x]) (by kernel_rfl) (by kernel_rfl) ow4 (Mur.slA_box x hb5) (fun h => by cases h) (by omega) (by omega) (n + 1) (by omega) ((Mur.ofK k pre) ++ ([x])) rfl) ?_
      rintro _ W7 ⟨AA1, nn1, rfl, ow5, ch7, ha1⟩
      have zz8 := ch7.size
      have hq1 := ow5.nc
      have hq2 := ow5.cm
      refine Wk.iExS 4 none _ rfl rfl rfl (by kernel_rfl) (Wk.store1 22 (.tmp 4) (.tmp 16) rfl (by kernel_rfl) W1.heap.size 0 (by kernel_rfl) (.slice AA1 (n + 1) nn1) (by kernel_rfl) rfl 22 #[.slice A n c] (Wk.Chg.hp ch7 (Wk.Chg.hp ch6 (Wk.Chg.hp hch2 (Wk.Chg.hp ch5 (Wk.Chg.hp ch4 hIp trivial) ⟨by omega, trivial⟩) ⟨by omega, trivial⟩) trivial) (Wk.off_blk (fun gz hgz => by have := hIo.lt gz hgz; omega))) (by simp)) ?_
      rintro W8 ⟨hb6, ch8⟩
      replace hb6 : W8.heap[W1.heap.size]? = some (.cells #[.slice AA1 (n + 1) nn1] 22 (0, 0)) := hb6
      have zz9 := ch8.size
      refine Wk.iEnd 5 rfl ?_
      refine Wk.inN ?_
      have kk6 : Wk.Chg ([W1.heap.size] ++ Wk.blk (.slice A n c)) A2 W6 := Wk.Chg.step ((Wk.Chg.refl _).more (by simp)) ch6 trivial
      have kk7 := Wk.Chg.step kk6 ch7 (Mur.newOr_iff.2 (fun t ht => .inl (List.mem_append_right _ ht)))
      have kk8 := Wk.Chg.step kk7 ch8 ⟨.inl (by simp), trivial⟩
      have kk9 := Wk.Chg.step hIc ch4 trivial
      have kk10 := Wk.Chg.step kk9 ch5 ⟨.inr (by omega), trivial⟩
      have kk11 := Wk.Chg.step kk10 hch2 ⟨.inr (by omega), trivial⟩
      have kk12 := Wk.Chg.step kk11 ch6 trivial
      have kk13 := Wk.Chg.step kk12 ch7 (Wk.newOr_blk (fun g hg => by have := hIo.lt g hg; omega))
      have kk14 := Wk.Chg.step kk13 ch8 ⟨.inl (by simp), trivial⟩
      have ow6 := Mur.OwnA.chg ow5 ch8 (fun q e _ _ => ⟨by have := ow5.lt q e; omega, trivial⟩)
      refine Wk.roundN _ kk8 (fun s_ hs_ hlt_ => ?_) (fun k_ hk_ => ⟨hFb_ k_ hk_, Wk.off_blk (fun q hq => by have := hIo.lt q hq; have := hFw k_ hk_; omega)⟩) ⟨_, _, _, hb6, (by rw [show Mur.ofK k (pre ++ [x]) = Mur.ofK k pre ++ [x] from Mur.ofK_yes hkx]; exact ow6), kk14, (Wk.Chg.hp ch8 (Wk.Chg.hp ch7 (Wk.Chg.hp ch6 (Wk.Chg.hp hch2 (Wk.Chg.hp ch5 (Wk.Chg.hp ch4 hE0 trivial) ⟨by omega, trivial⟩) ⟨by omega, trivial⟩) trivial) (Wk.off_blk (fun gz hgz => by have := hIo.lt gz hgz; omega))) ⟨by omega, trivial⟩)⟩
      rcases List.mem_cons.1 hs_ with rfl | hs_
      · exact ⟨_, (hch2.hp (ch5.hp (ch4.hp hIp trivial) ⟨by omega, trivial⟩) ⟨hbz, trivial⟩), rfl⟩
      · exact (Mur.OwnA.chg (Mur.OwnA.chg (Mur.OwnA.chg hIo ch4 (fun q e _ _ => trivial)) ch5 (fun q e _ _ => ⟨by have := hIo.lt q e; omega, trivial⟩)) hch2 (fun q e _ _ => ⟨hIol q e, trivial⟩)).isCells hs_
    · refine Wk.iPure 3 (some 12) (.bool false) rfl rfl rfl (by kernel_rfl) (Mur.run_eql_no digT x.k k x.hk hk hkx _ (.tmp 10) (.tmp 11) 30 rfl (by kernel_rfl) (by kernel_rfl)) ?_
      refine Wk.iEnd 4 rfl ?_
      refine Wk.nxt ?_
      refine wpIn_cond_false (by kernel_rfl) ?_
      refine wpIn_skip ?_
      refine Wk.inN ?_
      have kk15 := Wk.Chg.step hIc ch4 trivial
      have kk16 := Wk.Chg.step kk15 ch5 ⟨.inr (by omega), trivial⟩
      have kk17 := Wk.Chg.step kk16 hch2 ⟨.inr (by omega), trivial⟩
      have ow7 := Mur.OwnA.chg hIo ch4 (fun q e _ _ => trivial)
      have ow8 := Mur.OwnA.chg ow7 ch5 (fun q e _ _ => ⟨by have := hIo.lt q e; omega, trivial⟩)
      have ow9 := Mur.OwnA.chg ow8 hch2 (fun q e _ _ => ⟨hIol q e, trivial⟩)
      refine Wk.roundN _ (Wk.Chg.refl _) (fun s_ hs_ => absurd hs_ (by simp)) (fun k_ hk_ => trivial) ⟨_, _, _, (Wk.Chg.hp hch2 (Wk.Chg.hp ch5 (Wk.Chg.hp ch4 hIp trivial) ⟨by omega, trivial⟩) ⟨by omega, trivial⟩), (by rw [show Mur.ofK k (pre ++ [x]) = Mur.ofK k pre from Mur.ofK_no hkx]; exact ow9), kk17, (Wk.Chg.hp hch2 (Wk.Chg.hp ch5 (Wk.Chg.hp ch4 hE0 trivial) ⟨by omega, trivial⟩) ⟨by omega, trivial⟩)⟩
  · intro D W9 hI hwD hKD
    obtain ⟨A, n, c, hIp, hIo, hIc, hE0⟩ := hI
    have hlhE0_ := (Array.getElem?_eq_some_iff.1 hE0).1
    have hzI_ := hIc.size
    have hIlen := hIo.sl.len
    have hInc := hIo.nc
    have hbl_ := (Array.getElem?_eq_some_iff.1 hIp).1
    have hbD := Mur.cells_ne hIp hKD rfl
    have hIoD := hIo.off_obj hKD rfl
    have hDl := (Array.getElem?_eq_some_iff.1 hKD).1
    have hbDhE0 := Mur.cells_ne hE0 hKD rfl
    have hW9 : Wk.Chg [] w W9 := Wk.Chg.step kk3 hIc ⟨.inr (by omega), trivial⟩
    refine Wk.inN ?_
    refine Wk.nxt ?_
    refine wp_seq ?_
    refine Wk.reg ?_
    refine Wk.rPure 0 (some 17) (.slice A n c) rfl rfl (by kernel_rfl) (Wk.load1 22 (.tmp 4) rfl (by kernel_rfl) ⟨W1.heap.size, 0, none⟩ (by kernel_rfl) (.slice A n c) ((cell_of_row _ _ 0 _ _ _ hIp).trans rfl)) ?_
    refine Wk.rExS 1 none _ rfl rfl (by kernel_rfl) (Wk.store1 22 (.tmp 4) (.tmp 17) rfl (by kernel_rfl) W1.heap.size 0 (by kernel_rfl) (.slice A n c) (by kernel_rfl) rfl 22 #[.slice A n c] hIp (by simp)) ?_
    rintro W10 ⟨hb7, ch9⟩
    replace hb7 : W10.heap[W1.heap.size]? = some (.cells #[.slice A n c] 22 (0, 0)) := hb7
    have zz10 := ch9.size
    refine Wk.rEnd 2 rfl ?_
    refine Wk.nxt ?_
    refine wp_ret ?_
    refine Wk.npR ?_
    refine Wk.retM D rfl (Wk.Chg.hp ch9 hKD ⟨by omega, trivial⟩) ?_
    intro W11 ch10
    have zz11 := ch10.size
    have ow10 := Mur.OwnA.chg hIo ch9 (fun q e _ _ => ⟨by have := hIo.lt q e; omega, trivial⟩)
    have ow11 := Mur.OwnA.chg ow10 ch10 (fun q e _ _ => ⟨hIoD q e, trivial⟩)
    have kk18 := Wk.Chg.step hW9 ch9 ⟨.inr (by omega), trivial⟩
    have kk19 := Wk.Chg.step kk18 ch10 ⟨.inr (by omega), trivial⟩
    refine ⟨.slice A n c, Mur.results_sl rfl _ _ W1.heap.size 22 (.slice A n c) (0, 0) (by kernel_rfl) (Wk.Chg.hp ch10 hb7 ⟨by omega, trivial⟩) (by kernel_rfl), ⟨_, _, _, rfl, ow11.rebase (fun q_ h_ => by have := hIo.lt q_ h_; omega), kk19⟩⟩
end Go.Proofs.YtfhneademopciaaDoor
namespace Mur
open Go Go.RowKit Wk
def k999 : List UInt8 := [9, 9, 9, 0, 0, 0, 0, 0, 0, 0, 0, 0, 0, 0, 0, 0, 0, 0, 0, 0, 0, 0, 0, 0, 0, 0, 0, 0, 0, 0, 0, 0]
def k9A : Att := ⟨k999, z32, z32, 4999, rfl, rfl, rfl, by decide⟩
theorem ownA_cells {w : World} {base e : Nat} {A : Option Addr} {n c : Nat} {L : List Att} (h : OwnA w base e A n c L) : ∀ q, (Value.slice A n c).ownBlock = some q → ∃ cs, w.heap[q]? = some (.cells cs e (0, 0)) ∧ cs.size = c * 97 := by
  intro q hq
  rcases h.cur with ⟨rfl, rfl, rfl⟩ | ⟨g, cur, rfl, _, hg, hcs, _⟩
  · cases hq
  · obtain rfl : g = q := by simpa [Value.ownBlock] using hq
    exact ⟨cur, hg, hcs⟩
end Mur
namespace Mur
theorem addS_nil (x : Att) : ((addS x []).1.length = 1 ∧ (addS x []).2 = 0) ∨ ((addS x []).1.length = 0 ∧ (addS x []).2 = 2) := by
  by_cases hm : may x.n
  · refine .inl ?_
    rw [addS_ok hm (by simp) (by unfold pos; simp)]
    simp [ins_length]
  · refine .inr ?_
    rw [addS_may hm]
    simp
end Mur
namespace Go.Proofs.YtfhneademopciaaDoor
open Go.RowKit
open Mur (b8s Byt Own8 Seg Segs flat cutA attC Att SlA OwnA rowA)
set_option maxRecDepth 100000
set_option maxHeartbeats 4000000
theorem none20_any (x : Att) (p : List UInt8) (PA : Option Addr) (pn pc : Nat) (w : World) (hv : ShaVars w) (hb : Byt w PA pn p) (_hpc : pn ≤ pc) (_hpnil : PA = none → pc = 0) : Calls Tryd.prog 8 #[.agg (attC x.k x.r x.n x.t).toArray, .slice PA pn pc] w fun e w' => e = .returned (.bool true) ∧ Below w.heap.size w w' := by
  have HV := Go.Lib.hid hv
  clear hv
  have hcase := Mur.addS_nil x
  have hpl_ := hb.1
  refine calls_of_wp Tryd.func8 rfl ?_
  refine wp_seq ?_
  refine Wk.reg ?_
  refine Wk.rEx 0 (some 2) _ rfl rfl (by kernel_rfl) (Wk.new_ex (.pointer (some ⟨w.heap.size, 0, none⟩)) ((Mur.attC x.k x.r x.n x.t).toArray) 32 (by kernel_rfl)) ?_
  rintro _ W1 ⟨rfl, hb1, ch1, sz1⟩
  have zz1 := ch1.size
  refine Wk.rPure 1 (some 4) (.bool false) rfl rfl (by kernel_rfl) (by kernel_rfl) ?_
  refine Wk.rEnd 2 rfl ?_
  refine Wk.nxt ?_
  refine wp_seq ?_
  refine wp_seq ?_
  refine Wk.reg ?_
  refine Wk.rPure 0 (some 11) (.slice PA pn pc) rfl rfl (by kernel_rfl) (by kernel_rfl) ?_
  refine Wk.rPure 1 (some 12) (.int .i64 ((pn : Nat) : Int)) rfl rfl (by kernel_rfl) (by kernel_rfl) ?_
  by_cases hx1 : ((pn : Nat) : Int) > (100 : Int)
  · refine Wk.rPure 2 (some 13) (.bool true) rfl rfl (by kernel_rfl) (Wk.boolT (b := decide (((pn : Nat) : Int) > (100 : Int))) (decide_eq_true (by first | exact hx1 | omega)) (by kernel_rfl)) ?_
    refine Wk.rEnd 3 rfl ?_
    refine Wk.nxt ?_
    refine wp_cond_true (by kernel_rfl) ?_
    refine wp_seq ?_
    refine Wk.reg ?_
    refine Wk.rCall 0 (some 14) 13 [] #[] [] rfl rfl (by kernel_rfl) rfl (by kernel_rfl) (by kernel_rfl) ?_
    have kk1 : Wk.Chg [] w W1 := Wk.Chg.step ((Wk.Chg.refl _).more (by simp)) ch1 trivial
    refine (known20_any W1 (HV.out.below (Wk.Chg.below0 kk1))).mono ?_
    rintro _ W2 ⟨rfl, ch2⟩
    have zz2 := ch2.size
    refine ⟨_, rfl, ?_⟩
    refine Wk.rPure 1 (some 4) (.bool true) rfl rfl (by kernel_rfl) (by kernel_rfl) ?_
    refine Wk.rEnd 2 rfl ?_
    refine Wk.nxt ?_
    refine wp_ret ?_
    refine Wk.thR ?_
    have kk2 := Wk.Chg.step kk1 ch2 trivial
    refine Wk.ret (.bool true) rfl (by kernel_rfl) ?_
    exact ⟨rfl, Wk.Chg.below0 kk2⟩
  · refine Wk.rPure 2 (some 13) (.bool false) rfl rfl (by kernel_rfl) (Wk.boolF (b := decide (((pn : Nat) : Int) > (100 : Int))) (decide_eq_false (by first | exact hx1 | omega)) (by kernel_rfl)) ?_
    refine Wk.rEnd 3 rfl ?_
    refine Wk.nxt ?_
    refine wp_cond_false (by kernel_rfl) ?_
    refine wp_skip ?_
    refine Wk.nxt ?_
    refine wp_seq ?_
    refine Wk.reg ?_
    refine Wk.rPure 0 (some 5) (.pointer none) rfl rfl (by kernel_rfl) (by kernel_rfl) ?_
    refine Wk.rEnd 1 rfl ?_
    refine Wk.nxt ?_
    refine wp_seq ?_
    refine Wk.reg ?_
    refine Wk.rEx 0 (some 6) _ rfl rfl (by kernel_rfl) (Wk.new_ex (.pointer (some ⟨W1.heap.size, 0, none⟩)) #[.slice none 0 0] 57 (by kernel_rfl)) ?_
    rintro _ W3 ⟨rfl, hb2, ch3, sz2⟩
    have zz3 := ch3.size
    refine Wk.rEnd 1 rfl ?_
    refine Wk.nxt ?_
    refine wp_seq ?_
    refine Wk.reg ?_
    obtain ⟨F0, hD0⟩ : ∃ F_, Mur.SetF 32 57 W1.heap.size W3 W1.heap.size ([]) F_ := ⟨[W1.heap.size], none, 0, 0, ⟨hb2, Mur.ownA_nil _ _ _, (fun q h => by cases h), Nat.le_refl _, List.Pairwise.nil, by simp, by simp⟩, rfl⟩
    have hM0 := Mur.SetF.mem hD0
    have hg0_ := (hM0 _ (Mur.SetF.self hD0)).2
    refine Wk.rPure 0 (some 16) (.pointer none) rfl rfl (by kernel_rfl) (by kernel_rfl) ?_
    refine Wk.rPure 1 (some 17) (.slice PA pn pc) rfl rfl (by kernel_rfl) (by kernel_rfl) ?_
    refine Wk.rCall 2 (some 18) 16 [.tmp 16, .tmp 17] #[24, 38] [.pointer none, .slice PA pn pc] rfl rfl (by kernel_rfl) rfl (by kernel_rfl) (by kernel_rfl) ?_
    have kk3 : Wk.Chg [] w W1 := Wk.Chg.step ((Wk.Chg.refl _).more (by simp)) ch1 trivial
    have kk4 := Wk.Chg.step kk3 ch3 trivial
    refine (Sum_nil PA pn pc W3).mono ?_
    rintro _ W4 ⟨rfl, ch4⟩
    have zz4 := ch4.size
    refine ⟨_, rfl, ?_⟩
    refine Wk.rPure 3 (some 15) (.tuple #[.agg ((b8s Mur.z32).toArray), .int .i64 0]) rfl rfl (by kernel_rfl) (by kernel_rfl) ?_
    refine Wk.rPure 4 (some 19) (.agg ((b8s Mur.z32).toArray)) rfl rfl (by kernel_rfl) (by kernel_rfl) ?_
    refine Wk.rPure 5 (some 20) (.int .i64 0) rfl rfl (by kernel_rfl) (by kernel_rfl) ?_
    refine Wk.rEx 6 (some 7) _ rfl rfl (by kernel_rfl) (Wk.new_ex (.pointer (some ⟨W4.heap.size, 0, none⟩)) #[.int .u8 0, .int .u8 0, .int .u8 0, .int .u8 0, .int .u8 0, .int .u8 0, .int .u8 0, .int .u8 0, .int .u8 0, .int .u8 0, .int .u8 0, .int .u8 0, .int .u8 0, .int .u8 0, .int .u8 0, .int .u8 0, .int .u8 0, .int .u8 0, .int .u8 0, .int .u8 0, .int .u8 0, .int .u8 0, .int .u8 0, .int .u8 0, .int .u8 0, .int .u8 0, .int .u8 0, .int .u8 0, .int .u8 0, .int .u8 0, .int .u8 0, .int .u8 0] 30 (by kernel_rfl)) ?_
    rintro _ W5 ⟨rfl, hb3, ch5, sz3⟩
    have zz5 := ch5.size
    refine Wk.rExS 7 none _ rfl rfl (by kernel_rfl) (Mur.storeAll 30 (.tmp 7) (.tmp 19) rfl W4.heap.size (by kernel_rfl) Mur.z32 32 rfl (by kernel_rfl) (by kernel_rfl) 30 #[.int .u8 0, .int .u8 0, .int .u8 0, .int .u8 0, .int .u8 0, .int .u8 0, .int .u8 0, .int .u8 0, .int .u8 0, .int .u8 0, .int .u8 0, .int .u8 0, .int .u8 0, .int .u8 0, .int .u8 0, .int .u8 0, .int .u8 0, .int .u8 0, .int .u8 0, .int .u8 0, .int .u8 0, .int .u8 0, .int .u8 0, .int .u8 0, .int .u8 0, .int .u8 0, .int .u8 0, .int .u8 0, .int .u8 0, .int .u8 0, .int .u8 0, .int .u8 0] hb3 rfl) ?_
    rintro W6 ⟨hb4, ch6⟩
    have zz6 := ch6.size
    refine Wk.rPure 8 (some 8) (.int .i64 0) rfl rfl (by kernel_rfl) (by kernel_rfl) ?_
    refine Wk.rEnd 9 rfl ?_
    refine Wk.nxt ?_
    refine wp_seq ?_
    refine Wk.reg ?_
    refine Wk.rEx 0 (some 22) _ rfl rfl (by kernel_rfl) (Wk.new_ex (.slice (some ⟨W6.heap.size, 0, none⟩) 0 0) #[] 32 (by kernel_rfl)) ?_
    rintro _ W7 ⟨rfl, hb5, ch7, sz4⟩
    have zz7 := ch7.size
    refine Wk.rPure 1 (some 23) (.agg ((Mur.attC x.k x.r x.n x.t).toArray)) rfl rfl (by kernel_rfl) (Mur.loadArr 32 (.tmp 2) rfl _ Tryd.underlying32 rfl w.heap.size (by kernel_rfl) (Mur.attC x.k x.r x.n x.t).toArray 97 (Mur.attC_size x.hk x.hr x.ht) (by kernel_rfl) 32 (0, 0) (Wk.Chg.hp ch7 (Wk.Chg.hp ch6 (Wk.Chg.hp ch5 (Wk.Chg.hp ch4 (Wk.Chg.hp ch3 hb1 trivial) trivial) trivial) ⟨by omega, trivial⟩) trivial)) ?_
    refine Wk.rCall 2 (some 24) 26 [.tmp 22, .tmp 23] #[50, 32] [.slice (some ⟨W6.heap.size, 0, none⟩) 0 0, .agg ((Mur.attC x.k x.r x.n x.t).toArray)] rfl rfl (by kernel_rfl) rfl (by kernel_rfl) (by kernel_rfl) ?_
    refine (Radd_any (some ⟨W6.heap.size, 0, none⟩) 0 0 ([]) x W7 (Mur.SlA.nil _ _) List.Pairwise.nil (by simp) (by omega)).mono ?_
    rintro _ W8 ⟨DA1, dn1, dc1, rfl, hd_1, hpl1, hnc1, ch8⟩
    have zz8 := ch8.size
    refine ⟨_, rfl, ?_⟩
    refine Wk.rPure 3 (some 21) (.tuple #[.slice DA1 dn1 dc1, .int .i64 ((Mur.addS x ([])).2)]) rfl rfl (by kernel_rfl) (by kernel_rfl) ?_
    refine Wk.rPure 4 (some 25) (.slice DA1 dn1 dc1) rfl rfl (by kernel_rfl) (by kernel_rfl) ?_
    refine Wk.rPure 5 (some 26) (.int .i64 ((Mur.addS x ([])).2)) rfl rfl (by kernel_rfl) (by kernel_rfl) ?_
    refine Wk.rPure 6 (some 9) (.slice DA1 dn1 dc1) rfl rfl (by kernel_rfl) (by kernel_rfl) ?_
    refine Wk.rPure 7 (some 10) (.int .i64 ((Mur.addS x ([])).2)) rfl rfl (by kernel_rfl) (by kernel_rfl) ?_
    refine Wk.rEnd 8 rfl ?_
    refine Wk.nxt ?_
    refine wp_seq ?_
    refine Wk.dReg (F0) (by kernel_rfl) ?_
    intro W10 ch9 sz5
    have zz9 := ch9.size
    have sS1 : Wk.Chg (F0) W10 W10 := (Wk.Chg.refl _).more (by simp)
    refine Wk.dVal 0 (some 27) (.pointer none) rfl rfl (by kernel_rfl) (by kernel_rfl) (by kernel_rfl) (fun _ _ _ h => h) (by kernel_rfl) (fun w' hw' => by kernel_rfl) sS1 ?_
    refine Wk.dVal 1 (some 28) (.agg ((Mur.attC x.k x.r x.n x.t).toArray)) rfl rfl (by kernel_rfl) (by kernel_rfl) (by kernel_rfl) (fun _ _ _ h => h) (by kernel_rfl) (fun w' hw' => (Mur.loadArr 32 (.tmp 2) rfl _ Tryd.underlying32 rfl w.heap.size (by kernel_rfl) (Mur.attC x.k x.r x.n x.t).toArray 97 (Mur.attC_size x.hk x.hr x.ht) (by kernel_rfl) 32 (0, 0) (Wk.Chg.hp hw' (Wk.Chg.hp ch9 (Wk.Chg.hp ch8 (Wk.Chg.hp ch7 (Wk.Chg.hp ch6 (Wk.Chg.hp ch5 (Wk.Chg.hp ch4 (Wk.Chg.hp ch3 hb1 trivial) trivial) trivial) ⟨by omega, trivial⟩) trivial) trivial) trivial) (Mur.off_iff.2 (fun t ht => by have := hM0 t ht; omega))))) sS1 ?_
    refine Wk.dOp 2 (by kernel_rfl) ?_
    refine Wk.oCall (some 29) 15 [.tmp 27, .tmp 28] #[24, 32] [.pointer none, .agg ((Mur.attC x.k x.r x.n x.t).toArray)] rfl rfl (by kernel_rfl) rfl (by kernel_rfl) (by kernel_rfl) ?_
    refine (Add_nil x W10).mono ?_
    rintro _ W11 ⟨rfl, ch10⟩
    have zz10 := ch10.size
    have sS2 := Wk.Chg.step sS1 ch10 trivial
    refine ⟨_, rfl, sS2, ?_⟩
    refine Wk.dVal 3 (some 30) (.bool true) rfl rfl (by kernel_rfl) (by kernel_rfl) (by kernel_rfl) (fun _ _ _ h => h) (by kernel_rfl) (fun w' hw' => (Wk.boolT (b := ((1 : Int) == (1 : Int))) (beq_iff_eq.2 (by decide)) (by kernel_rfl))) sS2 ?_
    refine Wk.dVal 4 (some 31) (.bool true) rfl rfl (by kernel_rfl) (by kernel_rfl) (by kernel_rfl) (fun _ _ _ h => h) (by kernel_rfl) (fun w' hw' => by kernel_rfl) sS2 ?_
    refine Wk.dVal 5 (some 32) (.pointer none) rfl rfl (by kernel_rfl) (by kernel_rfl) (by kernel_rfl) (fun _ _ _ h => h) (by kernel_rfl) (fun w' hw' => by kernel_rfl) sS2 ?_
    refine Wk.dVal 6 (some 33) (.agg ((Mur.attC x.k x.r x.n x.t).toArray)) rfl rfl (by kernel_rfl) (by kernel_rfl) (by kernel_rfl) (fun _ _ _ h => h) (by kernel_rfl) (fun w' hw' => (Mur.loadArr 32 (.tmp 2) rfl _ Tryd.underlying32 rfl w.heap.size (by kernel_rfl) (Mur.attC x.k x.r x.n x.t).toArray 97 (Mur.attC_size x.hk x.hr x.ht) (by kernel_rfl) 32 (0, 0) (Wk.Chg.hp hw' (Wk.Chg.hp ch9 (Wk.Chg.hp ch8 (Wk.Chg.hp ch7 (Wk.Chg.hp ch6 (Wk.Chg.hp ch5 (Wk.Chg.hp ch4 (Wk.Chg.hp ch3 hb1 trivial) trivial) trivial) ⟨by omega, trivial⟩) trivial) trivial) trivial) (Mur.off_iff.2 (fun t ht => by have := hM0 t ht; omega))))) sS2 ?_
    refine Wk.dOp 7 (by kernel_rfl) ?_
    refine Wk.oCall (some 34) 24 [.tmp 32, .tmp 33] #[24, 32] [.pointer none, .agg ((Mur.attC x.k x.r x.n x.t).toArray)] rfl rfl (by kernel_rfl) rfl (by kernel_rfl) (by kernel_rfl) ?_
    refine (Has_nil x W11).mono ?_
    rintro _ W12 ⟨rfl, ch11⟩
    have zz11 := ch11.size
    have sS3 := Wk.Chg.step sS2 ch11 trivial
    refine ⟨_, rfl, sS3, ?_⟩
    refine Wk.dVal 8 (some 35) (.bool true) rfl rfl (by kernel_rfl) (by kernel_rfl) (by kernel_rfl) (fun _ _ _ h => h) (by kernel_rfl) (fun w' hw' => by kernel_rfl) sS3 ?_
    refine Wk.dVal 9 (some 36) (.bool true) rfl rfl (by kernel_rfl) (by kernel_rfl) (by kernel_rfl) (fun _ _ _ h => h) (by kernel_rfl) (fun w' hw' => by kernel_rfl) sS3 ?_
    refine Wk.dVal 10 (some 37) (.bool true) rfl rfl (by kernel_rfl) (by kernel_rfl) (by kernel_rfl) (fun _ _ _ h => h) (by kernel_rfl) (fun w' hw' => by kernel_rfl) sS3 ?_
    refine Wk.dVal 11 (some 38) (.pointer none) rfl rfl (by kernel_rfl) (by kernel_rfl) (by kernel_rfl) (fun _ _ _ h => h) (by kernel_rfl) (fun w' hw' => by kernel_rfl) sS3 ?_
    refine Wk.dOp 12 (by kernel_rfl) ?_
    refine Wk.oCall (some 39) 23 [.tmp 38] #[24] [.pointer none] rfl rfl (by kernel_rfl) rfl (by kernel_rfl) (by kernel_rfl) ?_
    refine (Len_nil W12).mono ?_
    rintro _ _ ⟨rfl, rfl⟩
    refine ⟨_, rfl, sS3, ?_⟩
    refine Wk.dVal 13 (some 40) (.bool true) rfl rfl (by kernel_rfl) (by kernel_rfl) (by kernel_rfl) (fun _ _ _ h => h) (by kernel_rfl) (fun w' hw' => (Wk.boolT (b := ((0 : Int) == (0 : Int))) (beq_iff_eq.2 (by decide)) (by kernel_rfl))) sS3 ?_
    refine Wk.dVal 14 (some 41) (.bool true) rfl rfl (by kernel_rfl) (by kernel_rfl) (by kernel_rfl) (fun _ _ _ h => h) (by kernel_rfl) (fun w' hw' => by kernel_rfl) sS3 ?_
    refine Wk.dVal 15 (some 42) (.bool true) rfl rfl (by kernel_rfl) (by kernel_rfl) (by kernel_rfl) (fun _ _ _ h => h) (by kernel_rfl) (fun w' hw' => by kernel_rfl) sS3 ?_
    refine Wk.dVal 16 (some 43) (.pointer none) rfl rfl (by kernel_rfl) (by kernel_rfl) (by kernel_rfl) (fun _ _ _ h => h) (by kernel_rfl) (fun w' hw' => by kernel_rfl) sS3 ?_
    refine Wk.dVal 17 (some 44) (.slice PA pn pc) rfl rfl (by kernel_rfl) (by kernel_rfl) (by kernel_rfl) (fun _ _ _ h => h) (by kernel_rfl) (fun w' hw' => by kernel_rfl) sS3 ?_
    refine Wk.dVal 20 (some 47) (.pointer none) rfl rfl (by kernel_rfl) (by kernel_rfl) (by kernel_rfl) (fun _ _ _ h => h) (by kernel_rfl) (fun w' hw' => by kernel_rfl) sS3 ?_
    refine Wk.dVal 21 (some 48) (.pointer (some ⟨w.heap.size, 0, none⟩)) rfl rfl (by kernel_rfl) (by kernel_rfl) (by kernel_rfl) (fun _ _ _ h => h) (by kernel_rfl) (fun w' hw' => by kernel_rfl) sS3 ?_
    refine Wk.dVal 22 (some 49) (.agg ((b8s x.k).toArray)) rfl rfl (by kernel_rfl) (by kernel_rfl) (by kernel_rfl) (fun _ _ _ h => h) (by kernel_rfl) (fun w' hw' => (Wk.loadR 30 (.tmp 48) rfl _ Tryd.underlying30 rfl w.heap.size 0 (by kernel_rfl) (b8s x.k) (by rw [Mur.b8s_length, x.hk]; kernel_rfl) (Mur.att_key (Wk.Chg.hp hw' (Wk.Chg.hp ch9 (Wk.Chg.hp ch8 (Wk.Chg.hp ch7 (Wk.Chg.hp ch6 (Wk.Chg.hp ch5 (Wk.Chg.hp ch4 (Wk.Chg.hp ch3 hb1 trivial) trivial) trivial) ⟨by omega, trivial⟩) trivial) trivial) trivial) (Mur.off_iff.2 (fun t ht => by have := hM0 t ht; omega)))))) sS3 ?_
    refine Wk.dVal 26 (some 53) (.int .i64 0) rfl rfl (by kernel_rfl) (by kernel_rfl) (by kernel_rfl) (fun _ _ _ h => h) (by kernel_rfl) (fun w' hw' => by kernel_rfl) sS3 ?_
    refine Wk.dOp 18 (by kernel_rfl) ?_
    refine Wk.oCall (some 45) 18 [.tmp 43, .tmp 44] #[24, 38] [.pointer none, .slice PA pn pc] rfl rfl (by kernel_rfl) rfl (by kernel_rfl) (by kernel_rfl) ?_
    have kk5 := Wk.Chg.step kk4 ch4 trivial
    have kk6 := Wk.Chg.step kk5 ch5 trivial
    have kk7 := Wk.Chg.step kk6 ch6 ⟨.inr (by omega), trivial⟩
    have kk8 := Wk.Chg.step kk7 ch7 trivial
    have kk9 := Wk.Chg.step kk8 ch8 trivial
    have kk10 := Wk.Chg.step kk9 ch9 trivial
    have kk11 := Wk.Chg.step kk10 ch10 trivial
    have kk12 := Wk.Chg.step kk11 ch11 trivial
    refine (Below_nil PA pn pc W12).mono ?_
    rintro _ W13 ⟨AA1, nn1, nn2, rfl, ow1, ch12⟩
    have zz12 := ch12.size
    have hq1 : nn1 = 0 := ow1.sl.len.symm
    have sS4 := Wk.Chg.step sS3 ch12 trivial
    refine ⟨_, rfl, sS4, ?_⟩
    refine Wk.dVal 19 (some 46) (.int .i64 ((nn1 : Nat) : Int)) rfl rfl (by kernel_rfl) (by kernel_rfl) (by kernel_rfl) (fun _ _ _ h => h) (by kernel_rfl) (fun w' hw' => by kernel_rfl) sS4 ?_
    refine Wk.dOp 23 (by kernel_rfl) ?_
    refine Wk.oCall (some 50) 31 [.tmp 47, .tmp 49] #[24, 30] [.pointer none, .agg ((b8s x.k).toArray)] rfl rfl (by kernel_rfl) rfl (by kernel_rfl) (by kernel_rfl) ?_
    refine (Of_nil x.k W13 x.hk).mono ?_
    rintro _ W14 ⟨AA2, nn3, nn4, rfl, ow2, ch13⟩
    have zz13 := ch13.size
    have hq2 : nn3 = 0 := ow2.sl.len.symm
    have hq3 := ow2.nc
    have hq4 := ow2.cm
    have hq5 := ow2.sl.len
    have sS5 := Wk.Chg.step sS4 ch13 trivial
    refine ⟨_, rfl, sS5, ?_⟩
    refine Wk.dVal 24 (some 51) (.int .i64 ((nn3 : Nat) : Int)) rfl rfl (by kernel_rfl) (by kernel_rfl) (by kernel_rfl) (fun _ _ _ h => h) (by kernel_rfl) (fun w' hw' => by kernel_rfl) sS5 ?_
    refine Wk.dVal 25 (some 52) (.int .i64 ((nn1 + nn3 : Nat) : Int)) rfl rfl (by kernel_rfl) (by kernel_rfl) (by kernel_rfl) (fun _ _ _ h => h) (by kernel_rfl) (fun w' hw' => (Wk.int64 (n := ((nn1 : Nat) : Int) + ((nn3 : Nat) : Int)) (z := ((nn1 + nn3 : Nat) : Int)) (by omega) (by omega) (by omega) (by kernel_rfl))) sS5 ?_
    refine Wk.dVal 27 (some 54) (.int .i64 ((nn1 + nn3 : Nat) : Int)) rfl rfl (by kernel_rfl) (by kernel_rfl) (by kernel_rfl) (fun _ _ _ h => h) (by kernel_rfl) (fun w' hw' => (Wk.int64 (n := ((nn1 + nn3 : Nat) : Int) + 0) (z := ((nn1 + nn3 : Nat) : Int)) (by omega) (by omega) (by omega) (by kernel_rfl))) sS5 ?_
    by_cases hx2 : ((nn1 + nn3 : Nat) : Int) = (0 : Int)
    · refine Wk.dVal 28 (some 55) (.bool true) rfl rfl (by kernel_rfl) (by kernel_rfl) (by kernel_rfl) (fun _ _ _ h => h) (by kernel_rfl) (fun w' hw' => (Wk.boolT (b := (((nn1 + nn3 : Nat) : Int) == (0 : Int))) (beq_iff_eq.2 (by first | exact hx2 | omega)) (by kernel_rfl))) sS5 ?_
      refine Wk.dVal 29 (some 56) (.bool true) rfl rfl (by kernel_rfl) (by kernel_rfl) (by kernel_rfl) (fun _ _ _ h => h) (by kernel_rfl) (fun w' hw' => by kernel_rfl) sS5 ?_
      refine Wk.dVal 30 (some 57) (.bool true) rfl rfl (by kernel_rfl) (by kernel_rfl) (by kernel_rfl) (fun _ _ _ h => h) (by kernel_rfl) (fun w' hw' => by kernel_rfl) sS5 ?_
      refine Wk.dVal 31 (some 58) (.pointer none) rfl rfl (by kernel_rfl) (by kernel_rfl) (by kernel_rfl) (fun _ _ _ h => h) (by kernel_rfl) (fun w' hw' => by kernel_rfl) sS5 ?_
      refine Wk.dOp 32 (by kernel_rfl) ?_
      refine Wk.oCall (some 59) 27 [.tmp 58] #[24] [.pointer none] rfl rfl (by kernel_rfl) rfl (by kernel_rfl) (by kernel_rfl) ?_
      refine (Copy_nil W14).mono ?_
      rintro _ W15 ⟨rfl, ch14⟩
      have zz14 := ch14.size
      have sS6 := Wk.Chg.step sS5 ch14 trivial
      refine ⟨_, rfl, sS6, ?_⟩
      refine Wk.dVal 33 (some 60) (.bool true) rfl rfl (by kernel_rfl) (by kernel_rfl) (by kernel_rfl) (fun _ _ _ h => h) (by kernel_rfl) (fun w' hw' => by kernel_rfl) sS6 ?_
      refine Wk.dVal 34 (some 61) (.bool true) rfl rfl (by kernel_rfl) (by kernel_rfl) (by kernel_rfl) (fun _ _ _ h => h) (by kernel_rfl) (fun w' hw' => by kernel_rfl) sS6 ?_
      refine Wk.dVal 35 (some 62) (.bool true) rfl rfl (by kernel_rfl) (by kernel_rfl) (by kernel_rfl) (fun _ _ _ h => h) (by kernel_rfl) (fun w' hw' => by kernel_rfl) sS6 ?_
      refine Wk.dVal 36 (some 63) (.agg ((Mur.attC x.k x.r x.n x.t).toArray)) rfl rfl (by kernel_rfl) (by kernel_rfl) (by kernel_rfl) (fun _ _ _ h => h) (by kernel_rfl) (fun w' hw' => (Mur.loadArr 32 (.tmp 2) rfl _ Tryd.underlying32 rfl w.heap.size (by kernel_rfl) (Mur.attC x.k x.r x.n x.t).toArray 97 (Mur.attC_size x.hk x.hr x.ht) (by kernel_rfl) 32 (0, 0) (Wk.Chg.hp hw' (Wk.Chg.hp ch9 (Wk.Chg.hp ch8 (Wk.Chg.hp ch7 (Wk.Chg.hp ch6 (Wk.Chg.hp ch5 (Wk.Chg.hp ch4 (Wk.Chg.hp ch3 hb1 trivial) trivial) trivial) ⟨by omega, trivial⟩) trivial) trivial) trivial) (Mur.off_iff.2 (fun t ht => by have := hM0 t ht; omega))))) sS6 ?_
      refine Wk.dVal 38 (some 65) (.int .i64 ((Mur.addS x ([])).2)) rfl rfl (by kernel_rfl) (by kernel_rfl) (by kernel_rfl) (fun _ _ _ h => h) (by kernel_rfl) (fun w' hw' => by kernel_rfl) sS6 ?_
      refine Wk.dOp 37 (by kernel_rfl) ?_
      refine Wk.oCall (some 64) 15 [.tmp 6, .tmp 63] #[57, 32] [.pointer (some ⟨W1.heap.size, 0, none⟩), .agg ((Mur.attC x.k x.r x.n x.t).toArray)] rfl rfl (by kernel_rfl) rfl (by kernel_rfl) (by kernel_rfl) ?_
      have hD1 := Mur.SetF.chg hD0 ch4 (fun s hs => trivial)
      have hD2 := Mur.SetF.chg hD1 ch5 (fun s hs => trivial)
      have hD3 := Mur.SetF.chg hD2 ch6 (fun s hs => ⟨by have := hM0 s hs; omega, trivial⟩)
      have hD4 := Mur.SetF.chg hD3 ch7 (fun s hs => trivial)
      have hD5 := Mur.SetF.chg hD4 ch8 (fun s hs => trivial)
      have hD6 := Mur.SetF.chg hD5 ch9 (fun s hs => trivial)
      have hD7 := Mur.SetF.chg hD6 ch10 (fun s hs => trivial)
      have hD8 := Mur.SetF.chg hD7 ch11 (fun s hs => trivial)
      have hD9 := Mur.SetF.chg hD8 ch12 (fun s hs => trivial)
      have hD10 := Mur.SetF.chg hD9 ch13 (fun s hs => trivial)
      have hD11 := Mur.SetF.chg hD10 ch14 (fun s hs => trivial)
      refine (Add_any W1.heap.size ([]) W1.heap.size F0 x W15 hD11).mono ?_
      rintro _ W16 ⟨FF1, rfl, hD12, ch15, no1⟩
      have hM1 := Mur.SetF.mem hD12
      have zz15 := ch15.size
      have sS7 := Wk.Chg.step sS6 ch15 (Mur.newOr_iff.2 (fun t ht => .inl ht))
      refine ⟨_, rfl, sS7, ?_⟩
      by_cases hx3 : ((Mur.addS x ([])).2) = ((Mur.addS x ([])).2)
      · refine Wk.dVal 39 (some 66) (.bool true) rfl rfl (by kernel_rfl) (by kernel_rfl) (by kernel_rfl) (fun _ _ _ h => h) (by kernel_rfl) (fun w' hw' => (Wk.boolT (b := (((Mur.addS x ([])).2) == ((Mur.addS x ([])).2))) (beq_iff_eq.2 (by first | exact hx3 | omega)) (by kernel_rfl))) sS7 ?_
        refine Wk.dVal 40 (some 67) (.bool true) rfl rfl (by kernel_rfl) (by kernel_rfl) (by kernel_rfl) (fun _ _ _ h => h) (by kernel_rfl) (fun w' hw' => by kernel_rfl) sS7 ?_
        refine Wk.dVal 41 (some 68) (.bool true) rfl rfl (by kernel_rfl) (by kernel_rfl) (by kernel_rfl) (fun _ _ _ h => h) (by kernel_rfl) (fun w' hw' => by kernel_rfl) sS7 ?_
        refine Wk.dVal 44 (some 71) (.int .i64 ((Mur.addS x ([])).2)) rfl rfl (by kernel_rfl) (by kernel_rfl) (by kernel_rfl) (fun _ _ _ h => h) (by kernel_rfl) (fun w' hw' => by kernel_rfl) sS7 ?_
        by_cases hx4 : ((Mur.addS x ([])).2) = (0 : Int)
        · refine Wk.dVal 45 (some 72) (.bool true) rfl rfl (by kernel_rfl) (by kernel_rfl) (by kernel_rfl) (fun _ _ _ h => h) (by kernel_rfl) (fun w' hw' => (Wk.boolT (b := (((Mur.addS x ([])).2) == (0 : Int))) (beq_iff_eq.2 (by first | exact hx4 | omega)) (by kernel_rfl))) sS7 ?_
          refine Wk.dOp 42 (by kernel_rfl) ?_
          refine Wk.oCall (some 69) 23 [.tmp 6] #[57] [.pointer (some ⟨W1.heap.size, 0, none⟩)] rfl rfl (by kernel_rfl) rfl (by kernel_rfl) (by kernel_rfl) ?_
          refine (Len_any W1.heap.size ((Mur.addS x ([])).1) W1.heap.size FF1 W16 hD12).mono ?_
          rintro _ _ ⟨rfl, rfl⟩
          refine ⟨_, rfl, sS7, ?_⟩
          by_cases hx5 : ((((Mur.addS x ([])).1).length : Nat) : Int) = (1 : Int)
          · refine Wk.dVal 43 (some 70) (.bool true) rfl rfl (by kernel_rfl) (by kernel_rfl) (by kernel_rfl) (fun _ _ _ h => h) (by kernel_rfl) (fun w' hw' => (Wk.boolT (b := (((((Mur.addS x ([])).1).length : Nat) : Int) == (1 : Int))) (beq_iff_eq.2 (by first | exact hx5 | omega)) (by kernel_rfl))) sS7 ?_
            refine Wk.dVal 46 (some 73) (.bool true) rfl rfl (by kernel_rfl) (by kernel_rfl) (by kernel_rfl) (fun _ _ _ h => h) (by kernel_rfl) (fun w' hw' => by kernel_rfl) sS7 ?_
            refine Wk.dVal 47 (some 74) (.bool true) rfl rfl (by kernel_rfl) (by kernel_rfl) (by kernel_rfl) (fun _ _ _ h => h) (by kernel_rfl) (fun w' hw' => by kernel_rfl) sS7 ?_
            refine Wk.dVal 48 (some 75) (.bool true) rfl rfl (by kernel_rfl) (by kernel_rfl) (by kernel_rfl) (fun _ _ _ h => h) (by kernel_rfl) (fun w' hw' => by kernel_rfl) sS7 ?_
            refine Wk.dOp 49 (by kernel_rfl) ?_
            refine Wk.oCall (some 76) 13 [] #[] [] rfl rfl (by kernel_rfl) rfl (by kernel_rfl) (by kernel_rfl) ?_
            have kk13 := Wk.Chg.step kk12 ch12 trivial
            have kk14 := Wk.Chg.step kk13 ch13 trivial
            have kk15 := Wk.Chg.step kk14 ch14 trivial
            have kk16 := Wk.Chg.step kk15 ch15 (Mur.newOr_iff.2 (fun t ht => .inr (by have := hM0 t ht; omega)))
            refine (known20_any W16 (HV.out.below (Wk.Chg.below0 kk16))).mono ?_
            rintro _ W17 ⟨rfl, ch16⟩
            have zz16 := ch16.size
            have sS8 := Wk.Chg.step sS7 ch16 trivial
            refine ⟨_, rfl, sS8, ?_⟩
            refine Wk.dVal 50 (some 77) (.bool true) rfl rfl (by kernel_rfl) (by kernel_rfl) (by kernel_rfl) (fun _ _ _ h => h) (by kernel_rfl) (fun w' hw' => by kernel_rfl) sS8 ?_
            refine Wk.dVal 51 (some 4) (.bool true) rfl rfl (by kernel_rfl) (by kernel_rfl) (by kernel_rfl) (fun _ _ _ h => h) (by kernel_rfl) (fun w' hw' => by kernel_rfl) sS8 ?_
            refine Wk.dEnd (by kernel_rfl) ?_
            refine Wk.nxt ?_
            refine wp_ret ?_
            have kk17 := Wk.Chg.step kk16 ch16 trivial
            refine Wk.ret (.bool true) rfl (by kernel_rfl) ?_
            exact ⟨rfl, Wk.Chg.below0 kk17⟩
          · refine Wk.dVal 43 (some 70) (.bool false) rfl rfl (by kernel_rfl) (by kernel_rfl) (by kernel_rfl) (fun _ _ _ h => h) (by kernel_rfl) (fun w' hw' => (Wk.boolF (b := (((((Mur.addS x ([])).1).length : Nat) : Int) == (1 : Int))) (beq_eq_false_iff_ne.2 (by first | exact hx5 | omega)) (by kernel_rfl))) sS7 ?_
            refine Wk.dVal 46 (some 73) (.bool false) rfl rfl (by kernel_rfl) (by kernel_rfl) (by kernel_rfl) (fun _ _ _ h => h) (by kernel_rfl) (fun w' hw' => by kernel_rfl) sS7 ?_
            refine Wk.dVal 47 (some 74) (.bool false) rfl rfl (by kernel_rfl) (by kernel_rfl) (by kernel_rfl) (fun _ _ _ h => h) (by kernel_rfl) (fun w' hw' => by kernel_rfl) sS7 ?_
            refine Wk.dVal 48 (some 75) (.bool false) rfl rfl (by kernel_rfl) (by kernel_rfl) (by kernel_rfl) (fun _ _ _ h => h) (by kernel_rfl) (fun w' hw' => by kernel_rfl) sS7 ?_
            refine Wk.dPass 49 (some 76) rfl rfl (by kernel_rfl) (by kernel_rfl) (by kernel_rfl) (fun _ _ _ h => h) (by kernel_rfl) sS7 ?_
            refine Wk.dVal 50 (some 77) (.bool false) rfl rfl (by kernel_rfl) (by kernel_rfl) (by kernel_rfl) (fun _ _ _ h => h) (by kernel_rfl) (fun w' hw' => by kernel_rfl) sS7 ?_
            refine Wk.dVal 51 (some 4) (.bool false) rfl rfl (by kernel_rfl) (by kernel_rfl) (by kernel_rfl) (fun _ _ _ h => h) (by kernel_rfl) (fun w' hw' => by kernel_rfl) sS7 ?_
            refine Wk.dEnd (by kernel_rfl) ?_
            refine Wk.nxt ?_
            refine wp_ret ?_
            exfalso; omega
        · refine Wk.dVal 45 (some 72) (.bool false) rfl rfl (by kernel_rfl) (by kernel_rfl) (by kernel_rfl) (fun _ _ _ h => h) (by kernel_rfl) (fun w' hw' => (Wk.boolF (b := (((Mur.addS x ([])).2) == (0 : Int))) (beq_eq_false_iff_ne.2 (by first | exact hx4 | omega)) (by kernel_rfl))) sS7 ?_
          refine Wk.dOp 42 (by kernel_rfl) ?_
          refine Wk.oCall (some 69) 23 [.tmp 6] #[57] [.pointer (some ⟨W1.heap.size, 0, none⟩)] rfl rfl (by kernel_rfl) rfl (by kernel_rfl) (by kernel_rfl) ?_
          refine (Len_any W1.heap.size ((Mur.addS x ([])).1) W1.heap.size FF1 W16 hD12).mono ?_
          rintro _ _ ⟨rfl, rfl⟩
          refine ⟨_, rfl, sS7, ?_⟩
          by_cases hx6 : ((((Mur.addS x ([])).1).length : Nat) : Int) = (1 : Int)
          · refine Wk.dVal 43 (some 70) (.bool true) rfl rfl (by kernel_rfl) (by kernel_rfl) (by kernel_rfl) (fun _ _ _ h => h) (by kernel_rfl) (fun w' hw' => (Wk.boolT (b := (((((Mur.addS x ([])).1).length : Nat) : Int) == (1 : Int))) (beq_iff_eq.2 (by first | exact hx6 | omega)) (by kernel_rfl))) sS7 ?_
            refine Wk.dVal 46 (some 73) (.bool false) rfl rfl (by kernel_rfl) (by kernel_rfl) (by kernel_rfl) (fun _ _ _ h => h) (by kernel_rfl) (fun w' hw' => by kernel_rfl) sS7 ?_
            refine Wk.dVal 47 (some 74) (.bool false) rfl rfl (by kernel_rfl) (by kernel_rfl) (by kernel_rfl) (fun _ _ _ h => h) (by kernel_rfl) (fun w' hw' => by kernel_rfl) sS7 ?_
            refine Wk.dVal 48 (some 75) (.bool false) rfl rfl (by kernel_rfl) (by kernel_rfl) (by kernel_rfl) (fun _ _ _ h => h) (by kernel_rfl) (fun w' hw' => by kernel_rfl) sS7 ?_
            refine Wk.dPass 49 (some 76) rfl rfl (by kernel_rfl) (by kernel_rfl) (by kernel_rfl) (fun _ _ _ h => h) (by kernel_rfl) sS7 ?_
            refine Wk.dVal 50 (some 77) (.bool false) rfl rfl (by kernel_rfl) (by kernel_rfl) (by kernel_rfl) (fun _ _ _ h => h) (by kernel_rfl) (fun w' hw' => by kernel_rfl) sS7 ?_
            refine Wk.dVal 51 (some 4) (.bool false) rfl rfl (by kernel_rfl) (by kernel_rfl) (by kernel_rfl) (fun _ _ _ h => h) (by kernel_rfl) (fun w' hw' => by kernel_rfl) sS7 ?_
            refine Wk.dEnd (by kernel_rfl) ?_
            refine Wk.nxt ?_
            refine wp_ret ?_
            exfalso; omega
          · refine Wk.dVal 43 (some 70) (.bool false) rfl rfl (by kernel_rfl) (by kernel_rfl) (by kernel_rfl) (fun _ _ _ h => h) (by kernel_rfl) (fun w' hw' => (Wk.boolF (b := (((((Mur.addS x ([])).1).length : Nat) : Int) == (1 : Int))) (beq_eq_false_iff_ne.2 (by first | exact hx6 | omega)) (by kernel_rfl))) sS7 ?_
            refine Wk.dVal 46 (some 73) (.bool true) rfl rfl (by kernel_rfl) (by kernel_rfl) (by kernel_rfl) (fun _ _ _ h => h) (by kernel_rfl) (fun w' hw' => by kernel_rfl) sS7 ?_
            refine Wk.dVal 47 (some 74) (.bool true) rfl rfl (by kernel_rfl) (by kernel_rfl) (by kernel_rfl) (fun _ _ _ h => h) (by kernel_rfl) (fun w' hw' => by kernel_rfl) sS7 ?_
            refine Wk.dVal 48 (some 75) (.bool true) rfl rfl (by kernel_rfl) (by kernel_rfl) (by kernel_rfl) (fun _ _ _ h => h) (by kernel_rfl) (fun w' hw' => by kernel_rfl) sS7 ?_
            refine Wk.dOp 49 (by kernel_rfl) ?_
            refine Wk.oCall (some 76) 13 [] #[] [] rfl rfl (by kernel_rfl) rfl (by kernel_rfl) (by kernel_rfl) ?_
            have kk18 := Wk.Chg.step kk12 ch12 trivial
            have kk19 := Wk.Chg.step kk18 ch13 trivial
            have kk20 := Wk.Chg.step kk19 ch14 trivial
            have kk21 := Wk.Chg.step kk20 ch15 (Mur.newOr_iff.2 (fun t ht => .inr (by have := hM0 t ht; omega)))
            refine (known20_any W16 (HV.out.below (Wk.Chg.below0 kk21))).mono ?_
            rintro _ W18 ⟨rfl, ch17⟩
            have zz17 := ch17.size
            have sS9 := Wk.Chg.step sS7 ch17 trivial
            refine ⟨_, rfl, sS9, ?_⟩
            refine Wk.dVal 50 (some 77) (.bool true) rfl rfl (by kernel_rfl) (by kernel_rfl) (by kernel_rfl) (fun _ _ _ h => h) (by kernel_rfl) (fun w' hw' => by kernel_rfl) sS9 ?_
            refine Wk.dVal 51 (some 4) (.bool true) rfl rfl (by kernel_rfl) (by kernel_rfl) (by kernel_rfl) (fun _ _ _ h => h) (by kernel_rfl) (fun w' hw' => by kernel_rfl) sS9 ?_
            refine Wk.dEnd (by kernel_rfl) ?_
            refine Wk.nxt ?_
            refine wp_ret ?_
            have kk22 := Wk.Chg.step kk21 ch17 trivial
            refine Wk.ret (.bool true) rfl (by kernel_rfl) ?_
            exact ⟨rfl, Wk.Chg.below0 kk22⟩
      · refine Wk.dVal 39 (some 66) (.bool false) rfl rfl (by kernel_rfl) (by kernel_rfl) (by kernel_rfl) (fun _ _ _ h => h) (by kernel_rfl) (fun w' hw' => (Wk.boolF (b := (((Mur.addS x ([])).2) == ((Mur.addS x ([])).2))) (beq_eq_false_iff_ne.2 (by first | exact hx3 | omega)) (by kernel_rfl))) sS7 ?_
        refine Wk.dVal 40 (some 67) (.bool false) rfl rfl (by kernel_rfl) (by kernel_rfl) (by kernel_rfl) (fun _ _ _ h => h) (by kernel_rfl) (fun w' hw' => by kernel_rfl) sS7 ?_
        refine Wk.dVal 41 (some 68) (.bool false) rfl rfl (by kernel_rfl) (by kernel_rfl) (by kernel_rfl) (fun _ _ _ h => h) (by kernel_rfl) (fun w' hw' => by kernel_rfl) sS7 ?_
        refine Wk.dPass 42 (some 69) rfl rfl (by kernel_rfl) (by kernel_rfl) (by kernel_rfl) (fun _ _ _ h => h) (by kernel_rfl) sS7 ?_
        refine Wk.dPass 43 (some 70) rfl rfl (by kernel_rfl) (by kernel_rfl) (by kernel_rfl) (fun _ _ _ h => h) (by kernel_rfl) sS7 ?_
        refine Wk.dPass 44 (some 71) rfl rfl (by kernel_rfl) (by kernel_rfl) (by kernel_rfl) (fun _ _ _ h => h) (by kernel_rfl) sS7 ?_
        refine Wk.dPass 45 (some 72) rfl rfl (by kernel_rfl) (by kernel_rfl) (by kernel_rfl) (fun _ _ _ h => h) (by kernel_rfl) sS7 ?_
        refine Wk.dPass 46 (some 73) rfl rfl (by kernel_rfl) (by kernel_rfl) (by kernel_rfl) (fun _ _ _ h => h) (by kernel_rfl) sS7 ?_
        refine Wk.dVal 47 (some 74) (.bool false) rfl rfl (by kernel_rfl) (by kernel_rfl) (by kernel_rfl) (fun _ _ _ h => h) (by kernel_rfl) (fun w' hw' => by kernel_rfl) sS7 ?_
        refine Wk.dVal 48 (some 75) (.bool false) rfl rfl (by kernel_rfl) (by kernel_rfl) (by kernel_rfl) (fun _ _ _ h => h) (by kernel_rfl) (fun w' hw' => by kernel_rfl) sS7 ?_
        refine Wk.dPass 49 (some 76) rfl rfl (by kernel_rfl) (by kernel_rfl) (by kernel_rfl) (fun _ _ _ h => h) (by kernel_rfl) sS7 ?_
        refine Wk.dVal 50 (some 77) (.bool false) rfl rfl (by kernel_rfl) (by kernel_rfl) (by kernel_rfl) (fun _ _ _ h => h) (by kernel_rfl) (fun w' hw' => by kernel_rfl) sS7 ?_
        refine Wk.dVal 51 (some 4) (.bool false) rfl rfl (by kernel_rfl) (by kernel_rfl) (by kernel_rfl) (fun _ _ _ h => h) (by kernel_rfl) (fun w' hw' => by kernel_rfl) sS7 ?_
        refine Wk.dEnd (by kernel_rfl) ?_
        refine Wk.nxt ?_
        refine wp_ret ?_
        exfalso; omega
    · refine Wk.dVal 28 (some 55) (.bool false) rfl rfl (by kernel_rfl) (by kernel_rfl) (by kernel_rfl) (fun _ _ _ h => h) (by kernel_rfl) (fun w' hw' => (Wk.boolF (b := (((nn1 + nn3 : Nat) : Int) == (0 : Int))) (beq_eq_false_iff_ne.2 (by first | exact hx2 | omega)) (by kernel_rfl))) sS5 ?_
      refine Wk.dVal 29 (some 56) (.bool false) rfl rfl (by kernel_rfl) (by kernel_rfl) (by kernel_rfl) (fun _ _ _ h => h) (by kernel_rfl) (fun w' hw' => by kernel_rfl) sS5 ?_
      refine Wk.dVal 30 (some 57) (.bool false) rfl rfl (by kernel_rfl) (by kernel_rfl) (by kernel_rfl) (fun _ _ _ h => h) (by kernel_rfl) (fun w' hw' => by kernel_rfl) sS5 ?_
      refine Wk.dPass 31 (some 58) rfl rfl (by kernel_rfl) (by kernel_rfl) (by kernel_rfl) (fun _ _ _ h => h) (by kernel_rfl) sS5 ?_
      refine Wk.dPass 32 (some 59) rfl rfl (by kernel_rfl) (by kernel_rfl) (by kernel_rfl) (fun _ _ _ h => h) (by kernel_rfl) sS5 ?_
      refine Wk.dPass 33 (some 60) rfl rfl (by kernel_rfl) (by kernel_rfl) (by kernel_rfl) (fun _ _ _ h => h) (by kernel_rfl) sS5 ?_
      refine Wk.dVal 34 (some 61) (.bool false) rfl rfl (by kernel_rfl) (by kernel_rfl) (by kernel_rfl) (fun _ _ _ h => h) (by kernel_rfl) (fun w' hw' => by kernel_rfl) sS5 ?_
      refine Wk.dVal 35 (some 62) (.bool false) rfl rfl (by kernel_rfl) (by kernel_rfl) (by kernel_rfl) (fun _ _ _ h => h) (by kernel_rfl) (fun w' hw' => by kernel_rfl) sS5 ?_
      refine Wk.dPass 36 (some 63) rfl rfl (by kernel_rfl) (by kernel_rfl) (by kernel_rfl) (fun _ _ _ h => h) (by kernel_rfl) sS5 ?_
      refine Wk.dPass 37 (some 64) rfl rfl (by kernel_rfl) (by kernel_rfl) (by kernel_rfl) (fun _ _ _ h => h) (by kernel_rfl) sS5 ?_
      refine Wk.dPass 38 (some 65) rfl rfl (by kernel_rfl) (by kernel_rfl) (by kernel_rfl) (fun _ _ _ h => h) (by kernel_rfl) sS5 ?_
      refine Wk.dPass 39 (some 66) rfl rfl (by kernel_rfl) (by kernel_rfl) (by kernel_rfl) (fun _ _ _ h => h) (by kernel_rfl) sS5 ?_
      refine Wk.dVal 40 (some 67) (.bool false) rfl rfl (by kernel_rfl) (by kernel_rfl) (by kernel_rfl) (fun _ _ _ h => h) (by kernel_rfl) (fun w' hw' => by kernel_rfl) sS5 ?_
      refine Wk.dVal 41 (some 68) (.bool false) rfl rfl (by kernel_rfl) (by kernel_rfl) (by kernel_rfl) (fun _ _ _ h => h) (by kernel_rfl) (fun w' hw' => by kernel_rfl) sS5 ?_
      refine Wk.dPass 42 (some 69) rfl rfl (by kernel_rfl) (by kernel_rfl) (by kernel_rfl) (fun _ _ _ h => h) (by kernel_rfl) sS5 ?_
      refine Wk.dPass 43 (some 70) rfl rfl (by kernel_rfl) (by kernel_rfl) (by kernel_rfl) (fun _ _ _ h => h) (by kernel_rfl) sS5 ?_
      refine Wk.dPass 44 (some 71) rfl rfl (by kernel_rfl) (by kernel_rfl) (by kernel_rfl) (fun _ _ _ h => h) (by kernel_rfl) sS5 ?_
      refine Wk.dPass 45 (some 72) rfl rfl (by kernel_rfl) (by kernel_rfl) (by kernel_rfl) (fun _ _ _ h => h) (by kernel_rfl) sS5 ?_
      refine Wk.dPass 46 (some 73) rfl rfl (by kernel_rfl) (by kernel_rfl) (by kernel_rfl) (fun _ _ _ h => h) (by kernel_rfl) sS5 ?_
      refine Wk.dVal 47 (some 74) (.bool false) rfl rfl (by kernel_rfl) (by kernel_rfl) (by kernel_rfl) (fun _ _ _ h => h) (by kernel_rfl) (fun w' hw' => by kernel_rfl) sS5 ?_
      refine Wk.dVal 48 (some 75) (.bool false) rfl rfl (by kernel_rfl) (by kernel_rfl) (by kernel_rfl) (fun _ _ _ h => h) (by kernel_rfl) (fun w' hw' => by kernel_rfl) sS5 ?_
      refine Wk.dPass 49 (some 76) rfl rfl (by kernel_rfl) (by kernel_rfl) (by kernel_rfl) (fun _ _ _ h => h) (by kernel_rfl) sS5 ?_
      refine Wk.dVal 50 (some 77) (.bool false) rfl rfl (by kernel_rfl) (by kernel_rfl) (by kernel_rfl) (fun _ _ _ h => h) (by kernel_rfl) (fun w' hw' => by kernel_rfl) sS5 ?_
      refine Wk.dVal 51 (some 4) (.bool false) rfl rfl (by kernel_rfl) (by kernel_rfl) (by kernel_rfl) (fun _ _ _ h => h) (by kernel_rfl) (fun w' hw' => by kernel_rfl) sS5 ?_
      refine Wk.dEnd (by kernel_rfl) ?_
      refine Wk.nxt ?_
      refine wp_ret ?_
      exfalso; omega
end Go.Proofs.YtfhneademopciaaDoor
