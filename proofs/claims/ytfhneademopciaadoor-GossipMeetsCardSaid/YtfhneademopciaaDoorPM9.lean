/- adverts: sums. adverts' document: Same, Less; what is known. Digests told apart; rows of results; the document's hash. No program in sight but for one value that is built. adverts' document: a row of bytes; the hash. adverts' document: prefixes, what is below, sums. adverts: Copy, Of; none. -/
import Derived.Test.YtfhneademopciaaDoorPM8
import Derived.Test.YtfhneademopciaaDoorPM5
import Derived.Test.YtfhneademopciaaDoorPM3
namespace Go.Proofs.YtfhneademopciaaDoor
open Go.RowKit
open Mur (b8s Byt Own8 Seg Segs flat cutA attC Att SlA OwnA rowA)
set_option maxRecDepth 100000
set_option maxHeartbeats 4000000
def ShP_F1 (b : Array Value) (u4 : Value) (u5 : Value) (u10 : Value) (u11 : Value) (u12 : Value) : Act := ⟨#[b.getD 0 undef, b.getD 1 undef, b.getD 2 undef, b.getD 3 undef, u4, u5, b.getD 6 undef, b.getD 7 undef, b.getD 8 undef, b.getD 9 undef, u10, u11, u12, b.getD 13 undef, b.getD 14 undef, b.getD 15 undef, b.getD 16 undef, b.getD 17 undef, b.getD 18 undef, b.getD 19 undef, b.getD 20 undef, b.getD 21 undef], []⟩
theorem Parts_any (t : UInt8) (L : List Seg) (PA : Option Addr) (pn pc : Nat) (w : World) (hv : ShaVars w) (hl : Segs w PA pn L) (hpn : pn ≤ 9223372036854775807) (hf : (flat L).length ≤ 140737488351000) : Calls Tryd.prog 43 #[.int .u8 ((t.toNat : Nat) : Int), .slice PA pn pc] w fun e w' => ∃ d, Hid (d = Mur.sha (t :: flat L)) ∧ d.length = 32 ∧ e = .returned (.agg (b8s d).toArray) ∧ Wk.Chg [] w w' := by
 have HV := Go.Lib.hid hv
 clear hv
 have HL := Go.Lib.hid hl
 clear hl
 refine calls_of_wp Tryd.func43 rfl ?_
 refine wp_seq (Wk.reg ?_)
 refine Wk.rEx 0 (some 4) _ rfl rfl (by kernel_rfl) (Wk.new_ex (.pointer (some ⟨w.heap.size, 0, none⟩)) #[.int .u8 0, .int .u8 0, .int .u8 0, .int .u8 0, .int .u8 0, .int .u8 0, .int .u8 0, .int .u8 0, .int .u8 0, .int .u8 0, .int .u8 0, .int .u8 0, .int .u8 0, .int .u8 0, .int .u8 0, .int .u8 0, .int .u8 0, .int .u8 0, .int .u8 0, .int .u8 0, .int .u8 0, .int .u8 0, .int .u8 0, .int .u8 0, .int .u8 0, .int .u8 0, .int .u8 0, .int .u8 0, .int .u8 0, .int .u8 0, .int .u8 0, .int .u8 0] 30 (by kernel_rfl)) ?_
 rintro _ W1 ⟨rfl, hb1, ch1, sz1⟩
 have zz1 := ch1.size
 refine Wk.rEnd 1 rfl (Wk.nxt (wp_seq (Wk.reg ?_)))
 refine Wk.rP 0 8 (.int .u8 ((t.toNat : Nat) : Int)) rfl rfl ?_
 refine Wk.rEx 1 (some 9) _ rfl rfl (by kernel_rfl) (Wk.new_ex (.slice (some ⟨W1.heap.size, 0, none⟩) 1 1) #[.int .u8 ((t.toNat : Nat) : Int)] 5 (by kernel_rfl)) ?_
 rintro _ W2 ⟨rfl, hb2, ch2, sz2⟩
 have zz2 := ch2.size
 refine Wk.rP 2 5 (.slice (some ⟨W1.heap.size, 0, none⟩) 1 1) rfl rfl ?_
 refine Wk.rEnd 3 rfl (Wk.nxt (wp_seq (wp_seq (Wk.reg ?_))))
 refine Wk.rP 0 10 (.slice PA pn pc) rfl rfl ?_
 refine Wk.rP 1 11 (.int .i64 ((pn : Nat) : Int)) rfl rfl ?_
 refine Wk.rP 2 12 (.int .i64 0) rfl rfl ?_
 refine Wk.rEnd 3 rfl (Wk.nxt (wp_block ?_))
 have hOw5 : Own8 W2 W1.heap.size 5 (some ⟨W1.heap.size, 0, none⟩) 1 1 [t] := Mur.own8_lit hb2 (Nat.le_refl _) rfl (by omega)
 refine Wk.loop (fun m_ a wr => ∃ (k : Nat) (A1 : Option Addr) (N : Nat) (c1 : Nat), m_ = pn - k ∧ a = ShP_F1 a.tmps (.pointer (some ⟨w.heap.size, 0, none⟩)) (.slice A1 N c1) (.slice PA pn pc) (.int .i64 ((pn : Nat) : Int)) (.int .i64 ((k : Nat) : Int)) ∧ k ≤ pn ∧ Own8 wr W1.heap.size 5 A1 N c1 (t :: flat (L.take k)) ∧ N = 1 + (flat (L.take k)).length ∧ wr.heap[w.heap.size]? = some (.cells #[.int .u8 0, .int .u8 0, .int .u8 0, .int .u8 0, .int .u8 0, .int .u8 0, .int .u8 0, .int .u8 0, .int .u8 0, .int .u8 0, .int .u8 0, .int .u8 0, .int .u8 0, .int .u8 0, .int .u8 0, .int .u8 0, .int .u8 0, .int .u8 0, .int .u8 0, .int .u8 0, .int .u8 0, .int .u8 0, .int .u8 0, .int .u8 0, .int .u8 0, .int .u8 0, .int .u8 0, .int .u8 0, .int .u8 0, .int .u8 0, .int .u8 0, .int .u8 0] 30 (0, 0)) ∧ Wk.Chg [] w wr ∧ W1.heap.size ≤ wr.heap.size) (pn - 0) ?_ ?_
 ·have kk1 : Wk.Chg [] w W1 := Wk.Chg.step ((Wk.Chg.refl _).more (by simp)) ch1 trivial
  have kk2 := Wk.Chg.step kk1 ch2 trivial
  refine ⟨0, some ⟨W1.heap.size, 0, none⟩, 1, 1, rfl, by kernel_rfl, by omega, (by rw [List.take_zero]; exact hOw5), by rw [List.take_zero]; rfl, (Wk.Chg.hp ch2 hb1 trivial), kk2, (by omega)⟩
 rintro mm1 aa1 W3 ⟨k, A1, N, c1, hmm1, hF1, hi, hO, hN, hZ, HB, hbs⟩
 generalize aa1.tmps = bb1 at hF1
 subst hF1
 have hqn := hO.nc
 have hqm := hO.cm
 unfold Go.maxLen at hqm
 have hzl_ := (Array.getElem?_eq_some_iff.1 hZ).1
 by_cases hlt : k < pn
 ·obtain ⟨g, off, As, ns, cs, ls, rfl, hg, hcell, hby, hsn, hsc, hsnil, hfl, hfle⟩ := HL.out.at hlt
  refine wp_seq (Wk.reg ?_)
  refine Wk.rQ 0 13 (.bool true) rfl rfl (Wk.boolT (b := decide (((k : Nat) : Int) < ((pn : Nat) : Int))) (decide_eq_true (by omega)) (by kernel_rfl)) ?_
  refine Wk.rEnd 1 rfl (Wk.nxt (wp_seq (wp_cond_true (by kernel_rfl) (wp_skip (Wk.nxt (wp_seq (wp_block (wp_seq (Wk.reg ?_)))))))))
  refine Wk.rQ 0 14 (.pointer (some ⟨g, off + k * 1, none⟩)) rfl rfl (Wk.index_sl 83 38 (.tmp 10) (.tmp 12) rfl Tryd.underlying83 1 (by kernel_rfl) g off pn pc k .i64 (by kernel_rfl) (by kernel_rfl) (by omega)) ?_
  refine Wk.rQ 1 15 (.slice As ns cs) rfl rfl (Wk.load1 38 (.tmp 14) rfl (by kernel_rfl) ⟨g, off + k * 1, none⟩ (by kernel_rfl) (.slice As ns cs) (Wk.Chg.cell HB hcell trivial)) ?_
  refine Wk.rP 2 7 (.slice As ns cs) rfl rfl ?_
  refine Wk.rEnd 3 rfl (Wk.nxt (Wk.reg ?_))
  refine Wk.rP 0 16 (.slice A1 N c1) rfl rfl ?_
  refine Wk.rP 1 17 (.slice As ns cs) rfl rfl ?_
  refine Wk.rEx 2 (some 18) _ rfl rfl (by kernel_rfl) (Mur.append8 (.tmp 16) (.tmp 17) 38 5 rfl Tryd.underlying38 (by kernel_rfl) W1.heap.size A1 N c1 (t :: flat (L.take k)) As ns cs ls (by kernel_rfl) (by kernel_rfl) hO.own (Mur.byt_chg hby HB (fun g off e hl => trivial)) hsnil (by omega) (by omega) (N + ns) (by omega) ((t :: flat (L.take k)) ++ ls) rfl) ?_
  rintro _ W4 ⟨AA1, nn1, rfl, ow1, ch3, ha1⟩
  have zz3 := ch3.size
  have hq1 := ow1.nc
  have hq2 := ow1.cm
  refine Wk.rP 3 5 (.slice AA1 (N + ns) nn1) rfl rfl ?_
  refine Wk.rEnd 4 rfl (Wk.inN (Wk.nxt (Wk.reg ?_)))
  refine Wk.rQ 0 19 (.int .i64 ((k + 1 : Nat) : Int)) rfl rfl (Wk.int64 (n := ((k : Nat) : Int) + 1) (z := ((k + 1 : Nat) : Int)) (by omega) (by omega) (by omega) (by kernel_rfl)) ?_
  refine Wk.rP 1 12 (.int .i64 ((k + 1 : Nat) : Int)) rfl rfl ?_
  refine Wk.rEnd 2 rfl (Wk.nxt ?_)
  have kk3 := Wk.Chg.step HB ch3 (Wk.newOr_blk (fun g hg => by have := hO.lt g hg; omega))
  refine ⟨_, ?_, k + 1, AA1, N + ns, nn1, rfl, by kernel_rfl, (by omega), (by rw [hfl]; exact ow1), (by rw [hfl, List.length_append]; have := hby.1; omega), (Wk.Chg.hp ch3 hZ (Wk.off_blk (fun gz hgz => by have := hO.lt gz hgz; omega))), kk3, (by omega)⟩
  omega
 have hfa : flat (L.take k) = flat L := by rw [show k = pn by omega]; exact Mur.flat_all HL.out.len
 have hfl := congrArg List.length hfa
 refine wp_seq (Wk.reg ?_)
 refine Wk.rQ 0 13 (.bool false) rfl rfl (Wk.boolF (b := decide (((k : Nat) : Int) < ((pn : Nat) : Int))) (decide_eq_false (by omega)) (by kernel_rfl)) ?_
 refine Wk.rEnd 1 rfl (Wk.nxt (wp_seq (wp_cond_false (by kernel_rfl) (wp_exit (Wk.thX (Wk.thX (Wk.inX (Wk.nxt (wp_seq (Wk.reg ?_))))))))))
 refine Wk.rP 0 20 (.slice A1 N c1) rfl rfl ?_
 refine Wk.rC 1 21 66 [.tmp 20] #[38] [.slice A1 N c1] rfl rfl rfl ?_
 refine (sum_var (t :: flat (L.take k)) A1 N c1 W3 (HV.out.below (Wk.Chg.below0 HB)) hO.byt (by omega) hO.nil (by omega)).mono ?_
 rintro _ W5 ⟨dd1, hd1, hdl1, rfl, hB1⟩
 have ch4 := Wk.Chg.ofBelow hB1
 have zz4 := ch4.size
 refine ⟨_, rfl, ?_⟩
 refine Wk.rExS 2 none _ rfl rfl (by kernel_rfl) (Mur.storeAll 30 (.tmp 4) (.tmp 21) rfl w.heap.size (by kernel_rfl) dd1 32 hdl1 (by kernel_rfl) (by kernel_rfl) 30 #[.int .u8 0, .int .u8 0, .int .u8 0, .int .u8 0, .int .u8 0, .int .u8 0, .int .u8 0, .int .u8 0, .int .u8 0, .int .u8 0, .int .u8 0, .int .u8 0, .int .u8 0, .int .u8 0, .int .u8 0, .int .u8 0, .int .u8 0, .int .u8 0, .int .u8 0, .int .u8 0, .int .u8 0, .int .u8 0, .int .u8 0, .int .u8 0, .int .u8 0, .int .u8 0, .int .u8 0, .int .u8 0, .int .u8 0, .int .u8 0, .int .u8 0, .int .u8 0] (Wk.Chg.hp ch4 hZ trivial) rfl) ?_
 rintro W6 ⟨hb3, ch5⟩
 have zz5 := ch5.size
 refine Wk.rEnd 3 rfl (Wk.nxt (wp_ret ?_))
 have kk4 := Wk.Chg.step HB ch4 trivial
 have kk5 := Wk.Chg.step kk4 ch5 ⟨.inr (by omega), trivial⟩
 refine Wk.ret (.agg (b8s dd1).toArray) rfl (results_cell_row rfl _ _ w.heap.size 30 (b8s dd1).toArray (0, 0) _ (by kernel_rfl) hb3 Tryd.underlying30 rfl (by rw [List.size_toArray, Mur.b8s_length, hdl1]; kernel_rfl)) ?_
 exact ⟨_, Go.Lib.hid (by rw [hd1.out, hfa]), hdl1, rfl, kk5⟩
theorem Sum_any (lo : Nat) (L : List Att) (g : Nat) (F : List Nat) (p : List UInt8) (PA : Option Addr) (pn pc : Nat) (w : World) (hv : ShaVars w) (h : Mur.SetF 32 57 lo w g L F) (hb : Byt w PA pn p) (hn : pn ≤ 9223372036854775807) : Calls Tryd.prog 16 #[.pointer (some ⟨g, 0, none⟩), .slice PA pn pc] w fun e w' => ∃ d, Hid (d = Mur.sumL p L) ∧ d.length = 32 ∧ e = .returned (.tuple #[.agg (b8s d).toArray, .int .i64 (((Mur.belowL p L).length : Nat) : Int)]) ∧ Wk.Chg [] w w' := by
 have HV := Go.Lib.hid hv
 clear hv
 have hM_ := Mur.SetF.mem h
 have hS_ := Mur.SetF.len h
 have hMay_ := Mur.SetF.ok h
 refine Wk.calls_of_wpM Tryd.func16 rfl ?_
 refine Wk.noP ?_
 refine wp_seq (Wk.reg ?_)
 refine Wk.rEx 0 (some 4) _ rfl rfl (by kernel_rfl) (Wk.new_ex (.pointer (some ⟨w.heap.size, 0, none⟩)) #[.int .u8 0, .int .u8 0, .int .u8 0, .int .u8 0, .int .u8 0, .int .u8 0, .int .u8 0, .int .u8 0, .int .u8 0, .int .u8 0, .int .u8 0, .int .u8 0, .int .u8 0, .int .u8 0, .int .u8 0, .int .u8 0, .int .u8 0, .int .u8 0, .int .u8 0, .int .u8 0, .int .u8 0, .int .u8 0, .int .u8 0, .int .u8 0, .int .u8 0, .int .u8 0, .int .u8 0, .int .u8 0, .int .u8 0, .int .u8 0, .int .u8 0, .int .u8 0] 30 (by kernel_rfl)) ?_
 rintro _ W1 ⟨rfl, hb1, ch1, sz1⟩
 have zz1 := ch1.size
 refine Wk.rP 1 5 (.int .i64 0) rfl rfl ?_
 refine Wk.rEnd 2 rfl (Wk.nxt (wp_seq (wp_seq (Wk.reg ?_))))
 refine Wk.rP 0 10 (.pointer (some ⟨g, 0, none⟩)) rfl rfl ?_
 refine Wk.rP 1 11 (.bool false) rfl rfl ?_
 refine Wk.rP 2 12 (.bool false) rfl rfl ?_
 refine Wk.rP 3 13 (.slice PA pn pc) rfl rfl ?_
 refine Wk.rC 4 14 19 [.tmp 13] #[38] [.slice PA pn pc] rfl rfl rfl ?_
 have kk1 : Wk.Chg [] w W1 := Wk.Chg.step ((Wk.Chg.refl _).more (by simp)) ch1 trivial
 refine (IsPrefix_any p PA pn pc W1 (Mur.byt_chg hb kk1 (fun g off e hl => trivial)) (by omega)).mono ?_
 cases hpre1 : Mur.isPre p
 ·rintro _ _ ⟨rfl, rfl⟩
  refine ⟨_, rfl, ?_⟩
  refine Wk.rP 5 15 (.bool true) rfl rfl ?_
  refine Wk.rP 6 16 (.bool true) rfl rfl ?_
  refine Wk.rEnd 7 rfl (Wk.nxt (wp_cond_true (by kernel_rfl) (wp_seq (Wk.reg ?_))))
  refine Wk.rP 0 17 (.agg ((b8s [0, 0, 0, 0, 0, 0, 0, 0, 0, 0, 0, 0, 0, 0, 0, 0, 0, 0, 0, 0, 0, 0, 0, 0, 0, 0, 0, 0, 0, 0, 0, 0]).toArray)) rfl rfl ?_
  refine Wk.rExS 1 none _ rfl rfl (by kernel_rfl) (Mur.storeAll 30 (.tmp 4) (.tmp 17) rfl w.heap.size (by kernel_rfl) ([0, 0, 0, 0, 0, 0, 0, 0, 0, 0, 0, 0, 0, 0, 0, 0, 0, 0, 0, 0, 0, 0, 0, 0, 0, 0, 0, 0, 0, 0, 0, 0]) 32 rfl (by kernel_rfl) (by kernel_rfl) 30 #[.int .u8 0, .int .u8 0, .int .u8 0, .int .u8 0, .int .u8 0, .int .u8 0, .int .u8 0, .int .u8 0, .int .u8 0, .int .u8 0, .int .u8 0, .int .u8 0, .int .u8 0, .int .u8 0, .int .u8 0, .int .u8 0, .int .u8 0, .int .u8 0, .int .u8 0, .int .u8 0, .int .u8 0, .int .u8 0, .int .u8 0, .int .u8 0, .int .u8 0, .int .u8 0, .int .u8 0, .int .u8 0, .int .u8 0, .int .u8 0, .int .u8 0, .int .u8 0] hb1 rfl) ?_
  rintro W2 ⟨hb2, ch2⟩
  have zz2 := ch2.size
  refine Wk.rP 2 5 (.int .i64 0) rfl rfl ?_
  refine Wk.rEnd 3 rfl (Wk.nxt (wp_ret (Wk.thR (Wk.npR ?_))))
  refine Wk.retM0 (.tuple #[.agg (b8s Mur.z32).toArray, .int .i64 0]) rfl (Mur.results_dig rfl _ _ w.heap.size 30 _ (0, 0) _ (.int .i64 0) (by kernel_rfl) hb2 Tryd.underlying30 rfl (by kernel_rfl) (by kernel_rfl)) ?_
  have kk2 := Wk.Chg.step kk1 ch2 ⟨.inr (by omega), trivial⟩
  exact ⟨Mur.z32, Go.Lib.hid (Mur.sumL_no hpre1).symm, rfl, by rw [Mur.belowL_no hpre1]; rfl, kk2⟩
 rintro _ _ ⟨rfl, rfl⟩
 refine ⟨_, rfl, ?_⟩
 refine Wk.rP 5 15 (.bool false) rfl rfl ?_
 refine Wk.rP 6 16 (.bool false) rfl rfl ?_
 refine Wk.rEnd 7 rfl (Wk.nxt (wp_cond_false (by kernel_rfl) (wp_skip (Wk.nxt (wp_seq (Wk.reg ?_))))))
 refine Wk.rEx 0 (some 6) _ rfl rfl (by kernel_rfl) (Wk.new_ex (.pointer (some ⟨W1.heap.size, 0, none⟩)) #[.slice none 0 0] 83 (by kernel_rfl)) ?_
 rintro _ W3 ⟨rfl, hb3, ch3, sz2⟩
 have zz3 := ch3.size
 refine Wk.rEnd 1 rfl (Wk.nxt (wp_seq (wp_seq (Wk.reg ?_))))
 refine Wk.rP 0 18 (.pointer (some ⟨g, 0, none⟩)) rfl rfl ?_
 refine Wk.rP 1 19 (.slice PA pn pc) rfl rfl ?_
 refine Wk.rC 2 20 42 [.tmp 18, .tmp 19] #[24, 38] [.pointer (some ⟨g, 0, none⟩), .slice PA pn pc] rfl rfl rfl ?_
 refine (below_any g PA pn pc W3).mono ?_
 rintro _ W4 ⟨bq1, bq2, rfl, hbq1, hbq2, hzq1, hzq2, hzq3, ch4⟩
 have zz4 := ch4.size
 refine ⟨_, rfl, ?_⟩
 refine Wk.rEnd 3 rfl (Wk.nxt (wp_block ?_))
 have kk3 := Wk.Chg.step kk1 ch3 trivial
 have kk4 := Wk.Chg.step kk3 ch4 trivial
 have hD1 := Mur.SetF.chg h ch1 (fun s hs => trivial)
 have hD2 := Mur.SetF.chg hD1 ch3 (fun s hs => trivial)
 have hD3 := Mur.SetF.chg hD2 ch4 (fun s hs => trivial)
 have hseq1 := below_seq lo L g F p PA pn pc bq1 bq2 W4 hD3 (Mur.byt_chg hb kk4 (fun g off e hl => trivial)) (by omega) hbq1 hbq2
 have hok_ : ∀ y_, y_ ∈ Mur.belowL p L → Mur.may y_.n := fun y_ hy_ => hMay_ y_ (Mur.belowL_sub hy_)
 have hbll_ := Mur.belowL_len p L
 have hFw := hseq1.1
 have hFb_ : ∀ k_, k_ ∈ (bq1 :: bq2 :: (F ++ Mur.pblk PA pn)) → k_ ≠ W1.heap.size := fun k_ hk_ => by
  simp only [List.mem_cons, List.mem_append] at hk_
  rcases hk_ with rfl | rfl | hk_ | hk_
  ·omega
  ·omega
  ·have := hM_ k_ hk_; omega
  ·have := Mur.pblk_lt hb k_ hk_; omega
 refine Wk.range (hseq1) (by kernel_rfl) (fun _ _ => by kernel_rfl) (fun x => rfl) (fun pre W' => ∃ A n c, W'.heap[W1.heap.size]? = some (.cells #[.slice A n c] 83 (0, 0)) ∧ Mur.PartsA W' W4.heap.size W4.heap.size 38 A n c pre ∧ Wk.Chg [W1.heap.size] W4 W' ∧ W'.heap[w.heap.size]? = some (.cells #[.int .u8 0, .int .u8 0, .int .u8 0, .int .u8 0, .int .u8 0, .int .u8 0, .int .u8 0, .int .u8 0, .int .u8 0, .int .u8 0, .int .u8 0, .int .u8 0, .int .u8 0, .int .u8 0, .int .u8 0, .int .u8 0, .int .u8 0, .int .u8 0, .int .u8 0, .int .u8 0, .int .u8 0, .int .u8 0, .int .u8 0, .int .u8 0, .int .u8 0, .int .u8 0, .int .u8 0, .int .u8 0, .int .u8 0, .int .u8 0, .int .u8 0, .int .u8 0] 30 (0, 0))) ?_ ?_ ?_ ?_ ?_
 ·rintro pre A1_ A2_ ⟨A, n, c, h1, h2, h3, hE0⟩ hc
  exact ⟨A, n, c, hc.hp h1 trivial, h2.chg hc (Nat.le_refl _) (fun _ _ _ _ => trivial), h3.step hc trivial, hc.hp hE0 trivial⟩
 ·rintro pre A1_ A2_ r_ o_ ⟨A, n, c, h1, h2, h3, hE0⟩ hr ho hoc hc
  exact ⟨A, n, c, hc.hp h1 ⟨Mur.cells_ne h1 ho hoc, trivial⟩, h2.chg hc (Nat.le_refl _) (fun q _ _ k_ => ⟨Mur.off_noncells ho hoc k_, trivial⟩), h3.step hc ⟨.inr hr, trivial⟩, hc.hp hE0 ⟨Mur.cells_ne hE0 ho hoc, trivial⟩⟩
 ·exact ⟨none, 0, 0, (Wk.Chg.hp ch4 hb3 trivial), Mur.partsA_nil _ _ _ _, (Wk.Chg.refl _).more (by simp), (Wk.Chg.hp ch4 (Wk.Chg.hp ch3 hb1 trivial) trivial)⟩
 ·intro lz pre x post A1 hsp hI hwl hlA hlz
  obtain ⟨A, n, c, hIp, hIo, hIc, hE0⟩ := hI
  have hlhE0_ := (Array.getElem?_eq_some_iff.1 hE0).1
  have hzI_ := hIc.size
  have hIlen := hIo.len
  have hInc := hIo.nc
  have hbl_ := (Array.getElem?_eq_some_iff.1 hIp).1
  have hbz := Mur.cells_ne' hIp hlz
  have hpl_ : pre.length + 1 ≤ 200 := by have := congrArg List.length hsp; simp at this; omega
  have hbzhE0 := Mur.cells_ne' hE0 hlz
  have hmx_ : Mur.may x.n := hok_ x (by rw [hsp]; simp)
  refine Wk.regI ?_
  refine Wk.iEx 0 (some 7) _ rfl rfl rfl (by kernel_rfl) (Wk.new_ex (.pointer (some ⟨A1.heap.size, 0, none⟩)) #[.int .u8 0, .int .u8 0, .int .u8 0, .int .u8 0, .int .u8 0, .int .u8 0, .int .u8 0, .int .u8 0, .int .u8 0, .int .u8 0, .int .u8 0, .int .u8 0, .int .u8 0, .int .u8 0, .int .u8 0, .int .u8 0, .int .u8 0, .int .u8 0, .int .u8 0, .int .u8 0, .int .u8 0, .int .u8 0, .int .u8 0, .int .u8 0, .int .u8 0, .int .u8 0, .int .u8 0, .int .u8 0, .int .u8 0, .int .u8 0, .int .u8 0, .int .u8 0, .int .u8 0, .int .u8 0, .int .u8 0, .int .u8 0, .int .u8 0, .int .u8 0, .int .u8 0, .int .u8 0, .int .u8 0, .int .u8 0, .int .u8 0, .int .u8 0, .int .u8 0, .int .u8 0, .int .u8 0, .int .u8 0, .int .u8 0, .int .u8 0, .int .u8 0, .int .u8 0, .int .u8 0, .int .u8 0, .int .u8 0, .int .u8 0, .int .u8 0, .int .u8 0, .int .u8 0, .int .u8 0, .int .u8 0, .int .u8 0, .int .u8 0, .int .u8 0, .int .i64 0, .int .u8 0, .int .u8 0, .int .u8 0, .int .u8 0, .int .u8 0, .int .u8 0, .int .u8 0, .int .u8 0, .int .u8 0, .int .u8 0, .int .u8 0, .int .u8 0, .int .u8 0, .int .u8 0, .int .u8 0, .int .u8 0, .int .u8 0, .int .u8 0, .int .u8 0, .int .u8 0, .int .u8 0, .int .u8 0, .int .u8 0, .int .u8 0, .int .u8 0, .int .u8 0, .int .u8 0, .int .u8 0, .int .u8 0, .int .u8 0, .int .u8 0, .int .u8 0] 32 (by kernel_rfl)) ?_
  rintro _ W5 ⟨rfl, hb4, ch5, sz3⟩
  have zz5 := ch5.size
  rw [← Mur.attC_zero] at hb4
  refine Wk.iExS 1 none _ rfl rfl rfl (by kernel_rfl) (Mur.storeArr 32 (.tmp 7) (.tmp 21) rfl A1.heap.size (by kernel_rfl) (Mur.attC x.k x.r x.n x.t).toArray 97 (Mur.attC_size x.hk x.hr x.ht) Mur.attC_all (by kernel_rfl) (by kernel_rfl) 32 ((Mur.attC Mur.z32 Mur.z32 0 Mur.z32).toArray) hb4 (Mur.attC_size rfl rfl rfl)) ?_
  rintro W6 ⟨hb5, ch6⟩
  have zz6 := ch6.size
  refine Wk.iEnd 2 rfl (Wk.nxt ?_)
  have kk5 : Wk.Chg [] A1 W5 := Wk.Chg.step ((Wk.Chg.refl _).more (by simp)) ch5 trivial
  have kk6 := Wk.Chg.step kk5 ch6 ⟨.inr (by omega), trivial⟩
  refine ⟨kk6, ?_⟩
  have hlz2_ := hlz.imp (fun _ h_ => Wk.Chg.hp kk6 h_ trivial)
  intro A2 hch2
  have zz7 := hch2.size
  refine wpIn_block (wpIn_seq (Wk.regI ?_))
  refine Wk.iPure 0 (some 23) (.agg ((Mur.attC x.k x.r x.n x.t).toArray)) rfl rfl rfl (by kernel_rfl) (Mur.loadArr 32 (.tmp 7) rfl _ Tryd.underlying32 rfl A1.heap.size (by kernel_rfl) (Mur.attC x.k x.r x.n x.t).toArray 97 (Mur.attC_size x.hk x.hr x.ht) (by kernel_rfl) 32 (0, 0) (Wk.Chg.hp hch2 hb5 ⟨by omega, trivial⟩)) ?_
  refine Wk.iCall 1 (some 24) 38 [.tmp 23] #[32] [.agg ((Mur.attC x.k x.r x.n x.t).toArray)] rfl rfl rfl (by kernel_rfl) rfl (by kernel_rfl) (by kernel_rfl) ?_
  refine (Bytes_ok x.k x.r x.t x.n x.hk x.hr x.ht A2 hmx_).mono ?_
  rintro _ W7 ⟨qr1, cr1, RB1, hRB1, rfl, hbr1, hq1, hq2, ch7⟩
  have zz8 := ch7.size
  have hBt1 : ∀ g off, (some ⟨qr1, 0, none⟩ : Option Addr) = some ⟨g, off, none⟩ → A2.heap.size ≤ g ∧ g < W7.heap.size := fun g off e => by cases e; exact hq1
  refine ⟨_, rfl, ?_⟩
  refine Wk.iPure 2 (some 22) (.tuple #[.slice (some ⟨qr1, 0, none⟩) 104 cr1, .int .i64 0]) rfl rfl rfl (by kernel_rfl) (by kernel_rfl) ?_
  refine Wk.iPure 3 (some 25) (.slice (some ⟨qr1, 0, none⟩) 104 cr1) rfl rfl rfl (by kernel_rfl) (by kernel_rfl) ?_
  refine Wk.iPure 4 (some 26) (.int .i64 0) rfl rfl rfl (by kernel_rfl) (by kernel_rfl) ?_
  refine Wk.iPure 5 (some 8) (.slice (some ⟨qr1, 0, none⟩) 104 cr1) rfl rfl rfl (by kernel_rfl) (by kernel_rfl) ?_
  refine Wk.iPure 6 (some 9) (.int .i64 0) rfl rfl rfl (by kernel_rfl) (by kernel_rfl) ?_
  refine Wk.iEnd 7 rfl (Wk.nxt (Wk.regI ?_))
  refine Wk.iPure 0 (some 27) (.slice A n c) rfl rfl rfl (by kernel_rfl) (Wk.load1 83 (.tmp 6) rfl (by kernel_rfl) ⟨W1.heap.size, 0, none⟩ (by kernel_rfl) (.slice A n c) ((cell_of_row _ _ 0 _ _ _ (Wk.Chg.hp ch7 (Wk.Chg.hp hch2 (Wk.Chg.hp ch6 (Wk.Chg.hp ch5 hIp trivial) ⟨by omega, trivial⟩) ⟨by omega, trivial⟩) trivial)).trans rfl)) ?_
  refine Wk.iPure 1 (some 28) (.slice (some ⟨qr1, 0, none⟩) 104 cr1) rfl rfl rfl (by kernel_rfl) (by kernel_rfl) ?_
  refine Wk.iEx 2 (some 29) _ rfl rfl rfl (by kernel_rfl) (Wk.new_ex (.slice (some ⟨W7.heap.size, 0, none⟩) 1 1) #[.slice (some ⟨qr1, 0, none⟩) 104 cr1] 38 (by kernel_rfl)) ?_
  rintro _ W8 ⟨rfl, hb6, ch8, sz4⟩
  have zz9 := ch8.size
  have ow1 := (Mur.PartsA.chg hIo kk6 (Nat.le_refl _) (fun _ _ _ _ => trivial))
  have ow2 := (Mur.PartsA.chg ow1 hch2 (Nat.le_refl _) (fun q_ _ _ k_ => ⟨Mur.off_loop hlz2_ k_, trivial⟩))
  have ow3 := (Mur.PartsA.chg ow2 ch7 (Nat.le_refl _) (fun _ _ _ _ => trivial))
  have ow4 := (Mur.PartsA.chg ow3 ch8 (Nat.le_refl _) (fun _ _ _ _ => trivial))
  refine Wk.iEx 3 (some 30) _ rfl rfl rfl (by kernel_rfl) (Mur.appendP (.tmp 27) (.tmp 29) 83 38 rfl Tryd.underlying83 slI W4.heap.size W4.heap.size A n c pre W7.heap.size qr1 cr1 x (0, 0) 38 (by kernel_rfl) (by kernel_rfl) ow4 hb6 (by rw [show x.raw = RB1 from hRB1.out.symm]; exact (Mur.byt_chg hbr1 ch8 (fun g off e hl => trivial))) ⟨by omega, by omega⟩ (by omega) (by unfold Go.maxLen; omega) (fun e_ => by have := hIo.lt _ e_; omega) (by omega) (by omega)) ?_
  rintro _ W10 ⟨AA1, nn1, rfl, ow5, ch9⟩
  have zz10 := ch9.size
  refine Wk.iExS 4 none _ rfl rfl rfl (by kernel_rfl) (Wk.store1 83 (.tmp 6) (.tmp 30) rfl (by kernel_rfl) W1.heap.size 0 (by kernel_rfl) (.slice AA1 (n + 1) nn1) (by kernel_rfl) rfl 83 #[.slice A n c] (Wk.Chg.hp ch9 (Wk.Chg.hp ch8 (Wk.Chg.hp ch7 (Wk.Chg.hp hch2 (Wk.Chg.hp ch6 (Wk.Chg.hp ch5 hIp trivial) ⟨by omega, trivial⟩) ⟨by omega, trivial⟩) trivial) trivial) (Wk.off_blk (fun gz hgz => by have := hIo.lt gz hgz; omega))) (by simp)) ?_
  rintro W11 ⟨hb7, ch10⟩
  replace hb7 : W11.heap[W1.heap.size]? = some (.cells #[.slice AA1 (n + 1) nn1] 83 (0, 0)) := hb7
  have zz11 := ch10.size
  refine Wk.iEnd 5 rfl (Wk.inN ?_)
  have kk7 : Wk.Chg ([W1.heap.size] ++ Wk.blk (.slice A n c)) A2 W7 := Wk.Chg.step ((Wk.Chg.refl _).more (by simp)) ch7 trivial
  have kk8 := Wk.Chg.step kk7 ch8 trivial
  have kk9 := Wk.Chg.step kk8 ch9 (Mur.newOr_iff.2 (fun t ht => .inl (List.mem_append_right _ ht)))
  have kk10 := Wk.Chg.step kk9 ch10 ⟨.inl (by simp), trivial⟩
  have kk11 := Wk.Chg.step hIc ch5 trivial
  have kk12 := Wk.Chg.step kk11 ch6 ⟨.inr (by omega), trivial⟩
  have kk13 := Wk.Chg.step kk12 hch2 ⟨.inr (by omega), trivial⟩
  have kk14 := Wk.Chg.step kk13 ch7 trivial
  have kk15 := Wk.Chg.step kk14 ch8 trivial
  have kk16 := Wk.Chg.step kk15 ch9 (Wk.newOr_blk (fun g hg => by have := hIo.lt g hg; omega))
  have kk17 := Wk.Chg.step kk16 ch10 ⟨.inl (by simp), trivial⟩
  have ow6 := (Mur.PartsA.chg ow5 ch10 (Nat.le_refl _) (fun q_ k1_ _ _ => ⟨by omega, trivial⟩))
  refine Wk.roundN _ kk10 (fun s_ hs_ hlt_ => ?_) (fun k_ hk_ => ⟨hFb_ k_ hk_, Wk.off_blk (fun q hq => by have := hIo.lt q hq; have := hFw k_ hk_; omega)⟩) ⟨_, _, _, hb7, ow6, kk17, (Wk.Chg.hp ch10 (Wk.Chg.hp ch9 (Wk.Chg.hp ch8 (Wk.Chg.hp ch7 (Wk.Chg.hp hch2 (Wk.Chg.hp ch6 (Wk.Chg.hp ch5 hE0 trivial) ⟨by omega, trivial⟩) ⟨by omega, trivial⟩) trivial) trivial) (Wk.off_blk (fun gz hgz => by have := hIo.lt gz hgz; omega))) ⟨by omega, trivial⟩)⟩
  rcases List.mem_cons.1 hs_ with rfl | hs_
  ·exact ⟨_, (hch2.hp (ch6.hp (ch5.hp hIp trivial) ⟨by omega, trivial⟩) ⟨hbz, trivial⟩), rfl⟩
  exact Mur.PartsA.cells (Mur.PartsA.chg (Mur.PartsA.chg hIo kk6 (Nat.le_refl _) (fun _ _ _ _ => trivial)) hch2 (Nat.le_refl _) (fun q_ _ _ k_ => ⟨Mur.off_loop hlz2_ k_, trivial⟩)) (Mur.blk_mem hs_)
 intro D W9 hI hwD hKD
 obtain ⟨A, n, c, hIp, hIo, hIc, hE0⟩ := hI
 have hlhE0_ := (Array.getElem?_eq_some_iff.1 hE0).1
 have hzI_ := hIc.size
 have hIlen := hIo.len
 have hInc := hIo.nc
 have hbl_ := (Array.getElem?_eq_some_iff.1 hIp).1
 have hbD := Mur.cells_ne hIp hKD rfl
 have hDl := (Array.getElem?_eq_some_iff.1 hKD).1
 have hbDhE0 := Mur.cells_ne hE0 hKD rfl
 have hW9 : Wk.Chg [] w W9 := Wk.Chg.step kk4 hIc ⟨.inr (by omega), trivial⟩
 refine Wk.inN (Wk.nxt (wp_seq ?_))
 refine Wk.dReg ([w.heap.size]) (by kernel_rfl) ?_
 intro W12 ch11 sz5
 have zz12 := ch11.size
 have sS1 : Wk.Chg ([w.heap.size]) W12 W12 := (Wk.Chg.refl _).more (by simp)
 refine Wk.dV 0 31 (.slice A n c) rfl rfl (fun w' hw' => (Wk.load1 83 (.tmp 6) rfl (by kernel_rfl) ⟨W1.heap.size, 0, none⟩ (by kernel_rfl) (.slice A n c) ((cell_of_row _ _ 0 _ _ _ (Wk.Chg.hp hw' (Wk.Chg.hp ch11 hIp trivial) ⟨by omega, trivial⟩)).trans rfl))) sS1 ?_
 refine Wk.dV 2 33 (.slice A n c) rfl rfl (fun w' hw' => (Wk.load1 83 (.tmp 6) rfl (by kernel_rfl) ⟨W1.heap.size, 0, none⟩ (by kernel_rfl) (.slice A n c) ((cell_of_row _ _ 0 _ _ _ (Wk.Chg.hp hw' (Wk.Chg.hp ch11 hIp trivial) ⟨by omega, trivial⟩)).trans rfl))) sS1 ?_
 refine Wk.dV 3 34 (.int .i64 ((n : Nat) : Int)) rfl rfl (fun _ _ => by kernel_rfl) sS1 ?_
 refine Wk.dOp 1 (by kernel_rfl) ?_
 refine Wk.oCall (some 32) 43 [.const (.int .u8 32), .tmp 31] #[5, 83] [.int .u8 32, .slice A n c] rfl rfl (by kernel_rfl) rfl (by kernel_rfl) (by kernel_rfl) ?_
 have ow7 := (Mur.PartsA.chg hIo ch11 (Nat.le_refl _) (fun _ _ _ _ => trivial))
 obtain ⟨Sg1, hSg1, hSf1⟩ := Mur.PartsA.segs ow7
 have hSf1l : (Mur.flat Sg1).length ≤ 200 * 104 := by rw [hSf1, Mur.raws_length]; have := ow7.len; omega
 have kk18 := Wk.Chg.step hW9 ch11 trivial
 refine (Parts_any 32 Sg1 A n c W12 (HV.out.below (Wk.Chg.below0 kk18)) hSg1 (by omega) (by omega)).mono ?_
 rintro _ W13 ⟨dd1, hd1, hdl1, rfl, ch12⟩
 have zz13 := ch12.size
 have sS2 := Wk.Chg.step sS1 ch12 trivial
 refine ⟨_, rfl, sS2, ?_⟩
 refine Wk.dOp 4 (by kernel_rfl) ?_
 refine Wk.oExS none _ rfl rfl (by kernel_rfl) (Mur.storeAll 30 (.tmp 4) (.tmp 32) rfl w.heap.size (by kernel_rfl) dd1 32 hdl1 (by kernel_rfl) (by kernel_rfl) 30 #[.int .u8 0, .int .u8 0, .int .u8 0, .int .u8 0, .int .u8 0, .int .u8 0, .int .u8 0, .int .u8 0, .int .u8 0, .int .u8 0, .int .u8 0, .int .u8 0, .int .u8 0, .int .u8 0, .int .u8 0, .int .u8 0, .int .u8 0, .int .u8 0, .int .u8 0, .int .u8 0, .int .u8 0, .int .u8 0, .int .u8 0, .int .u8 0, .int .u8 0, .int .u8 0, .int .u8 0, .int .u8 0, .int .u8 0, .int .u8 0, .int .u8 0, .int .u8 0] (Wk.Chg.hp ch12 (Wk.Chg.hp ch11 hE0 trivial) trivial) rfl) ?_
 rintro W14 ⟨hb8, ch13⟩
 have zz14 := ch13.size
 have sS3 := Wk.Chg.step sS2 ch13 ⟨.inl (by simp), trivial⟩
 refine ⟨sS3, ?_⟩
 refine Wk.dV 5 5 (.int .i64 ((n : Nat) : Int)) rfl rfl (fun _ _ => by kernel_rfl) sS3 ?_
 refine Wk.dEnd (by kernel_rfl) (Wk.nxt (wp_ret (Wk.npR ?_)))
 refine Wk.retM D rfl (Wk.Chg.hp ch13 (Wk.Chg.hp ch12 (Wk.Chg.hp ch11 hKD trivial) trivial) ⟨by omega, trivial⟩) ?_
 intro W15 ch14
 have zz15 := ch14.size
 have hd_ : dd1 = Mur.sumL p L := by rw [hd1.out, hSf1, Mur.sumL_ok hpre1]; rfl
 have hn_ : (Mur.belowL p L).length = n := hIlen
 have kk19 := Wk.Chg.step kk18 ch12 trivial
 have kk20 := Wk.Chg.step kk19 ch13 ⟨.inr (by omega), trivial⟩
 have kk21 := Wk.Chg.step kk20 ch14 ⟨.inr (by omega), trivial⟩
 refine ⟨.tuple #[.agg ((b8s dd1).toArray), .int .i64 ((n : Nat) : Int)], Mur.results_dig rfl _ _ w.heap.size 30 _ (0, 0) _ (.int .i64 ((n : Nat) : Int)) (by kernel_rfl) (Wk.Chg.hp ch14 hb8 ⟨by omega, trivial⟩) Tryd.underlying30 rfl (by rw [List.size_toArray, Mur.b8s_length, hdl1]; kernel_rfl) (by kernel_rfl), ⟨dd1, Go.Lib.hid hd_, hdl1, ?_, kk21⟩⟩
 rw [hn_]
end Go.Proofs.YtfhneademopciaaDoor
namespace Go.Proofs.YtfhneademopciaaDoor
open Go.RowKit
open Mur (b8s Byt Own8 Seg Segs flat cutA attC Att SlA OwnA rowA)
set_option maxRecDepth 100000
set_option maxHeartbeats 4000000
def Sam20_F1 (b : Array Value) (u0 : Value) (u1 : Value) (u5 : Value) : Act := ⟨#[u0, u1, b.getD 2 undef, b.getD 3 undef, b.getD 4 undef, u5, b.getD 6 undef, b.getD 7 undef, b.getD 8 undef, b.getD 9 undef, b.getD 10 undef, b.getD 11 undef, b.getD 12 undef, b.getD 13 undef, b.getD 14 undef, b.getD 15 undef, b.getD 16 undef, b.getD 17 undef, b.getD 18 undef, b.getD 19 undef, b.getD 20 undef, b.getD 21 undef, b.getD 22 undef, b.getD 23 undef, b.getD 24 undef, b.getD 25 undef], []⟩
theorem Same20_any (A : Option Addr) (n c : Nat) (L : List Att) (B : Option Addr) (m d : Nat) (M : List Att) (w : World) (hA_ : SlA w A n L) (hB_ : SlA w B m M) (hn : n ≤ 9223372036854775807) : Calls Tryd.prog 17 #[.slice A n c, .slice B m d] w fun e w' => e = .returned (.bool (decide (L = M))) ∧ Wk.Chg [] w w' := by
 have hLl0 := hA_.len
 have hMl0 := hB_.len
 refine calls_of_wp Tryd.func17 rfl ?_
 refine wp_seq (Wk.reg ?_)
 refine Wk.rP 0 4 (.bool false) rfl rfl ?_
 refine Wk.rEnd 1 rfl (Wk.nxt (wp_seq (wp_seq (Wk.reg ?_))))
 refine Wk.rP 0 6 (.slice A n c) rfl rfl ?_
 refine Wk.rP 1 7 (.int .i64 ((n : Nat) : Int)) rfl rfl ?_
 refine Wk.rP 2 8 (.slice B m d) rfl rfl ?_
 refine Wk.rP 3 9 (.int .i64 ((m : Nat) : Int)) rfl rfl ?_
 by_cases hx1 : ((n : Nat) : Int) ≠ ((m : Nat) : Int)
 ·refine Wk.rQ 4 10 (.bool true) rfl rfl (Wk.boolT (b := (((n : Nat) : Int) != ((m : Nat) : Int))) (bne_iff_ne.2 (by first | exact hx1 | omega)) (by kernel_rfl)) ?_
  refine Wk.rEnd 5 rfl (Wk.nxt (wp_cond_true (by kernel_rfl) (wp_seq (Wk.reg ?_))))
  refine Wk.rP 0 4 (.bool false) rfl rfl ?_
  refine Wk.rEnd 1 rfl (Wk.nxt (wp_ret (Wk.thR ?_)))
  refine Wk.ret (.bool false) rfl (by kernel_rfl) ?_
  exact ⟨by rw [decide_eq_false (fun q => by have h1 := hA_.len; have h2 := hB_.len; subst q; omega)], (Wk.Chg.refl _)⟩
 refine Wk.rQ 4 10 (.bool false) rfl rfl (Wk.boolF (b := (((n : Nat) : Int) != ((m : Nat) : Int))) (bne_eq_false_iff_eq.2 (by first | exact hx1 | omega)) (by kernel_rfl)) ?_
 refine Wk.rEnd 5 rfl (Wk.nxt (wp_cond_false (by kernel_rfl) (wp_skip (Wk.nxt (wp_seq (wp_seq (Wk.reg ?_)))))))
 refine Wk.rP 0 5 (.int .i64 0) rfl rfl ?_
 refine Wk.rEnd 1 rfl (Wk.nxt (wp_block ?_))
 refine Wk.loop (fun m_ a wr => ∃ (i : Nat), m_ = n - i ∧ a = Sam20_F1 a.tmps (.slice A n c) (.slice B m d) (.int .i64 ((i : Nat) : Int)) ∧ i ≤ n ∧ L.take i = M.take i ∧ Wk.Chg [] w wr) (n - 0) ?_ ?_
 ·refine ⟨0, rfl, by kernel_rfl, Nat.zero_le _, by simp, (Wk.Chg.refl _)⟩
 rintro mm1 aa1 W1 ⟨i, hmm1, hF1, hi, htk, HB⟩
 generalize aa1.tmps = bb1 at hF1
 subst hF1
 have hzB := HB.size
 have hLl := hA_.len
 have hMl := hB_.len
 by_cases hlt : i < n
 ·obtain ⟨g1, o1, rfl, _⟩ := hA_.ex (by omega)
  obtain ⟨g2, o2, rfl, _⟩ := hB_.ex (by omega)
  obtain ⟨x, hx⟩ : ∃ x, L[i]? = some x := ⟨_, List.getElem?_eq_getElem (by omega)⟩
  obtain ⟨y, hy⟩ : ∃ y, M[i]? = some y := ⟨_, List.getElem?_eq_getElem (by omega)⟩
  refine wp_seq (wp_seq (Wk.reg ?_))
  refine Wk.rP 0 11 (.int .i64 ((i : Nat) : Int)) rfl rfl ?_
  refine Wk.rP 1 12 (.slice (some ⟨g1, o1, none⟩) n c) rfl rfl ?_
  refine Wk.rP 2 13 (.int .i64 ((n : Nat) : Int)) rfl rfl ?_
  refine Wk.rQ 3 14 (.bool true) rfl rfl (Wk.boolT (b := decide (((i : Nat) : Int) < ((n : Nat) : Int))) (decide_eq_true (by omega)) (by kernel_rfl)) ?_
  refine Wk.rEnd 4 rfl (Wk.nxt (wp_cond_true (by kernel_rfl) (wp_skip (Wk.nxt (wp_seq (wp_block (wp_seq ?_)))))))
  refine Wk.dReg ([]) (by kernel_rfl) ?_
  intro W2 ch1 sz1
  have zz1 := ch1.size
  have sS1 : Wk.Chg ([]) W2 W2 := (Wk.Chg.refl _).more (by simp)
  refine Wk.dV 0 17 (.slice (some ⟨g1, o1, none⟩) n c) rfl rfl (fun _ _ => by kernel_rfl) sS1 ?_
  refine Wk.dV 1 18 (.int .i64 ((i : Nat) : Int)) rfl rfl (fun _ _ => by kernel_rfl) sS1 ?_
  refine Wk.dV 2 19 (.pointer (some ⟨g1, o1 + i * 97, none⟩)) rfl rfl (fun w' hw' => (Wk.index_sl 22 32 (.tmp 17) (.tmp 18) rfl Tryd.underlying22 97 (by kernel_rfl) g1 o1 n c i .i64 (by kernel_rfl) (by kernel_rfl) (by omega))) sS1 ?_
  have kk1 := Wk.Chg.step HB ch1 trivial
  refine Wk.dV 3 20 (.agg ((Mur.attC x.k x.r x.n x.t).toArray)) rfl rfl (fun w' hw' => (Wk.loadR 32 (.tmp 19) rfl _ Tryd.underlying32 rfl g1 (o1 + i * 97) (by kernel_rfl) (Mur.attC x.k x.r x.n x.t) (by rw [Mur.attC_length x.hk x.hr x.ht]; kernel_rfl) ((Mur.SlA.chg (Mur.SlA.chg hA_ kk1 (fun g off e hl => trivial)) hw' (fun g off e hl => trivial)).elem hx))) sS1 ?_
  refine Wk.dV 4 21 (.slice (some ⟨g2, o2, none⟩) m d) rfl rfl (fun _ _ => by kernel_rfl) sS1 ?_
  refine Wk.dV 5 22 (.int .i64 ((i : Nat) : Int)) rfl rfl (fun _ _ => by kernel_rfl) sS1 ?_
  refine Wk.dV 6 23 (.pointer (some ⟨g2, o2 + i * 97, none⟩)) rfl rfl (fun w' hw' => (Wk.index_sl 22 32 (.tmp 21) (.tmp 22) rfl Tryd.underlying22 97 (by kernel_rfl) g2 o2 m d i .i64 (by kernel_rfl) (by kernel_rfl) (by omega))) sS1 ?_
  refine Wk.dV 7 24 (.agg ((Mur.attC y.k y.r y.n y.t).toArray)) rfl rfl (fun w' hw' => (Wk.loadR 32 (.tmp 23) rfl _ Tryd.underlying32 rfl g2 (o2 + i * 97) (by kernel_rfl) (Mur.attC y.k y.r y.n y.t) (by rw [Mur.attC_length y.hk y.hr y.ht]; kernel_rfl) ((Mur.SlA.chg (Mur.SlA.chg hB_ kk1 (fun g off e hl => trivial)) hw' (fun g off e hl => trivial)).elem hy))) sS1 ?_
  by_cases hatt1 : x.k = y.k ∧ x.r = y.r ∧ x.n = y.n ∧ x.t = y.t
  ·refine Wk.dV 8 25 (.bool false) rfl rfl (fun w' hw' => (Wk.boolF (b := !decide (x.k = y.k ∧ x.r = y.r ∧ x.n = y.n ∧ x.t = y.t)) ((by rw [decide_eq_true (hatt1)]; rfl)) (run_neq_att (.tmp 20) (.tmp 24) 32 rfl x.hk x.hr x.ht y.hk y.hr y.ht x.hn y.hn (by kernel_rfl) (by kernel_rfl)))) sS1 ?_
   refine Wk.dEnd (by kernel_rfl) (Wk.nxt (wp_cond_false (by kernel_rfl) (wp_skip (Wk.inN (Wk.nxt (Wk.reg ?_))))))
   refine Wk.rP 0 15 (.int .i64 ((i : Nat) : Int)) rfl rfl ?_
   refine Wk.rQ 1 16 (.int .i64 ((i + 1 : Nat) : Int)) rfl rfl (Wk.int64 (n := ((i : Nat) : Int) + 1) (z := ((i + 1 : Nat) : Int)) (by omega) (by omega) (by omega) (by kernel_rfl)) ?_
   refine Wk.rP 2 5 (.int .i64 ((i + 1 : Nat) : Int)) rfl rfl ?_
   refine Wk.rEnd 3 rfl (Wk.nxt ?_)
   refine ⟨_, ?_, i + 1, rfl, by kernel_rfl, (by omega), (Mur.sameA_step htk hx hy ((Mur.Att.eq_iff x y).2 hatt1)), kk1⟩
   omega
  refine Wk.dV 8 25 (.bool true) rfl rfl (fun w' hw' => (Wk.boolT (b := !decide (x.k = y.k ∧ x.r = y.r ∧ x.n = y.n ∧ x.t = y.t)) ((by rw [decide_eq_false (hatt1)]; rfl)) (run_neq_att (.tmp 20) (.tmp 24) 32 rfl x.hk x.hr x.ht y.hk y.hr y.ht x.hn y.hn (by kernel_rfl) (by kernel_rfl)))) sS1 ?_
  refine Wk.dEnd (by kernel_rfl) (Wk.nxt (wp_cond_true (by kernel_rfl) (wp_seq (Wk.reg ?_))))
  refine Wk.rP 0 4 (.bool false) rfl rfl ?_
  refine Wk.rEnd 1 rfl (Wk.nxt (wp_ret (Wk.inR (Wk.thR (Wk.thR (Wk.inR (Wk.thR ?_)))))))
  refine Wk.ret (.bool false) rfl (by kernel_rfl) ?_
  exact ⟨by rw [decide_eq_false (fun q => hatt1 ((Mur.Att.eq_iff x y).1 (by subst q; rw [hx] at hy; exact Option.some.inj hy)))], kk1⟩
 have hLM : L = M := Mur.sameA_all htk hLl (by omega) (by omega)
 refine wp_seq (wp_seq (Wk.reg ?_))
 refine Wk.rP 0 11 (.int .i64 ((i : Nat) : Int)) rfl rfl ?_
 refine Wk.rP 1 12 (.slice A n c) rfl rfl ?_
 refine Wk.rP 2 13 (.int .i64 ((n : Nat) : Int)) rfl rfl ?_
 refine Wk.rQ 3 14 (.bool false) rfl rfl (Wk.boolF (b := decide (((i : Nat) : Int) < ((n : Nat) : Int))) (decide_eq_false (by omega)) (by kernel_rfl)) ?_
 refine Wk.rEnd 4 rfl (Wk.nxt (wp_cond_false (by kernel_rfl) (wp_exit (Wk.thX (Wk.thX (Wk.inX (Wk.nxt (wp_seq (Wk.reg ?_)))))))))
 refine Wk.rP 0 4 (.bool true) rfl rfl ?_
 refine Wk.rEnd 1 rfl (Wk.nxt (wp_ret ?_))
 refine Wk.ret (.bool true) rfl (by kernel_rfl) ?_
 exact ⟨by rw [decide_eq_true hLM], HB⟩
theorem Less20_any (x y : Att) (w : World) : Calls Tryd.prog 25 #[.agg (attC x.k x.r x.n x.t).toArray, .agg (attC y.k y.r y.n y.t).toArray] w fun e w' => e = .returned (.bool (decide (x.lt y))) ∧ Wk.Chg [] w w' := by
 refine calls_of_wp Tryd.func25 rfl ?_
 refine wp_seq (Wk.reg ?_)
 by_cases hls : x.lt y
 ·refine Wk.rEx 0 (some 2) _ rfl rfl (by kernel_rfl) (Wk.new_ex (.pointer (some ⟨w.heap.size, 0, none⟩)) ((Mur.attC x.k x.r x.n x.t).toArray) 32 (by kernel_rfl)) ?_
  rintro _ W1 ⟨rfl, hb1, ch1, sz1⟩
  have zz1 := ch1.size
  refine Wk.rEx 1 (some 3) _ rfl rfl (by kernel_rfl) (Wk.new_ex (.pointer (some ⟨W1.heap.size, 0, none⟩)) ((Mur.attC y.k y.r y.n y.t).toArray) 32 (by kernel_rfl)) ?_
  rintro _ W2 ⟨rfl, hb2, ch2, sz2⟩
  have zz2 := ch2.size
  refine Wk.rP 2 4 (.bool false) rfl rfl ?_
  refine Wk.rEnd 3 rfl (Wk.nxt (wp_seq ?_))
  refine Wk.dReg ([]) (by kernel_rfl) ?_
  intro W3 ch3 sz3
  have zz3 := ch3.size
  have sS1 : Wk.Chg ([]) W3 W3 := (Wk.Chg.refl _).more (by simp)
  refine Wk.dV 0 5 (.agg ((Mur.attC x.k x.r x.n x.t).toArray)) rfl rfl (fun w' hw' => (Mur.loadArr 32 (.tmp 2) rfl _ Tryd.underlying32 rfl w.heap.size (by kernel_rfl) (Mur.attC x.k x.r x.n x.t).toArray 97 (Mur.attC_size x.hk x.hr x.ht) (by kernel_rfl) 32 (0, 0) (Wk.Chg.hp hw' (Wk.Chg.hp ch3 (Wk.Chg.hp ch2 hb1 trivial) trivial) trivial))) sS1 ?_
  refine Wk.dV 3 8 (.agg ((Mur.attC y.k y.r y.n y.t).toArray)) rfl rfl (fun w' hw' => (Mur.loadArr 32 (.tmp 3) rfl _ Tryd.underlying32 rfl W1.heap.size (by kernel_rfl) (Mur.attC y.k y.r y.n y.t).toArray 97 (Mur.attC_size y.hk y.hr y.ht) (by kernel_rfl) 32 (0, 0) (Wk.Chg.hp hw' (Wk.Chg.hp ch3 hb2 trivial) trivial))) sS1 ?_
  refine Wk.dOp 1 (by kernel_rfl) ?_
  refine Wk.oCall (some 6) 48 [.tmp 5] #[32] [.agg ((Mur.attC x.k x.r x.n x.t).toArray)] rfl rfl (by kernel_rfl) rfl (by kernel_rfl) (by kernel_rfl) ?_
  refine (Rbytes_any x.k x.r x.t x.n x.hk x.hr x.ht W3).mono ?_
  rintro _ W4 ⟨qr1, cr1, RB1, hRB1, rfl, hbr1, hq1, hq2, ch4⟩
  have zz4 := ch4.size
  have hBt1 : ∀ g off, (some ⟨qr1, 0, none⟩ : Option Addr) = some ⟨g, off, none⟩ → W3.heap.size ≤ g ∧ g < W4.heap.size := fun g off e => by cases e; exact hq1
  have sS2 := Wk.Chg.step sS1 ch4 trivial
  refine ⟨_, rfl, sS2, ?_⟩
  refine Wk.dOp2 2 4 (by kernel_rfl) ?_ ?_
  ·refine Wk.oVal (some 7) (.string (Mur.str RB1)) rfl rfl (by kernel_rfl) (Mur.run_str 38 9 (.tmp 6) 5 rfl Tryd.underlying38 Tryd.underlying5 Tryd.underlying9 (some ⟨qr1, 0, none⟩) 104 cr1 RB1 (by kernel_rfl) hbr1) ?_
   refine ⟨sS2, ?_⟩
   refine Wk.dOp 4 (by kernel_rfl) ?_
   refine Wk.oCall (some 9) 48 [.tmp 8] #[32] [.agg ((Mur.attC y.k y.r y.n y.t).toArray)] rfl rfl (by kernel_rfl) rfl (by kernel_rfl) (by kernel_rfl) ?_
   refine (Rbytes_any y.k y.r y.t y.n y.hk y.hr y.ht W4).mono ?_
   rintro _ W5 ⟨qr2, cr2, RB2, hRB2, rfl, hbr2, hq3, hq4, ch5⟩
   have zz5 := ch5.size
   have hBt2 : ∀ g off, (some ⟨qr2, 0, none⟩ : Option Addr) = some ⟨g, off, none⟩ → W4.heap.size ≤ g ∧ g < W5.heap.size := fun g off e => by cases e; exact hq3
   have sS3 := Wk.Chg.step sS2 ch5 trivial
   refine ⟨_, rfl, sS3, ?_⟩
   refine Wk.dOp 5 (by kernel_rfl) ?_
   refine Wk.oVal (some 10) (.string (Mur.str RB2)) rfl rfl (by kernel_rfl) (Mur.run_str 38 9 (.tmp 9) 5 rfl Tryd.underlying38 Tryd.underlying5 Tryd.underlying9 (some ⟨qr2, 0, none⟩) 104 cr2 RB2 (by kernel_rfl) hbr2) ?_
   refine ⟨sS3, ?_⟩
   refine Wk.dV 6 11 (.bool true) rfl rfl (fun w' hw' => (Wk.boolT (b := decide (Go.Lib.compareBytes RB1 RB2 < 0)) (decide_eq_true (by rw [hRB1.out, hRB2.out]; exact hls)) (Mur.strlss 9 9 (.tmp 7) (.tmp 10) rfl RB1 RB2 (by kernel_rfl) (by kernel_rfl)))) sS3 ?_
   refine Wk.dV 7 4 (.bool true) rfl rfl (fun _ _ => by kernel_rfl) sS3 ?_
   refine Wk.dEnd (by kernel_rfl) (Wk.nxt (wp_ret ?_))
   have kk1 : Wk.Chg [] w W1 := Wk.Chg.step ((Wk.Chg.refl _).more (by simp)) ch1 trivial
   have kk2 := Wk.Chg.step kk1 ch2 trivial
   have kk3 := Wk.Chg.step kk2 ch3 trivial
   have kk4 := Wk.Chg.step kk3 ch4 trivial
   have kk5 := Wk.Chg.step kk4 ch5 trivial
   refine Wk.ret (.bool true) rfl (by kernel_rfl) ?_
   exact ⟨by rw [decide_eq_true hls], kk5⟩
  refine Wk.oCall (some 9) 48 [.tmp 8] #[32] [.agg ((Mur.attC y.k y.r y.n y.t).toArray)] rfl rfl (by kernel_rfl) rfl (by kernel_rfl) (by kernel_rfl) ?_
  refine (Rbytes_any y.k y.r y.t y.n y.hk y.hr y.ht W4).mono ?_
  rintro _ W6 ⟨qr3, cr3, RB3, hRB3, rfl, hbr3, hq5, hq6, ch6⟩
  have zz6 := ch6.size
  have hBt3 : ∀ g off, (some ⟨qr3, 0, none⟩ : Option Addr) = some ⟨g, off, none⟩ → W4.heap.size ≤ g ∧ g < W6.heap.size := fun g off e => by cases e; exact hq5
  have sS4 := Wk.Chg.step sS2 ch6 trivial
  refine ⟨_, rfl, sS4, ?_⟩
  refine Wk.dOp2 2 5 (by kernel_rfl) ?_ ?_
  ·refine Wk.oVal (some 7) (.string (Mur.str RB1)) rfl rfl (by kernel_rfl) (Mur.run_str 38 9 (.tmp 6) 5 rfl Tryd.underlying38 Tryd.underlying5 Tryd.underlying9 (some ⟨qr1, 0, none⟩) 104 cr1 RB1 (by kernel_rfl) (Mur.byt_chg hbr1 ch6 (fun g off e hl => trivial))) ?_
   refine ⟨sS4, ?_⟩
   refine Wk.dOp 5 (by kernel_rfl) ?_
   refine Wk.oVal (some 10) (.string (Mur.str RB3)) rfl rfl (by kernel_rfl) (Mur.run_str 38 9 (.tmp 9) 5 rfl Tryd.underlying38 Tryd.underlying5 Tryd.underlying9 (some ⟨qr3, 0, none⟩) 104 cr3 RB3 (by kernel_rfl) hbr3) ?_
   refine ⟨sS4, ?_⟩
   refine Wk.dV 6 11 (.bool true) rfl rfl (fun w' hw' => (Wk.boolT (b := decide (Go.Lib.compareBytes RB1 RB3 < 0)) (decide_eq_true (by rw [hRB1.out, hRB3.out]; exact hls)) (Mur.strlss 9 9 (.tmp 7) (.tmp 10) rfl RB1 RB3 (by kernel_rfl) (by kernel_rfl)))) sS4 ?_
   refine Wk.dV 7 4 (.bool true) rfl rfl (fun _ _ => by kernel_rfl) sS4 ?_
   refine Wk.dEnd (by kernel_rfl) (Wk.nxt (wp_ret ?_))
   have kk6 : Wk.Chg [] w W1 := Wk.Chg.step ((Wk.Chg.refl _).more (by simp)) ch1 trivial
   have kk7 := Wk.Chg.step kk6 ch2 trivial
   have kk8 := Wk.Chg.step kk7 ch3 trivial
   have kk9 := Wk.Chg.step kk8 ch4 trivial
   have kk10 := Wk.Chg.step kk9 ch6 trivial
   refine Wk.ret (.bool true) rfl (by kernel_rfl) ?_
   exact ⟨by rw [decide_eq_true hls], kk10⟩
  refine Wk.oVal (some 10) (.string (Mur.str RB3)) rfl rfl (by kernel_rfl) (Mur.run_str 38 9 (.tmp 9) 5 rfl Tryd.underlying38 Tryd.underlying5 Tryd.underlying9 (some ⟨qr3, 0, none⟩) 104 cr3 RB3 (by kernel_rfl) hbr3) ?_
  refine ⟨sS4, ?_⟩
  refine Wk.dOp 2 (by kernel_rfl) ?_
  refine Wk.oVal (some 7) (.string (Mur.str RB1)) rfl rfl (by kernel_rfl) (Mur.run_str 38 9 (.tmp 6) 5 rfl Tryd.underlying38 Tryd.underlying5 Tryd.underlying9 (some ⟨qr1, 0, none⟩) 104 cr1 RB1 (by kernel_rfl) (Mur.byt_chg hbr1 ch6 (fun g off e hl => trivial))) ?_
  refine ⟨sS4, ?_⟩
  refine Wk.dV 6 11 (.bool true) rfl rfl (fun w' hw' => (Wk.boolT (b := decide (Go.Lib.compareBytes RB1 RB3 < 0)) (decide_eq_true (by rw [hRB1.out, hRB3.out]; exact hls)) (Mur.strlss 9 9 (.tmp 7) (.tmp 10) rfl RB1 RB3 (by kernel_rfl) (by kernel_rfl)))) sS4 ?_
  refine Wk.dV 7 4 (.bool true) rfl rfl (fun _ _ => by kernel_rfl) sS4 ?_
  refine Wk.dEnd (by kernel_rfl) (Wk.nxt (wp_ret ?_))
  have kk11 : Wk.Chg [] w W1 := Wk.Chg.step ((Wk.Chg.refl _).more (by simp)) ch1 trivial
  have kk12 := Wk.Chg.step kk11 ch2 trivial
  have kk13 := Wk.Chg.step kk12 ch3 trivial
  have kk14 := Wk.Chg.step kk13 ch4 trivial
  have kk15 := Wk.Chg.step kk14 ch6 trivial
  refine Wk.ret (.bool true) rfl (by kernel_rfl) ?_
  exact ⟨by rw [decide_eq_true hls], kk15⟩
 refine Wk.rEx 0 (some 2) _ rfl rfl (by kernel_rfl) (Wk.new_ex (.pointer (some ⟨w.heap.size, 0, none⟩)) ((Mur.attC x.k x.r x.n x.t).toArray) 32 (by kernel_rfl)) ?_
 rintro _ W7 ⟨rfl, hb3, ch7, sz4⟩
 have zz7 := ch7.size
 refine Wk.rEx 1 (some 3) _ rfl rfl (by kernel_rfl) (Wk.new_ex (.pointer (some ⟨W7.heap.size, 0, none⟩)) ((Mur.attC y.k y.r y.n y.t).toArray) 32 (by kernel_rfl)) ?_
 rintro _ W8 ⟨rfl, hb4, ch8, sz5⟩
 have zz8 := ch8.size
 refine Wk.rP 2 4 (.bool false) rfl rfl ?_
 refine Wk.rEnd 3 rfl (Wk.nxt (wp_seq ?_))
 refine Wk.dReg ([]) (by kernel_rfl) ?_
 intro W10 ch9 sz6
 have zz9 := ch9.size
 have sS5 : Wk.Chg ([]) W10 W10 := (Wk.Chg.refl _).more (by simp)
 refine Wk.dV 0 5 (.agg ((Mur.attC x.k x.r x.n x.t).toArray)) rfl rfl (fun w' hw' => (Mur.loadArr 32 (.tmp 2) rfl _ Tryd.underlying32 rfl w.heap.size (by kernel_rfl) (Mur.attC x.k x.r x.n x.t).toArray 97 (Mur.attC_size x.hk x.hr x.ht) (by kernel_rfl) 32 (0, 0) (Wk.Chg.hp hw' (Wk.Chg.hp ch9 (Wk.Chg.hp ch8 hb3 trivial) trivial) trivial))) sS5 ?_
 refine Wk.dV 3 8 (.agg ((Mur.attC y.k y.r y.n y.t).toArray)) rfl rfl (fun w' hw' => (Mur.loadArr 32 (.tmp 3) rfl _ Tryd.underlying32 rfl W7.heap.size (by kernel_rfl) (Mur.attC y.k y.r y.n y.t).toArray 97 (Mur.attC_size y.hk y.hr y.ht) (by kernel_rfl) 32 (0, 0) (Wk.Chg.hp hw' (Wk.Chg.hp ch9 hb4 trivial) trivial))) sS5 ?_
 refine Wk.dOp 1 (by kernel_rfl) ?_
 refine Wk.oCall (some 6) 48 [.tmp 5] #[32] [.agg ((Mur.attC x.k x.r x.n x.t).toArray)] rfl rfl (by kernel_rfl) rfl (by kernel_rfl) (by kernel_rfl) ?_
 refine (Rbytes_any x.k x.r x.t x.n x.hk x.hr x.ht W10).mono ?_
 rintro _ W11 ⟨qr4, cr4, RB4, hRB4, rfl, hbr4, hq7, hq8, ch10⟩
 have zz10 := ch10.size
 have hBt4 : ∀ g off, (some ⟨qr4, 0, none⟩ : Option Addr) = some ⟨g, off, none⟩ → W10.heap.size ≤ g ∧ g < W11.heap.size := fun g off e => by cases e; exact hq7
 have sS6 := Wk.Chg.step sS5 ch10 trivial
 refine ⟨_, rfl, sS6, ?_⟩
 refine Wk.dOp2 2 4 (by kernel_rfl) ?_ ?_
 ·refine Wk.oVal (some 7) (.string (Mur.str RB4)) rfl rfl (by kernel_rfl) (Mur.run_str 38 9 (.tmp 6) 5 rfl Tryd.underlying38 Tryd.underlying5 Tryd.underlying9 (some ⟨qr4, 0, none⟩) 104 cr4 RB4 (by kernel_rfl) hbr4) ?_
  refine ⟨sS6, ?_⟩
  refine Wk.dOp 4 (by kernel_rfl) ?_
  refine Wk.oCall (some 9) 48 [.tmp 8] #[32] [.agg ((Mur.attC y.k y.r y.n y.t).toArray)] rfl rfl (by kernel_rfl) rfl (by kernel_rfl) (by kernel_rfl) ?_
  refine (Rbytes_any y.k y.r y.t y.n y.hk y.hr y.ht W11).mono ?_
  rintro _ W12 ⟨qr5, cr5, RB5, hRB5, rfl, hbr5, hq9, hq10, ch11⟩
  have zz11 := ch11.size
  have hBt5 : ∀ g off, (some ⟨qr5, 0, none⟩ : Option Addr) = some ⟨g, off, none⟩ → W11.heap.size ≤ g ∧ g < W12.heap.size := fun g off e => by cases e; exact hq9
  have sS7 := Wk.Chg.step sS6 ch11 trivial
  refine ⟨_, rfl, sS7, ?_⟩
  refine Wk.dOp 5 (by kernel_rfl) ?_
  refine Wk.oVal (some 10) (.string (Mur.str RB5)) rfl rfl (by kernel_rfl) (Mur.run_str 38 9 (.tmp 9) 5 rfl Tryd.underlying38 Tryd.underlying5 Tryd.underlying9 (some ⟨qr5, 0, none⟩) 104 cr5 RB5 (by kernel_rfl) hbr5) ?_
  refine ⟨sS7, ?_⟩
  refine Wk.dV 6 11 (.bool false) rfl rfl (fun w' hw' => (Wk.boolF (b := decide (Go.Lib.compareBytes RB4 RB5 < 0)) (decide_eq_false (by rw [hRB4.out, hRB5.out]; exact hls)) (Mur.strlss 9 9 (.tmp 7) (.tmp 10) rfl RB4 RB5 (by kernel_rfl) (by kernel_rfl)))) sS7 ?_
  refine Wk.dV 7 4 (.bool false) rfl rfl (fun _ _ => by kernel_rfl) sS7 ?_
  refine Wk.dEnd (by kernel_rfl) (Wk.nxt (wp_ret ?_))
  have kk16 : Wk.Chg [] w W7 := Wk.Chg.step ((Wk.Chg.refl _).more (by simp)) ch7 trivial
  have kk17 := Wk.Chg.step kk16 ch8 trivial
  have kk18 := Wk.Chg.step kk17 ch9 trivial
  have kk19 := Wk.Chg.step kk18 ch10 trivial
  have kk20 := Wk.Chg.step kk19 ch11 trivial
  refine Wk.ret (.bool false) rfl (by kernel_rfl) ?_
  exact ⟨by rw [decide_eq_false hls], kk20⟩
 refine Wk.oCall (some 9) 48 [.tmp 8] #[32] [.agg ((Mur.attC y.k y.r y.n y.t).toArray)] rfl rfl (by kernel_rfl) rfl (by kernel_rfl) (by kernel_rfl) ?_
 refine (Rbytes_any y.k y.r y.t y.n y.hk y.hr y.ht W11).mono ?_
 rintro _ W13 ⟨qr6, cr6, RB6, hRB6, rfl, hbr6, hq11, hq12, ch12⟩
 have zz12 := ch12.size
 have hBt6 : ∀ g off, (some ⟨qr6, 0, none⟩ : Option Addr) = some ⟨g, off, none⟩ → W11.heap.size ≤ g ∧ g < W13.heap.size := fun g off e => by cases e; exact hq11
 have sS8 := Wk.Chg.step sS6 ch12 trivial
 refine ⟨_, rfl, sS8, ?_⟩
 refine Wk.dOp2 2 5 (by kernel_rfl) ?_ ?_
 ·refine Wk.oVal (some 7) (.string (Mur.str RB4)) rfl rfl (by kernel_rfl) (Mur.run_str 38 9 (.tmp 6) 5 rfl Tryd.underlying38 Tryd.underlying5 Tryd.underlying9 (some ⟨qr4, 0, none⟩) 104 cr4 RB4 (by kernel_rfl) (Mur.byt_chg hbr4 ch12 (fun g off e hl => trivial))) ?_
  refine ⟨sS8, ?_⟩
  refine Wk.dOp 5 (by kernel_rfl) ?_
  refine Wk.oVal (some 10) (.string (Mur.str RB6)) rfl rfl (by kernel_rfl) (Mur.run_str 38 9 (.tmp 9) 5 rfl Tryd.underlying38 Tryd.underlying5 Tryd.underlying9 (some ⟨qr6, 0, none⟩) 104 cr6 RB6 (by kernel_rfl) hbr6) ?_
  refine ⟨sS8, ?_⟩
  refine Wk.dV 6 11 (.bool false) rfl rfl (fun w' hw' => (Wk.boolF (b := decide (Go.Lib.compareBytes RB4 RB6 < 0)) (decide_eq_false (by rw [hRB4.out, hRB6.out]; exact hls)) (Mur.strlss 9 9 (.tmp 7) (.tmp 10) rfl RB4 RB6 (by kernel_rfl) (by kernel_rfl)))) sS8 ?_
  refine Wk.dV 7 4 (.bool false) rfl rfl (fun _ _ => by kernel_rfl) sS8 ?_
  refine Wk.dEnd (by kernel_rfl) (Wk.nxt (wp_ret ?_))
  have kk21 : Wk.Chg [] w W7 := Wk.Chg.step ((Wk.Chg.refl _).more (by simp)) ch7 trivial
  have kk22 := Wk.Chg.step kk21 ch8 trivial
  have kk23 := Wk.Chg.step kk22 ch9 trivial
  have kk24 := Wk.Chg.step kk23 ch10 trivial
  have kk25 := Wk.Chg.step kk24 ch12 trivial
  refine Wk.ret (.bool false) rfl (by kernel_rfl) ?_
  exact ⟨by rw [decide_eq_false hls], kk25⟩
 refine Wk.oVal (some 10) (.string (Mur.str RB6)) rfl rfl (by kernel_rfl) (Mur.run_str 38 9 (.tmp 9) 5 rfl Tryd.underlying38 Tryd.underlying5 Tryd.underlying9 (some ⟨qr6, 0, none⟩) 104 cr6 RB6 (by kernel_rfl) hbr6) ?_
 refine ⟨sS8, ?_⟩
 refine Wk.dOp 2 (by kernel_rfl) ?_
 refine Wk.oVal (some 7) (.string (Mur.str RB4)) rfl rfl (by kernel_rfl) (Mur.run_str 38 9 (.tmp 6) 5 rfl Tryd.underlying38 Tryd.underlying5 Tryd.underlying9 (some ⟨qr4, 0, none⟩) 104 cr4 RB4 (by kernel_rfl) (Mur.byt_chg hbr4 ch12 (fun g off e hl => trivial))) ?_
 refine ⟨sS8, ?_⟩
 refine Wk.dV 6 11 (.bool false) rfl rfl (fun w' hw' => (Wk.boolF (b := decide (Go.Lib.compareBytes RB4 RB6 < 0)) (decide_eq_false (by rw [hRB4.out, hRB6.out]; exact hls)) (Mur.strlss 9 9 (.tmp 7) (.tmp 10) rfl RB4 RB6 (by kernel_rfl) (by kernel_rfl)))) sS8 ?_
 refine Wk.dV 7 4 (.bool false) rfl rfl (fun _ _ => by kernel_rfl) sS8 ?_
 refine Wk.dEnd (by kernel_rfl) (Wk.nxt (wp_ret ?_))
 have kk26 : Wk.Chg [] w W7 := Wk.Chg.step ((Wk.Chg.refl _).more (by simp)) ch7 trivial
 have kk27 := Wk.Chg.step kk26 ch8 trivial
 have kk28 := Wk.Chg.step kk27 ch9 trivial
 have kk29 := Wk.Chg.step kk28 ch10 trivial
 have kk30 := Wk.Chg.step kk29 ch12 trivial
 refine Wk.ret (.bool false) rfl (by kernel_rfl) ?_
 exact ⟨by rw [decide_eq_false hls], kk30⟩
end Go.Proofs.YtfhneademopciaaDoor
namespace Mur
open Go Go.RowKit Wk
section
variable {P : Program}
end
theorem rowL_take_succ {L : List Att} {i : Nat} {x : Att} (hx : L[i]? = some x) : rowL (L.take (i + 1)) = rowL (L.take i) ++ x.raw := by
  obtain ⟨h, rfl⟩ := List.getElem?_eq_some_iff.1 hx
  rw [List.take_succ_eq_append_getElem h, rowL_snoc]
theorem hk_left (hc kc : Array Value) : ((hc ++ kc).toList.drop 0).take hc.toList.length = hc.toList := by simp
theorem hk_right {hc kc : Array Value} (h : hc.size = 8) : ((hc ++ kc).toList.drop 8).take kc.toList.length = kc.toList := by
  rw [Array.toList_append, List.drop_left' (by simpa using h)]
  exact List.take_of_length_le (Nat.le_refl _)
theorem fill_hash {hc kc : Array Value} (h : hc.size = 8) (k : kc.size = 64) : Instr.fill (fun i => #[(0, 8), (8, 64)][i]?) (List.replicate 72 (Value.int .u32 0)).toArray [(0, .agg hc), (1, .agg kc)] = some (hc ++ kc) := by
  obtain ⟨H⟩ := hc
  obtain ⟨K⟩ := kc
  have h' : H.length = 8 := h
  have k' : K.length = 64 := k
  have e1 : splice (List.replicate 72 (Value.int .u32 0)) 0 H = H ++ List.replicate 64 (Value.int .u32 0) := splice_mid (A := []) (B := List.replicate 8 (Value.int .u32 0)) (C := List.replicate 64 (Value.int .u32 0)) (vs := H) rfl (by rw [h']; rfl)
  have e2 : splice (H ++ List.replicate 64 (Value.int .u32 0)) 8 K = H ++ K := by
    have := splice_mid (A := H) (B := List.replicate 64 (Value.int .u32 0)) (C := []) (vs := K) (off := 8) h' (by rw [k']; rfl)
    simpa using this
  refine fill_part (off := 0) (size := 8) (vs := H) rfl rfl h' (by simp) ?_
  rw [e1]
  refine fill_part (off := 8) (size := 64) (vs := K) rfl rfl k' (by rw [List.length_append, h']; simp) ?_
  rw [e2]
  show some ((H ++ K).toArray) = some (H.toArray ++ K.toArray)
  rw [← List.toArray_appendList] <;> simp
end Mur
namespace Go.Proofs.YtfhneademopciaaDoor
open Go.RowKit Wk
theorem built_hash {hc kc : Array Value} (h : hc.size = 8) (k : kc.size = 64) : Program.built Tryd.prog 97 [(0, .agg hc), (1, .agg kc)] = some (hc ++ kc) :=
  (show Program.built Tryd.prog 97 [(0, .agg hc), (1, .agg kc)] = Instr.fill (fun i => #[(0, 8), (8, 64)][i]?) (List.replicate 72 (Value.int .u32 0)).toArray [(0, .agg hc), (1, .agg kc)] from by kernel_rfl).trans (Mur.fill_hash h k)
end Go.Proofs.YtfhneademopciaaDoor
namespace Go.Proofs.YtfhneademopciaaDoor
open Go.RowKit
open Mur (b8s Byt Own8 Seg Segs flat cutA attC Att SlA OwnA rowA)
set_option maxRecDepth 100000
set_option maxHeartbeats 4000000
def Row20_F1 (b : Array Value) (u0 : Value) (u3 : Value) (u4 : Value) : Act := ⟨#[u0, b.getD 1 undef, b.getD 2 undef, u3, u4, b.getD 5 undef, b.getD 6 undef, b.getD 7 undef, b.getD 8 undef, b.getD 9 undef, b.getD 10 undef, b.getD 11 undef, b.getD 12 undef, b.getD 13 undef, b.getD 14 undef, b.getD 15 undef, b.getD 16 undef, b.getD 17 undef, b.getD 18 undef, b.getD 19 undef], []⟩
theorem Row_any (A : Option Addr) (n c : Nat) (L : List Att) (w : World) (hA_ : SlA w A n L) (hn : n ≤ 300) : Calls Tryd.prog 21 #[.slice A n c] w fun e w' => ∃ A1 n1 c1, e = .returned (.slice A1 n1 c1) ∧ Own8 w' w.heap.size 5 A1 n1 c1 (Mur.rowL L) ∧ Wk.Chg [] w w' := by
 have hLl0 := hA_.len
 refine calls_of_wp Tryd.func21 rfl ?_
 refine wp_seq (Wk.reg ?_)
 refine Wk.rP 0 2 (.slice none 0 0) rfl rfl ?_
 refine Wk.rEnd 1 rfl (Wk.nxt (wp_seq (Wk.reg ?_)))
 refine Wk.rEx 0 (some 5) _ rfl rfl (by kernel_rfl) (Wk.new_ex (.slice (some ⟨w.heap.size, 0, none⟩) 1 1) #[.int .u8 32] 5 (by kernel_rfl)) ?_
 rintro _ W1 ⟨rfl, hb1, ch1, sz1⟩
 have zz1 := ch1.size
 refine Wk.rP 1 3 (.slice (some ⟨w.heap.size, 0, none⟩) 1 1) rfl rfl ?_
 refine Wk.rEnd 2 rfl (Wk.nxt (wp_seq (wp_seq (Wk.reg ?_))))
 refine Wk.rP 0 4 (.int .i64 0) rfl rfl ?_
 refine Wk.rEnd 1 rfl (Wk.nxt (wp_block ?_))
 have hOw3 : Own8 W1 w.heap.size 5 (some ⟨w.heap.size, 0, none⟩) 1 1 [32] := Mur.own8_lit hb1 (Nat.le_refl _) rfl (by omega)
 refine Wk.loop (fun m_ a wr => ∃ (i : Nat) (A1 : Option Addr) (N : Nat) (c1 : Nat), m_ = n - i ∧ a = Row20_F1 a.tmps (.slice A n c) (.slice A1 N c1) (.int .i64 ((i : Nat) : Int)) ∧ i ≤ n ∧ Own8 wr w.heap.size 5 A1 N c1 (Mur.rowL (L.take i)) ∧ Wk.Chg [] w wr) (n - 0) ?_ ?_
 ·have kk1 : Wk.Chg [] w W1 := Wk.Chg.step ((Wk.Chg.refl _).more (by simp)) ch1 trivial
  refine ⟨0, some ⟨w.heap.size, 0, none⟩, 1, 1, rfl, by kernel_rfl, (by omega), (by rw [List.take_zero]; exact hOw3), kk1⟩
 rintro mm1 aa1 W2 ⟨i, A1, N, c1, hmm1, hF1, hi, hO, HB⟩
 generalize aa1.tmps = bb1 at hF1
 subst hF1
 have hzB := HB.size
 have hLl := hA_.len
 have hON := hO.byt.1
 rw [Mur.rowL_length, List.length_take] at hON
 have hOn := hO.nc
 have hOm := hO.cm
 by_cases hlt : i < n
 ·obtain ⟨g_x, o_x, rfl, _⟩ := hA_.ex (by omega)
  obtain ⟨x, hx⟩ : ∃ x, L[i]? = some x := ⟨_, List.getElem?_eq_getElem (by have := hA_.len; omega)⟩
  refine wp_seq (wp_seq (Wk.reg ?_))
  refine Wk.rP 0 6 (.int .i64 ((i : Nat) : Int)) rfl rfl ?_
  refine Wk.rP 1 7 (.slice (some ⟨g_x, o_x, none⟩) n c) rfl rfl ?_
  refine Wk.rP 2 8 (.int .i64 ((n : Nat) : Int)) rfl rfl ?_
  refine Wk.rQ 3 9 (.bool true) rfl rfl (Wk.boolT (b := decide (((i : Nat) : Int) < ((n : Nat) : Int))) (decide_eq_true (by omega)) (by kernel_rfl)) ?_
  refine Wk.rEnd 4 rfl (Wk.nxt (wp_cond_true (by kernel_rfl) (wp_skip (Wk.nxt (wp_seq (wp_block (Wk.reg ?_)))))))
  refine Wk.rP 0 12 (.slice A1 N c1) rfl rfl ?_
  refine Wk.rP 1 13 (.slice (some ⟨g_x, o_x, none⟩) n c) rfl rfl ?_
  refine Wk.rP 2 14 (.int .i64 ((i : Nat) : Int)) rfl rfl ?_
  refine Wk.rQ 3 15 (.pointer (some ⟨g_x, o_x + i * 97, none⟩)) rfl rfl (Wk.index_sl 22 32 (.tmp 13) (.tmp 14) rfl Tryd.underlying22 97 (by kernel_rfl) g_x o_x n c i .i64 (by kernel_rfl) (by kernel_rfl) (by omega)) ?_
  refine Wk.rQ 4 16 (.agg ((Mur.attC x.k x.r x.n x.t).toArray)) rfl rfl (Wk.loadR 32 (.tmp 15) rfl _ Tryd.underlying32 rfl g_x (o_x + i * 97) (by kernel_rfl) (Mur.attC x.k x.r x.n x.t) (by rw [Mur.attC_length x.hk x.hr x.ht]; kernel_rfl) ((Mur.SlA.chg hA_ HB (fun g off e hl => trivial)).elem hx)) ?_
  refine Wk.rC 5 17 48 [.tmp 16] #[32] [.agg ((Mur.attC x.k x.r x.n x.t).toArray)] rfl rfl rfl ?_
  refine (Rbytes_any x.k x.r x.t x.n x.hk x.hr x.ht W2).mono ?_
  rintro _ W3 ⟨qr1, cr1, RB1, hRB1, rfl, hbr1, hq1, hq2, ch2⟩
  have zz2 := ch2.size
  have hBt1 : ∀ g off, (some ⟨qr1, 0, none⟩ : Option Addr) = some ⟨g, off, none⟩ → W2.heap.size ≤ g ∧ g < W3.heap.size := fun g off e => by cases e; exact hq1
  refine ⟨_, rfl, ?_⟩
  have ow1 := Mur.own8 (Wk.own_chg hO.own ch2 (fun q e _ _ => trivial))
  refine Wk.rEx 6 (some 18) _ rfl rfl (by kernel_rfl) (Mur.append8 (.tmp 12) (.tmp 17) 38 5 rfl Tryd.underlying38 (by kernel_rfl) w.heap.size A1 N c1 (Mur.rowL (L.take i)) (some ⟨qr1, 0, none⟩) 104 cr1 RB1 (by kernel_rfl) (by kernel_rfl) ow1.own hbr1 (fun h => by cases h) (by omega) (by omega) (N + 104) (by omega) ((Mur.rowL (L.take i)) ++ RB1) rfl) ?_
  rintro _ W4 ⟨AA1, nn1, rfl, ow2, ch3, ha1⟩
  have zz3 := ch3.size
  have hq3 := ow2.nc
  have hq4 := ow2.cm
  refine Wk.rP 7 3 (.slice AA1 (N + 104) nn1) rfl rfl ?_
  refine Wk.rEnd 8 rfl (Wk.inN (Wk.nxt (Wk.reg ?_)))
  refine Wk.rP 0 10 (.int .i64 ((i : Nat) : Int)) rfl rfl ?_
  refine Wk.rQ 1 11 (.int .i64 ((i + 1 : Nat) : Int)) rfl rfl (Wk.int64 (n := ((i : Nat) : Int) + 1) (z := ((i + 1 : Nat) : Int)) (by omega) (by omega) (by omega) (by kernel_rfl)) ?_
  refine Wk.rP 2 4 (.int .i64 ((i + 1 : Nat) : Int)) rfl rfl ?_
  refine Wk.rEnd 3 rfl (Wk.nxt ?_)
  have kk2 := Wk.Chg.step HB ch2 trivial
  have kk3 := Wk.Chg.step kk2 ch3 (Wk.newOr_blk (fun g hg => by have := hO.lt g hg; omega))
  refine ⟨_, ?_, i + 1, AA1, N + 104, nn1, rfl, by kernel_rfl, (by omega), (by rw [Mur.rowL_take_succ hx, show x.raw = RB1 from hRB1.out.symm]; exact ow2), kk3⟩
  omega
 rw [List.take_of_length_le (show L.length ≤ i by omega)] at hO
 refine wp_seq (wp_seq (Wk.reg ?_))
 refine Wk.rP 0 6 (.int .i64 ((i : Nat) : Int)) rfl rfl ?_
 refine Wk.rP 1 7 (.slice A n c) rfl rfl ?_
 refine Wk.rP 2 8 (.int .i64 ((n : Nat) : Int)) rfl rfl ?_
 refine Wk.rQ 3 9 (.bool false) rfl rfl (Wk.boolF (b := decide (((i : Nat) : Int) < ((n : Nat) : Int))) (decide_eq_false (by omega)) (by kernel_rfl)) ?_
 refine Wk.rEnd 4 rfl (Wk.nxt (wp_cond_false (by kernel_rfl) (wp_exit (Wk.thX (Wk.thX (Wk.inX (Wk.nxt (wp_seq (Wk.reg ?_)))))))))
 refine Wk.rP 0 19 (.slice A1 N c1) rfl rfl ?_
 refine Wk.rP 1 2 (.slice A1 N c1) rfl rfl ?_
 refine Wk.rEnd 2 rfl (Wk.nxt (wp_ret ?_))
 refine Wk.ret (.slice A1 N c1) rfl (by kernel_rfl) ?_
 exact ⟨_, _, _, rfl, hO, HB⟩
theorem Hnew_any (w : World) : Calls Tryd.prog 20 #[] w fun e w' => ∃ q hc kc, Hid (hc = stCells Mur.H0) ∧ Hid (kc = Mur.u32s Mur.K) ∧ e = .returned (.pointer (some ⟨q, 0, none⟩)) ∧ w'.heap[q]? = some (.cells (hc ++ kc) 97 (0, 0)) ∧ (w.heap.size ≤ q ∧ q < w'.heap.size) ∧ Wk.Chg [] w w' := by
 refine calls_of_wp Tryd.func20 rfl ?_
 refine wp_seq (Wk.reg ?_)
 refine Wk.rP 0 0 (.pointer none) rfl rfl ?_
 refine Wk.rEnd 1 rfl (Wk.nxt (wp_seq (Wk.reg ?_)))
 refine Wk.rC 0 4 47 [] #[] [] rfl rfl rfl ?_
 refine (words_var w).mono ?_
 rintro _ W1 ⟨hc, kc, Hh, Hk, rfl, hB1⟩
 have ch1 := Wk.Chg.ofBelow hB1
 have zz1 := ch1.size
 have hcs := hc_size Hh.out
 have kcs := kc_size Hk.out
 refine ⟨_, rfl, ?_⟩
 refine Wk.rP 1 3 (.tuple #[.agg hc, .agg kc]) rfl rfl ?_
 refine Wk.rP 2 5 (.agg hc) rfl rfl ?_
 refine Wk.rP 3 6 (.agg kc) rfl rfl ?_
 refine Wk.rEx 4 (some 1) _ rfl rfl (by kernel_rfl) (Wk.new_ex (.pointer (some ⟨W1.heap.size, 0, none⟩)) #[.int .u32 0, .int .u32 0, .int .u32 0, .int .u32 0, .int .u32 0, .int .u32 0, .int .u32 0, .int .u32 0] 92 (by kernel_rfl)) ?_
 rintro _ W2 ⟨rfl, hb1, ch2, sz1⟩
 have zz2 := ch2.size
 refine Wk.rEx 5 (some 2) _ rfl rfl (by kernel_rfl) (Wk.new_ex (.pointer (some ⟨W2.heap.size, 0, none⟩)) #[.int .u32 0, .int .u32 0, .int .u32 0, .int .u32 0, .int .u32 0, .int .u32 0, .int .u32 0, .int .u32 0, .int .u32 0, .int .u32 0, .int .u32 0, .int .u32 0, .int .u32 0, .int .u32 0, .int .u32 0, .int .u32 0, .int .u32 0, .int .u32 0, .int .u32 0, .int .u32 0, .int .u32 0, .int .u32 0, .int .u32 0, .int .u32 0, .int .u32 0, .int .u32 0, .int .u32 0, .int .u32 0, .int .u32 0, .int .u32 0, .int .u32 0, .int .u32 0, .int .u32 0, .int .u32 0, .int .u32 0, .int .u32 0, .int .u32 0, .int .u32 0, .int .u32 0, .int .u32 0, .int .u32 0, .int .u32 0, .int .u32 0, .int .u32 0, .int .u32 0, .int .u32 0, .int .u32 0, .int .u32 0, .int .u32 0, .int .u32 0, .int .u32 0, .int .u32 0, .int .u32 0, .int .u32 0, .int .u32 0, .int .u32 0, .int .u32 0, .int .u32 0, .int .u32 0, .int .u32 0, .int .u32 0, .int .u32 0, .int .u32 0, .int .u32 0] 93 (by kernel_rfl)) ?_
 rintro _ W3 ⟨rfl, hb2, ch3, sz2⟩
 have zz3 := ch3.size
 refine Wk.rExS 6 none _ rfl rfl (by kernel_rfl) (Mur.storeArr 92 (.tmp 1) (.tmp 5) rfl W1.heap.size (by kernel_rfl) hc 8 hcs.1 hcs.2 (by kernel_rfl) (by kernel_rfl) 92 #[.int .u32 0, .int .u32 0, .int .u32 0, .int .u32 0, .int .u32 0, .int .u32 0, .int .u32 0, .int .u32 0] (Wk.Chg.hp ch3 hb1 trivial) (by kernel_rfl)) ?_
 rintro W4 ⟨hb3, ch4⟩
 have zz4 := ch4.size
 refine Wk.rExS 7 none _ rfl rfl (by kernel_rfl) (Mur.storeArr 93 (.tmp 2) (.tmp 6) rfl W2.heap.size (by kernel_rfl) kc 64 kcs.1 kcs.2 (by kernel_rfl) (by kernel_rfl) 93 #[.int .u32 0, .int .u32 0, .int .u32 0, .int .u32 0, .int .u32 0, .int .u32 0, .int .u32 0, .int .u32 0, .int .u32 0, .int .u32 0, .int .u32 0, .int .u32 0, .int .u32 0, .int .u32 0, .int .u32 0, .int .u32 0, .int .u32 0, .int .u32 0, .int .u32 0, .int .u32 0, .int .u32 0, .int .u32 0, .int .u32 0, .int .u32 0, .int .u32 0, .int .u32 0, .int .u32 0, .int .u32 0, .int .u32 0, .int .u32 0, .int .u32 0, .int .u32 0, .int .u32 0, .int .u32 0, .int .u32 0, .int .u32 0, .int .u32 0, .int .u32 0, .int .u32 0, .int .u32 0, .int .u32 0, .int .u32 0, .int .u32 0, .int .u32 0, .int .u32 0, .int .u32 0, .int .u32 0, .int .u32 0, .int .u32 0, .int .u32 0, .int .u32 0, .int .u32 0, .int .u32 0, .int .u32 0, .int .u32 0, .int .u32 0, .int .u32 0, .int .u32 0, .int .u32 0, .int .u32 0, .int .u32 0, .int .u32 0, .int .u32 0, .int .u32 0] (Wk.Chg.hp ch4 hb2 ⟨by omega, trivial⟩) (by kernel_rfl)) ?_
 rintro W5 ⟨hb4, ch5⟩
 have zz5 := ch5.size
 refine Wk.rEnd 8 rfl (Wk.nxt (wp_seq (Wk.reg ?_)))
 refine Wk.rQ 0 7 (.agg hc) rfl rfl (Mur.loadArr 92 (.tmp 1) rfl _ Tryd.underlying92 rfl W1.heap.size (by kernel_rfl) hc 8 hcs.1 (by kernel_rfl) 92 (0, 0) (Wk.Chg.hp ch5 hb3 ⟨by omega, trivial⟩)) ?_
 refine Wk.rQ 1 8 (.agg kc) rfl rfl (Mur.loadArr 93 (.tmp 2) rfl _ Tryd.underlying93 rfl W2.heap.size (by kernel_rfl) kc 64 kcs.1 (by kernel_rfl) 93 (0, 0) hb4) ?_
 refine Wk.rQ 2 9 (.agg (hc ++ kc)) rfl rfl (Mur.run_built 97 _ rfl [(0, .agg hc), (1, .agg kc)] (by kernel_rfl) _ (built_hash hcs.1 kcs.1)) ?_
 refine Wk.rEx 3 (some 10) _ rfl rfl (by kernel_rfl) (Wk.new_ex (.pointer (some ⟨W5.heap.size, 0, none⟩)) (hc ++ kc) 97 (by kernel_rfl)) ?_
 rintro _ W6 ⟨rfl, hb5, ch6, sz3⟩
 have zz6 := ch6.size
 refine Wk.rP 4 0 (.pointer (some ⟨W5.heap.size, 0, none⟩)) rfl rfl ?_
 refine Wk.rEnd 5 rfl (Wk.nxt (wp_ret ?_))
 have kk1 : Wk.Chg [] w W1 := Wk.Chg.step ((Wk.Chg.refl _).more (by simp)) ch1 trivial
 have kk2 := Wk.Chg.step kk1 ch2 trivial
 have kk3 := Wk.Chg.step kk2 ch3 trivial
 have kk4 := Wk.Chg.step kk3 ch4 ⟨.inr (by omega), trivial⟩
 have kk5 := Wk.Chg.step kk4 ch5 ⟨.inr (by omega), trivial⟩
 have kk6 := Wk.Chg.step kk5 ch6 trivial
 refine Wk.ret (.pointer (some ⟨W5.heap.size, 0, none⟩)) rfl (by kernel_rfl) ?_
 exact ⟨_, _, _, Hh, Hk, rfl, hb5, ⟨by omega, (Array.getElem?_eq_some_iff.1 hb5).1⟩, kk6⟩
theorem Hsum_any (hc kc : Array Value) (Hh : Hid (hc = stCells Mur.H0)) (Hk : Hid (kc = Mur.u32s Mur.K)) (g : Nat) (l : List UInt8) (A : Option Addr) (n c : Nat) (w : World) (hp : w.heap[g]? = some (.cells (hc ++ kc) 97 (0, 0))) (hb : Byt w A n l) (hnc : n ≤ c) (hnil : A = none → c = 0) (hn : n ≤ 140737488351232) : Calls Tryd.prog 22 #[.pointer (some ⟨g, 0, none⟩), .slice A n c] w fun e w' => ∃ d, Hid (d = Mur.sha l) ∧ d.length = 32 ∧ e = .returned (.agg (b8s d).toArray) ∧ Wk.Chg [] w w' := by
 have hcs := hc_size Hh.out
 have kcs := kc_size Hk.out
 have hg_ := (Array.getElem?_eq_some_iff.1 hp).1
 refine calls_of_wp Tryd.func22 rfl ?_
 refine wp_seq (Wk.reg ?_)
 refine Wk.rEx 0 (some 4) _ rfl rfl (by kernel_rfl) (Wk.new_ex (.pointer (some ⟨w.heap.size, 0, none⟩)) #[.int .u8 0, .int .u8 0, .int .u8 0, .int .u8 0, .int .u8 0, .int .u8 0, .int .u8 0, .int .u8 0, .int .u8 0, .int .u8 0, .int .u8 0, .int .u8 0, .int .u8 0, .int .u8 0, .int .u8 0, .int .u8 0, .int .u8 0, .int .u8 0, .int .u8 0, .int .u8 0, .int .u8 0, .int .u8 0, .int .u8 0, .int .u8 0, .int .u8 0, .int .u8 0, .int .u8 0, .int .u8 0, .int .u8 0, .int .u8 0, .int .u8 0, .int .u8 0] 30 (by kernel_rfl)) ?_
 rintro _ W1 ⟨rfl, hb1, ch1, sz1⟩
 have zz1 := ch1.size
 refine Wk.rEnd 1 rfl (Wk.nxt (wp_seq ?_))
 refine Wk.dReg ([w.heap.size]) (by kernel_rfl) ?_
 intro W2 ch2 sz2
 have zz2 := ch2.size
 have sS1 : Wk.Chg ([w.heap.size]) W2 W2 := (Wk.Chg.refl _).more (by simp)
 refine Wk.dV 0 5 (.pointer (some ⟨g, 0, none⟩)) rfl rfl (fun _ _ => by kernel_rfl) sS1 ?_
 refine Wk.dV 1 6 (.pointer (some ⟨g, 0, none⟩)) rfl rfl (fun _ _ => by kernel_rfl) sS1 ?_
 refine Wk.dV 2 7 (.pointer (some ⟨g, 0, none⟩)) rfl rfl (fun _ _ => by kernel_rfl) sS1 ?_
 have kk1 : Wk.Chg [] w W1 := Wk.Chg.step ((Wk.Chg.refl _).more (by simp)) ch1 trivial
 have kk2 := Wk.Chg.step kk1 ch2 trivial
 refine Wk.dV 3 8 (.agg hc) rfl rfl (fun w' hw' => (Wk.loadR 92 (.tmp 7) rfl _ Tryd.underlying92 rfl g 0 (by kernel_rfl) hc.toList (by rw [Array.length_toList, hcs.1]; kernel_rfl) (Wk.range_sub 0 hc.toList (Wk.Chg.hp hw' (Wk.Chg.hp kk2 hp trivial) ⟨by omega, trivial⟩) (Mur.hk_left hc kc)))) sS1 ?_
 refine Wk.dV 4 9 (.pointer (some ⟨g, 0, none⟩)) rfl rfl (fun _ _ => by kernel_rfl) sS1 ?_
 refine Wk.dV 5 10 (.pointer (some ⟨g, 0, none⟩)) rfl rfl (fun _ _ => by kernel_rfl) sS1 ?_
 refine Wk.dV 6 11 (.pointer (some ⟨g, 8, none⟩)) rfl rfl (fun _ _ => by kernel_rfl) sS1 ?_
 refine Wk.dV 7 12 (.agg kc) rfl rfl (fun w' hw' => (Wk.loadR 93 (.tmp 11) rfl _ Tryd.underlying93 rfl g 8 (by kernel_rfl) kc.toList (by rw [Array.length_toList, kcs.1]; kernel_rfl) (Wk.range_sub 8 kc.toList (Wk.Chg.hp hw' (Wk.Chg.hp kk2 hp trivial) ⟨by omega, trivial⟩) (Mur.hk_right hcs.1)))) sS1 ?_
 refine Wk.dV 8 13 (.slice A n c) rfl rfl (fun _ _ => by kernel_rfl) sS1 ?_
 refine Wk.dOp 9 (by kernel_rfl) ?_
 refine Wk.oCall (some 14) 49 [.tmp 8, .tmp 12, .tmp 13] #[92, 93, 38] [.agg hc, .agg kc, .slice A n c] rfl rfl (by kernel_rfl) rfl (by kernel_rfl) (by kernel_rfl) ?_
 refine (Rsum_var hc kc Hh Hk l A n c W2 (Mur.byt_chg hb kk2 (fun g off e hl => trivial)) (by omega) hnil (by omega)).mono ?_
 rintro _ W3 ⟨dd1, hd1, hdl1, rfl, hB1⟩
 have ch3 := Wk.Chg.ofBelow hB1
 have zz3 := ch3.size
 have sS2 := Wk.Chg.step sS1 ch3 trivial
 refine ⟨_, rfl, sS2, ?_⟩
 refine Wk.dOp 10 (by kernel_rfl) ?_
 refine Wk.oExS none _ rfl rfl (by kernel_rfl) (Mur.storeAll 30 (.tmp 4) (.tmp 14) rfl w.heap.size (by kernel_rfl) dd1 32 hdl1 (by kernel_rfl) (by kernel_rfl) 30 #[.int .u8 0, .int .u8 0, .int .u8 0, .int .u8 0, .int .u8 0, .int .u8 0, .int .u8 0, .int .u8 0, .int .u8 0, .int .u8 0, .int .u8 0, .int .u8 0, .int .u8 0, .int .u8 0, .int .u8 0, .int .u8 0, .int .u8 0, .int .u8 0, .int .u8 0, .int .u8 0, .int .u8 0, .int .u8 0, .int .u8 0, .int .u8 0, .int .u8 0, .int .u8 0, .int .u8 0, .int .u8 0, .int .u8 0, .int .u8 0, .int .u8 0, .int .u8 0] (Wk.Chg.hp ch3 (Wk.Chg.hp ch2 hb1 trivial) trivial) rfl) ?_
 rintro W4 ⟨hb2, ch4⟩
 have zz4 := ch4.size
 have sS3 := Wk.Chg.step sS2 ch4 ⟨.inl (by simp), trivial⟩
 refine ⟨sS3, ?_⟩
 refine Wk.dEnd (by kernel_rfl) (Wk.nxt (wp_ret ?_))
 have kk3 := Wk.Chg.step kk2 ch3 trivial
 have kk4 := Wk.Chg.step kk3 ch4 ⟨.inr (by omega), trivial⟩
 refine Wk.ret (.agg (b8s dd1).toArray) rfl (results_cell_row rfl _ _ w.heap.size 30 (b8s dd1).toArray (0, 0) _ (by kernel_rfl) hb2 Tryd.underlying30 rfl (by rw [List.size_toArray, Mur.b8s_length, hdl1]; kernel_rfl)) ?_
 exact ⟨_, hd1, hdl1, rfl, kk4⟩
end Go.Proofs.YtfhneademopciaaDoor
namespace Go.Proofs.YtfhneademopciaaDoor
open Go.RowKit
open Mur (b8s Byt Own8 Seg Segs flat cutA attC Att SlA OwnA rowA)
set_option maxRecDepth 100000
set_option maxHeartbeats 4000000
def Risp_F1 (b : Array Value) (u0 : Value) (u3 : Value) : Act := ⟨#[u0, b.getD 1 undef, b.getD 2 undef, u3, b.getD 4 undef, b.getD 5 undef, b.getD 6 undef, b.getD 7 undef, b.getD 8 undef, b.getD 9 undef, b.getD 10 undef, b.getD 11 undef, b.getD 12 undef, b.getD 13 undef, b.getD 14 undef, b.getD 15 undef, b.getD 16 undef, b.getD 17 undef], []⟩
def Rbel_F1 (b : Array Value) (u0 : Value) (u1 : Value) (u5 : Value) (u6 : Value) : Act := ⟨#[u0, u1, b.getD 2 undef, b.getD 3 undef, b.getD 4 undef, u5, u6, b.getD 7 undef, b.getD 8 undef, b.getD 9 undef, b.getD 10 undef, b.getD 11 undef, b.getD 12 undef, b.getD 13 undef, b.getD 14 undef, b.getD 15 undef, b.getD 16 undef, b.getD 17 undef, b.getD 18 undef, b.getD 19 undef, b.getD 20 undef, b.getD 21 undef, b.getD 22 undef, b.getD 23 undef, b.getD 24 undef, b.getD 25 undef, b.getD 26 undef, b.getD 27 undef, b.getD 28 undef, b.getD 29 undef, b.getD 30 undef, b.getD 31 undef, b.getD 32 undef, b.getD 33 undef, b.getD 34 undef, b.getD 35 undef, b.getD 36 undef, b.getD 37 undef, b.getD 38 undef, b.getD 39 undef, b.getD 40 undef, b.getD 41 undef, b.getD 42 undef, b.getD 43 undef, b.getD 44 undef, b.getD 45 undef, b.getD 46 undef, b.getD 47 undef, b.getD 48 undef, b.getD 49 undef, b.getD 50 undef, b.getD 51 undef, b.getD 52 undef, b.getD 53 undef, b.getD 54 undef, b.getD 55 undef, b.getD 56 undef, b.getD 57 undef, b.getD 58 undef], []⟩
def Rbel_F2 (b : Array Value) (u0 : Value) (u1 : Value) (u5 : Value) (u6 : Value) (u7 : Value) (u8 : Value) : Act := ⟨#[u0, u1, b.getD 2 undef, b.getD 3 undef, b.getD 4 undef, u5, u6, u7, u8, b.getD 9 undef, b.getD 10 undef, b.getD 11 undef, b.getD 12 undef, b.getD 13 undef, b.getD 14 undef, b.getD 15 undef, b.getD 16 undef, b.getD 17 undef, b.getD 18 undef, b.getD 19 undef, b.getD 20 undef, b.getD 21 undef, b.getD 22 undef, b.getD 23 undef, b.getD 24 undef, b.getD 25 undef, b.getD 26 undef, b.getD 27 undef, b.getD 28 undef, b.getD 29 undef, b.getD 30 undef, b.getD 31 undef, b.getD 32 undef, b.getD 33 undef, b.getD 34 undef, b.getD 35 undef, b.getD 36 undef, b.getD 37 undef, b.getD 38 undef, b.getD 39 undef, b.getD 40 undef, b.getD 41 undef, b.getD 42 undef, b.getD 43 undef, b.getD 44 undef, b.getD 45 undef, b.getD 46 undef, b.getD 47 undef, b.getD 48 undef, b.getD 49 undef, b.getD 50 undef, b.getD 51 undef, b.getD 52 undef, b.getD 53 undef, b.getD 54 undef, b.getD 55 undef, b.getD 56 undef, b.getD 57 undef, b.getD 58 undef], []⟩
theorem Risp_any (l : List UInt8) (A : Option Addr) (n c : Nat) (w : World) (hb : Byt w A n l) (hn : n ≤ 9223372036854775807) : Calls Tryd.prog 30 #[.slice A n c] w fun e w' => e = .returned (.bool (Mur.isPre l)) ∧ w = w' := by
 refine calls_of_wp Tryd.func30 rfl ?_
 refine wp_seq (Wk.reg ?_)
 refine Wk.rP 0 2 (.bool false) rfl rfl ?_
 refine Wk.rEnd 1 rfl (Wk.nxt (wp_seq (wp_seq (Wk.reg ?_))))
 refine Wk.rP 0 3 (.int .i64 0) rfl rfl ?_
 refine Wk.rEnd 1 rfl (Wk.nxt (wp_block ?_))
 refine Wk.loop (fun m_ a wr => ∃ (i : Nat), m_ = n - i ∧ a = Risp_F1 a.tmps (.slice A n c) (.int .i64 ((i : Nat) : Int)) ∧ i ≤ n ∧ (∀ j, j < i → (l.getD j 0) ≤ 15) ∧ wr = w) (n - 0) ?_ ?_
 ·refine ⟨0, rfl, by kernel_rfl, Nat.zero_le _, (fun j h => by omega), rfl⟩
 rintro mm1 aa1 W1 ⟨i, hmm1, hF1, hi, hall, hw⟩
 generalize aa1.tmps = bb1 at hF1
 subst hF1
 subst hw
 by_cases hlt : i < n
 ·obtain ⟨q, off, rfl, hcc⟩ := hb.2 (by omega)
  refine wp_seq (wp_seq (Wk.reg ?_))
  refine Wk.rP 0 4 (.int .i64 ((i : Nat) : Int)) rfl rfl ?_
  refine Wk.rP 1 5 (.slice (some ⟨q, off, none⟩) n c) rfl rfl ?_
  refine Wk.rP 2 6 (.int .i64 ((n : Nat) : Int)) rfl rfl ?_
  refine Wk.rQ 3 7 (.bool true) rfl rfl (Wk.boolT (b := decide (((i : Nat) : Int) < ((n : Nat) : Int))) (decide_eq_true (by omega)) (by kernel_rfl)) ?_
  refine Wk.rEnd 4 rfl (Wk.nxt (wp_cond_true (by kernel_rfl) (wp_skip (Wk.nxt (wp_seq (wp_block (wp_seq (Wk.reg ?_))))))))
  refine Wk.rP 0 10 (.slice (some ⟨q, off, none⟩) n c) rfl rfl ?_
  refine Wk.rP 1 11 (.int .i64 ((i : Nat) : Int)) rfl rfl ?_
  refine Wk.rQ 2 12 (.pointer (some ⟨q, off + i * 1, none⟩)) rfl rfl (Wk.index_sl 38 5 (.tmp 10) (.tmp 11) rfl Tryd.underlying38 1 (by kernel_rfl) q off n c i .i64 (by kernel_rfl) (by kernel_rfl) (by omega)) ?_
  refine Wk.rQ 3 13 (.int .u8 (((l.getD i 0).toNat : Nat) : Int)) rfl rfl (Wk.load1 5 (.tmp 12) rfl (by kernel_rfl) ⟨q, off + i * 1, none⟩ (by kernel_rfl) (.int .u8 (((l.getD i 0).toNat : Nat) : Int)) (Mur.byt_cell hb i (by omega))) ?_
  by_cases hx1 : (((l.getD i 0).toNat : Nat) : Int) > (15 : Int)
  ·refine Wk.rQ 4 14 (.bool true) rfl rfl (Wk.boolT (b := decide ((((l.getD i 0).toNat : Nat) : Int) > (15 : Int))) (decide_eq_true (by first | exact hx1 | omega)) (by kernel_rfl)) ?_
   refine Wk.rEnd 5 rfl (Wk.nxt (wp_cond_true (by kernel_rfl) (wp_seq (Wk.reg ?_))))
   refine Wk.rP 0 2 (.bool false) rfl rfl ?_
   refine Wk.rEnd 1 rfl (Wk.nxt (wp_ret (Wk.inR (Wk.thR (Wk.thR (Wk.inR (Wk.thR ?_)))))))
   refine Wk.ret (.bool false) rfl (by kernel_rfl) ?_
   exact ⟨by rw [show Mur.isPre l = false from by unfold Mur.isPre; rw [Mur.some15 hb.1 hlt (UInt8.lt_iff_toNat_lt.2 (show 15 < (l.getD i 0).toNat by omega))]; rfl], rfl⟩
  refine Wk.rQ 4 14 (.bool false) rfl rfl (Wk.boolF (b := decide ((((l.getD i 0).toNat : Nat) : Int) > (15 : Int))) (decide_eq_false (by first | exact hx1 | omega)) (by kernel_rfl)) ?_
  refine Wk.rEnd 5 rfl (Wk.nxt (wp_cond_false (by kernel_rfl) (wp_skip (Wk.inN (Wk.nxt (Wk.reg ?_))))))
  refine Wk.rP 0 8 (.int .i64 ((i : Nat) : Int)) rfl rfl ?_
  refine Wk.rQ 1 9 (.int .i64 ((i + 1 : Nat) : Int)) rfl rfl (Wk.int64 (n := ((i : Nat) : Int) + 1) (z := ((i + 1 : Nat) : Int)) (by omega) (by omega) (by omega) (by kernel_rfl)) ?_
  refine Wk.rP 2 3 (.int .i64 ((i + 1 : Nat) : Int)) rfl rfl ?_
  refine Wk.rEnd 3 rfl (Wk.nxt ?_)
  refine ⟨_, ?_, i + 1, rfl, by kernel_rfl, (by omega), (fun j hj => by rcases Nat.lt_or_ge j i with h1 | h1 <;> first | exact hall j h1 | (obtain rfl : j = i := (by omega); exact UInt8.not_lt.1 (fun q_ => hx1 (by rw [UInt8.lt_iff_toNat_lt] at q_; have h15 : (15 : UInt8).toNat = 15 := rfl; omega)))), rfl⟩
  omega
 refine wp_seq (wp_seq (Wk.reg ?_))
 refine Wk.rP 0 4 (.int .i64 ((i : Nat) : Int)) rfl rfl ?_
 refine Wk.rP 1 5 (.slice A n c) rfl rfl ?_
 refine Wk.rP 2 6 (.int .i64 ((n : Nat) : Int)) rfl rfl ?_
 refine Wk.rQ 3 7 (.bool false) rfl rfl (Wk.boolF (b := decide (((i : Nat) : Int) < ((n : Nat) : Int))) (decide_eq_false (by omega)) (by kernel_rfl)) ?_
 refine Wk.rEnd 4 rfl (Wk.nxt (wp_cond_false (by kernel_rfl) (wp_exit (Wk.thX (Wk.thX (Wk.inX (Wk.nxt (wp_seq (Wk.reg ?_)))))))))
 refine Wk.rP 0 15 (.slice A n c) rfl rfl ?_
 refine Wk.rP 1 16 (.int .i64 ((n : Nat) : Int)) rfl rfl ?_
 by_cases hx2 : ((n : Nat) : Int) ≤ (8 : Int)
 ·refine Wk.rQ 2 17 (.bool true) rfl rfl (Wk.boolT (b := decide (((n : Nat) : Int) ≤ (8 : Int))) (decide_eq_true (by first | exact hx2 | omega)) (by kernel_rfl)) ?_
  refine Wk.rP 3 2 (.bool true) rfl rfl ?_
  refine Wk.rEnd 4 rfl (Wk.nxt (wp_ret ?_))
  refine Wk.ret (.bool true) rfl (by kernel_rfl) ?_
  exact ⟨by rw [show Mur.isPre l = true from by unfold Mur.isPre; rw [Mur.all15 hb.1 (fun j hj => hall j (by omega))]; have := hb.1; simp; omega], rfl⟩
 refine Wk.rQ 2 17 (.bool false) rfl rfl (Wk.boolF (b := decide (((n : Nat) : Int) ≤ (8 : Int))) (decide_eq_false (by first | exact hx2 | omega)) (by kernel_rfl)) ?_
 refine Wk.rP 3 2 (.bool false) rfl rfl ?_
 refine Wk.rEnd 4 rfl (Wk.nxt (wp_ret ?_))
 refine Wk.ret (.bool false) rfl (by kernel_rfl) ?_
 exact ⟨by rw [show Mur.isPre l = false from by unfold Mur.isPre; rw [Mur.all15 hb.1 (fun j hj => hall j (by omega))]; have := hb.1; simp; omega], rfl⟩
theorem Rbelow_any (A : Option Addr) (n c : Nat) (L : List Att) (p : List UInt8) (PA : Option Addr) (pn pc : Nat) (w : World) (hA_ : SlA w A n L) (hb : Byt w PA pn p) (hn : n ≤ 200) (hpn : pn ≤ 9223372036854775807) : Calls Tryd.prog 29 #[.slice A n c, .slice PA pn pc] w fun e w' => ∃ A1 n1 c1, e = .returned (.slice A1 n1 c1) ∧ OwnA w' w.heap.size 32 A1 n1 c1 (Mur.belowL p L) ∧ Wk.Chg [] w w' := by
 have hLl0 := hA_.len
 refine calls_of_wp Tryd.func29 rfl ?_
 refine wp_seq (Wk.reg ?_)
 refine Wk.rP 0 4 (.slice none 0 0) rfl rfl ?_
 refine Wk.rEnd 1 rfl (Wk.nxt (wp_seq (Wk.reg ?_)))
 refine Wk.rP 0 5 (.slice none 0 0) rfl rfl ?_
 refine Wk.rEnd 1 rfl (Wk.nxt (wp_seq (wp_seq (Wk.reg ?_))))
 refine Wk.rP 0 11 (.slice PA pn pc) rfl rfl ?_
 refine Wk.rC 1 12 30 [.tmp 11] #[38] [.slice PA pn pc] rfl rfl rfl ?_
 refine (Risp_any p PA pn pc w hb (by omega)).mono ?_
 cases hpre1 : Mur.isPre p
 ·rintro _ _ ⟨rfl, rfl⟩
  refine ⟨_, rfl, ?_⟩
  refine Wk.rP 2 13 (.bool true) rfl rfl ?_
  refine Wk.rEnd 3 rfl (Wk.nxt (wp_cond_true (by kernel_rfl) (wp_seq (Wk.reg ?_))))
  refine Wk.rP 0 4 (.slice none 0 0) rfl rfl ?_
  refine Wk.rEnd 1 rfl (Wk.nxt (wp_ret (Wk.thR ?_)))
  refine Wk.ret (.slice none 0 0) rfl (by kernel_rfl) ?_
  exact ⟨_, _, _, rfl, by rw [Mur.belowL_no hpre1]; exact Mur.ownA_nil _ _ _, (Wk.Chg.refl _)⟩
 rintro _ _ ⟨rfl, rfl⟩
 refine ⟨_, rfl, ?_⟩
 refine Wk.rP 2 13 (.bool false) rfl rfl ?_
 refine Wk.rEnd 3 rfl (Wk.nxt (wp_cond_false (by kernel_rfl) (wp_skip (Wk.nxt (wp_seq (wp_seq (Wk.reg ?_)))))))
 have hpre1 := hpre1
 refine Wk.rP 0 6 (.int .i64 0) rfl rfl ?_
 refine Wk.rEnd 1 rfl (Wk.nxt (wp_block ?_))
 refine Wk.loop (fun m_ a wr => ∃ (i : Nat) (A1 : Option Addr) (N : Nat) (c1 : Nat), m_ = n - i ∧ a = Rbel_F1 a.tmps (.slice A n c) (.slice PA pn pc) (.slice A1 N c1) (.int .i64 ((i : Nat) : Int)) ∧ i ≤ n ∧ OwnA wr w.heap.size 32 A1 N c1 ((L.take i).filter (fun y_ => Mur.under p y_.k)) ∧ Wk.Chg [] w wr) (n - 0) ?_ ?_
 ·refine ⟨0, none, 0, 0, rfl, by kernel_rfl, (by omega), (by exact Mur.ownA_nil _ _ _), (Wk.Chg.refl _)⟩
 rintro mm1 aa1 W1 ⟨i, A1, N, c1, hmm1, hF1, hi, hO, HB⟩
 generalize aa1.tmps = bb1 at hF1
 subst hF1
 have hzB := HB.size
 have hLl := hA_.len
 have hOl := hO.sl.len
 have hOn := hO.nc
 have hfl_ := List.length_filter_le (fun y_ : Att => Mur.under p y_.k) (L.take i)
 rw [List.length_take] at hfl_
 by_cases hlt : i < n
 ·obtain ⟨g_x, o_x, rfl, _⟩ := hA_.ex (by omega)
  obtain ⟨x, hx⟩ : ∃ x, L[i]? = some x := ⟨_, List.getElem?_eq_getElem (by have := hA_.len; omega)⟩
  refine wp_seq (wp_seq (Wk.reg ?_))
  refine Wk.rP 0 14 (.int .i64 ((i : Nat) : Int)) rfl rfl ?_
  refine Wk.rP 1 15 (.slice (some ⟨g_x, o_x, none⟩) n c) rfl rfl ?_
  refine Wk.rP 2 16 (.int .i64 ((n : Nat) : Int)) rfl rfl ?_
  refine Wk.rQ 3 17 (.bool true) rfl rfl (Wk.boolT (b := decide (((i : Nat) : Int) < ((n : Nat) : Int))) (decide_eq_true (by omega)) (by kernel_rfl)) ?_
  refine Wk.rEnd 4 rfl (Wk.nxt (wp_cond_true (by kernel_rfl) (wp_skip (Wk.nxt (wp_seq (wp_block (wp_seq (Wk.reg ?_))))))))
  refine Wk.rP 0 7 (.bool true) rfl rfl ?_
  refine Wk.rEnd 1 rfl (Wk.nxt (wp_seq (wp_seq (Wk.reg ?_))))
  refine Wk.rP 0 8 (.int .i64 0) rfl rfl ?_
  refine Wk.rEnd 1 rfl (Wk.nxt (wp_block ?_))
  refine Wk.loop (fun m_ a wr => ∃ (j : Nat) (b : Bool), m_ = pn - j ∧ a = Rbel_F2 a.tmps (.slice (some ⟨g_x, o_x, none⟩) n c) (.slice PA pn pc) (.slice A1 N c1) (.int .i64 ((i : Nat) : Int)) (.bool b) (.int .i64 ((j : Nat) : Int)) ∧ j ≤ pn ∧ (b = true ↔ ∀ i_, i_ < j → i_ < pn → Mur.nib x.k i_ = p.getD i_ 0) ∧ wr = W1) (pn - 0) ?_ ?_
  ·refine ⟨0, true, rfl, by kernel_rfl, (by omega), (by simp), rfl⟩
  rintro mm2 aa2 W2 ⟨j, b, hmm2, hF2, hj, hbb, hwJ⟩
  generalize aa2.tmps = bb2 at hF2
  subst hF2
  subst hwJ
  have hpl_ := hb.1
  have hp8 := Mur.pre_len hpre1
  by_cases hlj : j < pn
  ·obtain ⟨q2, off2, hA2, _⟩ := hb.2 (by omega)
   subst hA2
   cases b
   ·refine wp_seq (wp_seq (Wk.reg ?_))
    refine Wk.rP 0 20 (.int .i64 ((j : Nat) : Int)) rfl rfl ?_
    refine Wk.rP 1 21 (.slice (some ⟨q2, off2, none⟩) pn pc) rfl rfl ?_
    refine Wk.rP 2 22 (.int .i64 ((pn : Nat) : Int)) rfl rfl ?_
    refine Wk.rQ 3 23 (.bool true) rfl rfl (Wk.boolT (b := decide (((j : Nat) : Int) < ((pn : Nat) : Int))) (decide_eq_true (by omega)) (by kernel_rfl)) ?_
    refine Wk.rEnd 4 rfl (Wk.nxt (wp_cond_true (by kernel_rfl) (wp_skip (Wk.nxt (wp_seq (wp_block (wp_seq (Wk.reg ?_))))))))
    refine Wk.rP 0 26 (.slice (some ⟨g_x, o_x, none⟩) n c) rfl rfl ?_
    refine Wk.rP 1 27 (.int .i64 ((i : Nat) : Int)) rfl rfl ?_
    refine Wk.rP 2 28 (.int .i64 ((j : Nat) : Int)) rfl rfl ?_
    refine Wk.rQ 3 29 (.int .i64 ((j / 2 : Nat) : Int)) rfl rfl (Mur.quo_nat 3 3 (.tmp 28) (.const (.int .i64 2)) rfl j 2 (by kernel_rfl) (by kernel_rfl) (by omega) (by omega)) ?_
    refine Wk.rQ 4 30 (.pointer (some ⟨g_x, o_x + i * 97, none⟩)) rfl rfl (Wk.index_sl 50 32 (.tmp 26) (.tmp 27) rfl Tryd.underlying50 97 (by kernel_rfl) g_x o_x n c i .i64 (by kernel_rfl) (by kernel_rfl) (by omega)) ?_
    refine Wk.rP 5 31 (.pointer (some ⟨g_x, o_x + i * 97, none⟩)) rfl rfl ?_
    refine Wk.rQ 6 32 (.pointer (some ⟨g_x, o_x + i * 97 + (j / 2) * 1, none⟩)) rfl rfl (Wk.index_arr 30 5 (.tmp 31) (.tmp 29) rfl 32 Tryd.underlying30 1 (by kernel_rfl) g_x (o_x + i * 97) (j / 2) .i64 (by kernel_rfl) (by kernel_rfl) (by omega)) ?_
    refine Wk.rQ 7 33 (.int .u8 (((x.k.getD (j / 2) 0).toNat : Nat) : Int)) rfl rfl (Wk.load1 5 (.tmp 32) rfl (by kernel_rfl) ⟨g_x, o_x + i * 97 + (j / 2) * 1, none⟩ (by kernel_rfl) (.int .u8 (((x.k.getD (j / 2) 0).toNat : Nat) : Int)) (Mur.SlA.kcell (Mur.SlA.chg hA_ HB (fun g off e hl => trivial)) hx (j := j / 2) (by omega))) ?_
    refine Wk.rP 8 9 (.int .u8 (((x.k.getD (j / 2) 0).toNat : Nat) : Int)) rfl rfl ?_
    refine Wk.rEnd 9 rfl (Wk.nxt (wp_seq (Wk.reg ?_)))
    refine Wk.rP 0 34 (.int .u8 (((x.k.getD (j / 2) 0).toNat : Nat) : Int)) rfl rfl ?_
    refine Wk.rQ 1 35 (.int .u8 (((x.k.getD (j / 2) 0 >>> 4).toNat : Nat) : Int)) rfl rfl (Mur.quo8_16 5 5 (.tmp 34) (.const (.int .u8 16)) rfl (x.k.getD (j / 2) 0) (by kernel_rfl) (by kernel_rfl)) ?_
    refine Wk.rP 2 10 (.int .u8 (((x.k.getD (j / 2) 0 >>> 4).toNat : Nat) : Int)) rfl rfl ?_
    refine Wk.rEnd 3 rfl (Wk.nxt (wp_seq (wp_seq (Wk.reg ?_))))
    refine Wk.rP 0 36 (.int .i64 ((j : Nat) : Int)) rfl rfl ?_
    refine Wk.rQ 1 37 (.int .i64 ((j % 2 : Nat) : Int)) rfl rfl (Wk.rem_nat 3 3 (.tmp 36) (.const (.int .i64 2)) rfl j 2 (by kernel_rfl) (by kernel_rfl) (by omega)) ?_
    by_cases hx1 : ((j % 2 : Nat) : Int) = (1 : Int)
    ·refine Wk.rQ 2 38 (.bool true) rfl rfl (Wk.boolT (b := (((j % 2 : Nat) : Int) == (1 : Int))) (beq_iff_eq.2 (by first | exact hx1 | omega)) (by kernel_rfl)) ?_
     refine Wk.rEnd 3 rfl (Wk.nxt (wp_cond_true (by kernel_rfl) (Wk.reg ?_)))
     refine Wk.rP 0 39 (.int .u8 (((x.k.getD (j / 2) 0).toNat : Nat) : Int)) rfl rfl ?_
     refine Wk.rQ 1 40 (.int .u8 (((x.k.getD (j / 2) 0 &&& 15).toNat : Nat) : Int)) rfl rfl (Mur.rem8_16 5 5 (.tmp 39) (.const (.int .u8 16)) rfl (x.k.getD (j / 2) 0) (by kernel_rfl) (by kernel_rfl)) ?_
     refine Wk.rP 2 10 (.int .u8 (((x.k.getD (j / 2) 0 &&& 15).toNat : Nat) : Int)) rfl rfl ?_
     refine Wk.rEnd 3 rfl (Wk.nxt (Wk.reg ?_))
     refine Wk.rP 0 41 (.bool false) rfl rfl ?_
     refine Wk.rP 1 42 (.bool false) rfl rfl ?_
     refine Wk.rPass 2 (some 43) rfl rfl (by kernel_rfl) ?_
     refine Wk.rPass 3 (some 44) rfl rfl (by kernel_rfl) ?_
     refine Wk.rPass 4 (some 45) rfl rfl (by kernel_rfl) ?_
     refine Wk.rPass 5 (some 46) rfl rfl (by kernel_rfl) ?_
     refine Wk.rPass 6 (some 47) rfl rfl (by kernel_rfl) ?_
     refine Wk.rPass 7 (some 48) rfl rfl (by kernel_rfl) ?_
     refine Wk.rP 8 49 (.bool false) rfl rfl ?_
     refine Wk.rP 9 7 (.bool false) rfl rfl ?_
     refine Wk.rEnd 10 rfl (Wk.inN (Wk.nxt (Wk.reg ?_)))
     refine Wk.rP 0 24 (.int .i64 ((j : Nat) : Int)) rfl rfl ?_
     refine Wk.rQ 1 25 (.int .i64 ((j + 1 : Nat) : Int)) rfl rfl (Wk.int64 (n := ((j : Nat) : Int) + 1) (z := ((j + 1 : Nat) : Int)) (by omega) (by omega) (by omega) (by kernel_rfl)) ?_
     refine Wk.rP 2 8 (.int .i64 ((j + 1 : Nat) : Int)) rfl rfl ?_
     refine Wk.rEnd 3 rfl (Wk.nxt ?_)
     refine ⟨_, ?_, j + 1, false, rfl, by kernel_rfl, (by omega), ⟨fun e_ => (by cases e_), fun q_ => hbb.2 (fun i_ h1_ h2_ => q_ i_ (by omega) h2_)⟩, rfl⟩
     omega
    refine Wk.rQ 2 38 (.bool false) rfl rfl (Wk.boolF (b := (((j % 2 : Nat) : Int) == (1 : Int))) (beq_eq_false_iff_ne.2 (by first | exact hx1 | omega)) (by kernel_rfl)) ?_
    refine Wk.rEnd 3 rfl (Wk.nxt (wp_cond_false (by kernel_rfl) (wp_skip (Wk.nxt (Wk.reg ?_)))))
    refine Wk.rP 0 41 (.bool false) rfl rfl ?_
    refine Wk.rP 1 42 (.bool false) rfl rfl ?_
    refine Wk.rPass 2 (some 43) rfl rfl (by kernel_rfl) ?_
    refine Wk.rPass 3 (some 44) rfl rfl (by kernel_rfl) ?_
    refine Wk.rPass 4 (some 45) rfl rfl (by kernel_rfl) ?_
    refine Wk.rPass 5 (some 46) rfl rfl (by kernel_rfl) ?_
    refine Wk.rPass 6 (some 47) rfl rfl (by kernel_rfl) ?_
    refine Wk.rPass 7 (some 48) rfl rfl (by kernel_rfl) ?_
    refine Wk.rP 8 49 (.bool false) rfl rfl ?_
    refine Wk.rP 9 7 (.bool false) rfl rfl ?_
    refine Wk.rEnd 10 rfl (Wk.inN (Wk.nxt (Wk.reg ?_)))
    refine Wk.rP 0 24 (.int .i64 ((j : Nat) : Int)) rfl rfl ?_
    refine Wk.rQ 1 25 (.int .i64 ((j + 1 : Nat) : Int)) rfl rfl (Wk.int64 (n := ((j : Nat) : Int) + 1) (z := ((j + 1 : Nat) : Int)) (by omega) (by omega) (by omega) (by kernel_rfl)) ?_
    refine Wk.rP 2 8 (.int .i64 ((j + 1 : Nat) : Int)) rfl rfl ?_
    refine Wk.rEnd 3 rfl (Wk.nxt ?_)
    refine ⟨_, ?_, j + 1, false, rfl, by kernel_rfl, (by omega), ⟨fun e_ => (by cases e_), fun q_ => hbb.2 (fun i_ h1_ h2_ => q_ i_ (by omega) h2_)⟩, rfl⟩
    omega
   refine wp_seq (wp_seq (Wk.reg ?_))
   refine Wk.rP 0 20 (.int .i64 ((j : Nat) : Int)) rfl rfl ?_
   refine Wk.rP 1 21 (.slice (some ⟨q2, off2, none⟩) pn pc) rfl rfl ?_
   refine Wk.rP 2 22 (.int .i64 ((pn : Nat) : Int)) rfl rfl ?_
   refine Wk.rQ 3 23 (.bool true) rfl rfl (Wk.boolT (b := decide (((j : Nat) : Int) < ((pn : Nat) : Int))) (decide_eq_true (by omega)) (by kernel_rfl)) ?_
   refine Wk.rEnd 4 rfl (Wk.nxt (wp_cond_true (by kernel_rfl) (wp_skip (Wk.nxt (wp_seq (wp_block (wp_seq (Wk.reg ?_))))))))
   refine Wk.rP 0 26 (.slice (some ⟨g_x, o_x, none⟩) n c) rfl rfl ?_
   refine Wk.rP 1 27 (.int .i64 ((i : Nat) : Int)) rfl rfl ?_
   refine Wk.rP 2 28 (.int .i64 ((j : Nat) : Int)) rfl rfl ?_
   refine Wk.rQ 3 29 (.int .i64 ((j / 2 : Nat) : Int)) rfl rfl (Mur.quo_nat 3 3 (.tmp 28) (.const (.int .i64 2)) rfl j 2 (by kernel_rfl) (by kernel_rfl) (by omega) (by omega)) ?_
   refine Wk.rQ 4 30 (.pointer (some ⟨g_x, o_x + i * 97, none⟩)) rfl rfl (Wk.index_sl 50 32 (.tmp 26) (.tmp 27) rfl Tryd.underlying50 97 (by kernel_rfl) g_x o_x n c i .i64 (by kernel_rfl) (by kernel_rfl) (by omega)) ?_
   refine Wk.rP 5 31 (.pointer (some ⟨g_x, o_x + i * 97, none⟩)) rfl rfl ?_
   refine Wk.rQ 6 32 (.pointer (some ⟨g_x, o_x + i * 97 + (j / 2) * 1, none⟩)) rfl rfl (Wk.index_arr 30 5 (.tmp 31) (.tmp 29) rfl 32 Tryd.underlying30 1 (by kernel_rfl) g_x (o_x + i * 97) (j / 2) .i64 (by kernel_rfl) (by kernel_rfl) (by omega)) ?_
   refine Wk.rQ 7 33 (.int .u8 (((x.k.getD (j / 2) 0).toNat : Nat) : Int)) rfl rfl (Wk.load1 5 (.tmp 32) rfl (by kernel_rfl) ⟨g_x, o_x + i * 97 + (j / 2) * 1, none⟩ (by kernel_rfl) (.int .u8 (((x.k.getD (j / 2) 0).toNat : Nat) : Int)) (Mur.SlA.kcell (Mur.SlA.chg hA_ HB (fun g off e hl => trivial)) hx (j := j / 2) (by omega))) ?_
   refine Wk.rP 8 9 (.int .u8 (((x.k.getD (j / 2) 0).toNat : Nat) : Int)) rfl rfl ?_
   refine Wk.rEnd 9 rfl (Wk.nxt (wp_seq (Wk.reg ?_)))
   refine Wk.rP 0 34 (.int .u8 (((x.k.getD (j / 2) 0).toNat : Nat) : Int)) rfl rfl ?_
   refine Wk.rQ 1 35 (.int .u8 (((x.k.getD (j / 2) 0 >>> 4).toNat : Nat) : Int)) rfl rfl (Mur.quo8_16 5 5 (.tmp 34) (.const (.int .u8 16)) rfl (x.k.getD (j / 2) 0) (by kernel_rfl) (by kernel_rfl)) ?_
   refine Wk.rP 2 10 (.int .u8 (((x.k.getD (j / 2) 0 >>> 4).toNat : Nat) : Int)) rfl rfl ?_
   refine Wk.rEnd 3 rfl (Wk.nxt (wp_seq (wp_seq (Wk.reg ?_))))
   refine Wk.rP 0 36 (.int .i64 ((j : Nat) : Int)) rfl rfl ?_
   refine Wk.rQ 1 37 (.int .i64 ((j % 2 : Nat) : Int)) rfl rfl (Wk.rem_nat 3 3 (.tmp 36) (.const (.int .i64 2)) rfl j 2 (by kernel_rfl) (by kernel_rfl) (by omega)) ?_
   by_cases hx2 : ((j % 2 : Nat) : Int) = (1 : Int)
   ·refine Wk.rQ 2 38 (.bool true) rfl rfl (Wk.boolT (b := (((j % 2 : Nat) : Int) == (1 : Int))) (beq_iff_eq.2 (by first | exact hx2 | omega)) (by kernel_rfl)) ?_
    refine Wk.rEnd 3 rfl (Wk.nxt (wp_cond_true (by kernel_rfl) (Wk.reg ?_)))
    refine Wk.rP 0 39 (.int .u8 (((x.k.getD (j / 2) 0).toNat : Nat) : Int)) rfl rfl ?_
    refine Wk.rQ 1 40 (.int .u8 (((x.k.getD (j / 2) 0 &&& 15).toNat : Nat) : Int)) rfl rfl (Mur.rem8_16 5 5 (.tmp 39) (.const (.int .u8 16)) rfl (x.k.getD (j / 2) 0) (by kernel_rfl) (by kernel_rfl)) ?_
    refine Wk.rP 2 10 (.int .u8 (((x.k.getD (j / 2) 0 &&& 15).toNat : Nat) : Int)) rfl rfl ?_
    refine Wk.rEnd 3 rfl (Wk.nxt (Wk.reg ?_))
    refine Wk.rP 0 41 (.bool true) rfl rfl ?_
    refine Wk.rP 1 42 (.bool true) rfl rfl ?_
    refine Wk.rP 2 43 (.int .u8 (((x.k.getD (j / 2) 0 &&& 15).toNat : Nat) : Int)) rfl rfl ?_
    refine Wk.rP 3 44 (.slice (some ⟨q2, off2, none⟩) pn pc) rfl rfl ?_
    refine Wk.rP 4 45 (.int .i64 ((j : Nat) : Int)) rfl rfl ?_
    refine Wk.rQ 5 46 (.pointer (some ⟨q2, off2 + j * 1, none⟩)) rfl rfl (Wk.index_sl 38 5 (.tmp 44) (.tmp 45) rfl Tryd.underlying38 1 (by kernel_rfl) q2 off2 pn pc j .i64 (by kernel_rfl) (by kernel_rfl) (by omega)) ?_
    refine Wk.rQ 6 47 (.int .u8 (((p.getD j 0).toNat : Nat) : Int)) rfl rfl (Wk.load1 5 (.tmp 46) rfl (by kernel_rfl) ⟨q2, off2 + j * 1, none⟩ (by kernel_rfl) (.int .u8 (((p.getD j 0).toNat : Nat) : Int)) (Mur.byt_cell (Mur.byt_chg hb HB (fun g off e hl => trivial)) j (by omega))) ?_
    by_cases hx3 : (((x.k.getD (j / 2) 0 &&& 15).toNat : Nat) : Int) = (((p.getD j 0).toNat : Nat) : Int)
    ·refine Wk.rQ 7 48 (.bool true) rfl rfl (Wk.boolT (b := ((((x.k.getD (j / 2) 0 &&& 15).toNat : Nat) : Int) == (((p.getD j 0).toNat : Nat) : Int))) (beq_iff_eq.2 (by first | exact hx3 | omega)) (by kernel_rfl)) ?_
     refine Wk.rP 8 49 (.bool true) rfl rfl ?_
     refine Wk.rP 9 7 (.bool true) rfl rfl ?_
     refine Wk.rEnd 10 rfl (Wk.inN (Wk.nxt (Wk.reg ?_)))
     refine Wk.rP 0 24 (.int .i64 ((j : Nat) : Int)) rfl rfl ?_
     refine Wk.rQ 1 25 (.int .i64 ((j + 1 : Nat) : Int)) rfl rfl (Wk.int64 (n := ((j : Nat) : Int) + 1) (z := ((j + 1 : Nat) : Int)) (by omega) (by omega) (by omega) (by kernel_rfl)) ?_
     refine Wk.rP 2 8 (.int .i64 ((j + 1 : Nat) : Int)) rfl rfl ?_
     refine Wk.rEnd 3 rfl (Wk.nxt ?_)
     refine ⟨_, ?_, j + 1, true, rfl, by kernel_rfl, (by omega), ⟨fun _ i_ h1_ h2_ => by rcases Nat.lt_or_ge i_ j with h3_ | h3_ <;> first | exact hbb.1 rfl i_ h3_ h2_ | (have e_ : i_ = j := (by omega); rw [e_, (show Mur.nib x.k j = x.k.getD (j / 2) 0 &&& 15 from by unfold Mur.nib; rw [if_neg (by omega)])]; exact Mur.u8_cast_inj hx3), fun _ => rfl⟩, rfl⟩
     omega
    refine Wk.rQ 7 48 (.bool false) rfl rfl (Wk.boolF (b := ((((x.k.getD (j / 2) 0 &&& 15).toNat : Nat) : Int) == (((p.getD j 0).toNat : Nat) : Int))) (beq_eq_false_iff_ne.2 (by first | exact hx3 | omega)) (by kernel_rfl)) ?_
    refine Wk.rP 8 49 (.bool false) rfl rfl ?_
    refine Wk.rP 9 7 (.bool false) rfl rfl ?_
    refine Wk.rEnd 10 rfl (Wk.inN (Wk.nxt (Wk.reg ?_)))
    refine Wk.rP 0 24 (.int .i64 ((j : Nat) : Int)) rfl rfl ?_
    refine Wk.rQ 1 25 (.int .i64 ((j + 1 : Nat) : Int)) rfl rfl (Wk.int64 (n := ((j : Nat) : Int) + 1) (z := ((j + 1 : Nat) : Int)) (by omega) (by omega) (by omega) (by kernel_rfl)) ?_
    refine Wk.rP 2 8 (.int .i64 ((j + 1 : Nat) : Int)) rfl rfl ?_
    refine Wk.rEnd 3 rfl (Wk.nxt ?_)
    refine ⟨_, ?_, j + 1, false, rfl, by kernel_rfl, (by omega), ⟨fun e_ => (by cases e_), fun q_ => absurd (by have h5_ := q_ j (by omega) (by omega); rw [(show Mur.nib x.k j = x.k.getD (j / 2) 0 &&& 15 from by unfold Mur.nib; rw [if_neg (by omega)])] at h5_; rw [h5_]) hx3⟩, rfl⟩
    omega
   refine Wk.rQ 2 38 (.bool false) rfl rfl (Wk.boolF (b := (((j % 2 : Nat) : Int) == (1 : Int))) (beq_eq_false_iff_ne.2 (by first | exact hx2 | omega)) (by kernel_rfl)) ?_
   refine Wk.rEnd 3 rfl (Wk.nxt (wp_cond_false (by kernel_rfl) (wp_skip (Wk.nxt (Wk.reg ?_)))))
   refine Wk.rP 0 41 (.bool true) rfl rfl ?_
   refine Wk.rP 1 42 (.bool true) rfl rfl ?_
   refine Wk.rP 2 43 (.int .u8 (((x.k.getD (j / 2) 0 >>> 4).toNat : Nat) : Int)) rfl rfl ?_
   refine Wk.rP 3 44 (.slice (some ⟨q2, off2, none⟩) pn pc) rfl rfl ?_
   refine Wk.rP 4 45 (.int .i64 ((j : Nat) : Int)) rfl rfl ?_
   refine Wk.rQ 5 46 (.pointer (some ⟨q2, off2 + j * 1, none⟩)) rfl rfl (Wk.index_sl 38 5 (.tmp 44) (.tmp 45) rfl Tryd.underlying38 1 (by kernel_rfl) q2 off2 pn pc j .i64 (by kernel_rfl) (by kernel_rfl) (by omega)) ?_
   refine Wk.rQ 6 47 (.int .u8 (((p.getD j 0).toNat : Nat) : Int)) rfl rfl (Wk.load1 5 (.tmp 46) rfl (by kernel_rfl) ⟨q2, off2 + j * 1, none⟩ (by kernel_rfl) (.int .u8 (((p.getD j 0).toNat : Nat) : Int)) (Mur.byt_cell (Mur.byt_chg hb HB (fun g off e hl => trivial)) j (by omega))) ?_
   by_cases hx4 : (((x.k.getD (j / 2) 0 >>> 4).toNat : Nat) : Int) = (((p.getD j 0).toNat : Nat) : Int)
   ·refine Wk.rQ 7 48 (.bool true) rfl rfl (Wk.boolT (b := ((((x.k.getD (j / 2) 0 >>> 4).toNat : Nat) : Int) == (((p.getD j 0).toNat : Nat) : Int))) (beq_iff_eq.2 (by first | exact hx4 | omega)) (by kernel_rfl)) ?_
    refine Wk.rP 8 49 (.bool true) rfl rfl ?_
    refine Wk.rP 9 7 (.bool true) rfl rfl ?_
    refine Wk.rEnd 10 rfl (Wk.inN (Wk.nxt (Wk.reg ?_)))
    refine Wk.rP 0 24 (.int .i64 ((j : Nat) : Int)) rfl rfl ?_
    refine Wk.rQ 1 25 (.int .i64 ((j + 1 : Nat) : Int)) rfl rfl (Wk.int64 (n := ((j : Nat) : Int) + 1) (z := ((j + 1 : Nat) : Int)) (by omega) (by omega) (by omega) (by kernel_rfl)) ?_
    refine Wk.rP 2 8 (.int .i64 ((j + 1 : Nat) : Int)) rfl rfl ?_
    refine Wk.rEnd 3 rfl (Wk.nxt ?_)
    refine ⟨_, ?_, j + 1, true, rfl, by kernel_rfl, (by omega), ⟨fun _ i_ h1_ h2_ => by rcases Nat.lt_or_ge i_ j with h3_ | h3_ <;> first | exact hbb.1 rfl i_ h3_ h2_ | (have e_ : i_ = j := (by omega); rw [e_, (show Mur.nib x.k j = x.k.getD (j / 2) 0 >>> 4 from by unfold Mur.nib; rw [if_pos (by omega)])]; exact Mur.u8_cast_inj hx4), fun _ => rfl⟩, rfl⟩
    omega
   refine Wk.rQ 7 48 (.bool false) rfl rfl (Wk.boolF (b := ((((x.k.getD (j / 2) 0 >>> 4).toNat : Nat) : Int) == (((p.getD j 0).toNat : Nat) : Int))) (beq_eq_false_iff_ne.2 (by first | exact hx4 | omega)) (by kernel_rfl)) ?_
   refine Wk.rP 8 49 (.bool false) rfl rfl ?_
   refine Wk.rP 9 7 (.bool false) rfl rfl ?_
   refine Wk.rEnd 10 rfl (Wk.inN (Wk.nxt (Wk.reg ?_)))
   refine Wk.rP 0 24 (.int .i64 ((j : Nat) : Int)) rfl rfl ?_
   refine Wk.rQ 1 25 (.int .i64 ((j + 1 : Nat) : Int)) rfl rfl (Wk.int64 (n := ((j : Nat) : Int) + 1) (z := ((j + 1 : Nat) : Int)) (by omega) (by omega) (by omega) (by kernel_rfl)) ?_
   refine Wk.rP 2 8 (.int .i64 ((j + 1 : Nat) : Int)) rfl rfl ?_
   refine Wk.rEnd 3 rfl (Wk.nxt ?_)
   refine ⟨_, ?_, j + 1, false, rfl, by kernel_rfl, (by omega), ⟨fun e_ => (by cases e_), fun q_ => absurd (by have h5_ := q_ j (by omega) (by omega); rw [(show Mur.nib x.k j = x.k.getD (j / 2) 0 >>> 4 from by unfold Mur.nib; rw [if_pos (by omega)])] at h5_; rw [h5_]) hx4⟩, rfl⟩
   omega
  have hun := Mur.under_run (p := p) (k := x.k) hpl_ (show pn ≤ j by omega) hbb
  cases b
  ·refine wp_seq (wp_seq (Wk.reg ?_))
   refine Wk.rP 0 20 (.int .i64 ((j : Nat) : Int)) rfl rfl ?_
   refine Wk.rP 1 21 (.slice PA pn pc) rfl rfl ?_
   refine Wk.rP 2 22 (.int .i64 ((pn : Nat) : Int)) rfl rfl ?_
   refine Wk.rQ 3 23 (.bool false) rfl rfl (Wk.boolF (b := decide (((j : Nat) : Int) < ((pn : Nat) : Int))) (decide_eq_false (by omega)) (by kernel_rfl)) ?_
   refine Wk.rEnd 4 rfl (Wk.nxt (wp_cond_false (by kernel_rfl) (wp_exit (Wk.thX (Wk.thX (Wk.inX (Wk.nxt (wp_seq (Wk.reg ?_)))))))))
   refine Wk.rP 0 50 (.bool false) rfl rfl ?_
   refine Wk.rEnd 1 rfl (Wk.nxt (wp_cond_false (by kernel_rfl) (wp_skip (Wk.inN (Wk.nxt (Wk.reg ?_))))))
   refine Wk.rP 0 18 (.int .i64 ((i : Nat) : Int)) rfl rfl ?_
   refine Wk.rQ 1 19 (.int .i64 ((i + 1 : Nat) : Int)) rfl rfl (Wk.int64 (n := ((i : Nat) : Int) + 1) (z := ((i + 1 : Nat) : Int)) (by omega) (by omega) (by omega) (by kernel_rfl)) ?_
   refine Wk.rP 2 6 (.int .i64 ((i + 1 : Nat) : Int)) rfl rfl ?_
   refine Wk.rEnd 3 rfl (Wk.nxt ?_)
   refine ⟨_, ?_, i + 1, A1, N, c1, rfl, by kernel_rfl, (by omega), (by rw [Mur.filter_no hx hun]; exact hO), HB⟩
   omega
  refine wp_seq (wp_seq (Wk.reg ?_))
  refine Wk.rP 0 20 (.int .i64 ((j : Nat) : Int)) rfl rfl ?_
  refine Wk.rP 1 21 (.slice PA pn pc) rfl rfl ?_
  refine Wk.rP 2 22 (.int .i64 ((pn : Nat) : Int)) rfl rfl ?_
  refine Wk.rQ 3 23 (.bool false) rfl rfl (Wk.boolF (b := decide (((j : Nat) : Int) < ((pn : Nat) : Int))) (decide_eq_false (by omega)) (by kernel_rfl)) ?_
  refine Wk.rEnd 4 rfl (Wk.nxt (wp_cond_false (by kernel_rfl) (wp_exit (Wk.thX (Wk.thX (Wk.inX (Wk.nxt (wp_seq (Wk.reg ?_)))))))))
  refine Wk.rP 0 50 (.bool true) rfl rfl ?_
  refine Wk.rEnd 1 rfl (Wk.nxt (wp_cond_true (by kernel_rfl) (Wk.reg ?_)))
  refine Wk.rP 0 51 (.slice A1 N c1) rfl rfl ?_
  refine Wk.rP 1 52 (.slice (some ⟨g_x, o_x, none⟩) n c) rfl rfl ?_
  refine Wk.rP 2 53 (.int .i64 ((i : Nat) : Int)) rfl rfl ?_
  refine Wk.rQ 3 54 (.pointer (some ⟨g_x, o_x + i * 97, none⟩)) rfl rfl (Wk.index_sl 50 32 (.tmp 52) (.tmp 53) rfl Tryd.underlying50 97 (by kernel_rfl) g_x o_x n c i .i64 (by kernel_rfl) (by kernel_rfl) (by omega)) ?_
  refine Wk.rQ 4 55 (.agg ((Mur.attC x.k x.r x.n x.t).toArray)) rfl rfl (Wk.loadR 32 (.tmp 54) rfl _ Tryd.underlying32 rfl g_x (o_x + i * 97) (by kernel_rfl) (Mur.attC x.k x.r x.n x.t) (by rw [Mur.attC_length x.hk x.hr x.ht]; kernel_rfl) ((Mur.SlA.chg hA_ HB (fun g off e hl => trivial)).elem hx)) ?_
  refine Wk.rEx 5 (some 56) _ rfl rfl (by kernel_rfl) (Mur.build1 22 32 (.tmp 55) rfl Tryd.underlying22 attI x.k x.r x.t x.n x.hk x.hr x.ht (by kernel_rfl)) ?_
  rintro _ W3 ⟨rfl, hb1, ch1, sz1⟩
  have zz1 := ch1.size
  have ow1 := Mur.OwnA.chg hO ch1 (fun q e _ _ => trivial)
  refine Wk.rEx 6 (some 57) _ rfl rfl (by kernel_rfl) (Mur.appendA (.tmp 51) (.tmp 56) 22 32 rfl Tryd.underlying22 attI w.heap.size A1 N c1 ((L.take i).filter (fun y_ => Mur.under p y_.k)) (some ⟨W2.heap.size, 0, none⟩) 1 1 ([x]) (by kernel_rfl) (by kernel_rfl) ow1 (Mur.slA_box x hb1) (fun h => by cases h) (by omega) (by omega) (N + 1) (by omega) (((L.take i).filter (fun y_ => Mur.under p y_.k)) ++ ([x])) rfl) ?_
  rintro _ W4 ⟨AA1, nn1, rfl, ow2, ch2, ha1⟩
  have zz2 := ch2.size
  have hq1 := ow2.nc
  have hq2 := ow2.cm
  refine Wk.rP 7 5 (.slice AA1 (N + 1) nn1) rfl rfl ?_
  refine Wk.rEnd 8 rfl (Wk.inN (Wk.nxt (Wk.reg ?_)))
  refine Wk.rP 0 18 (.int .i64 ((i : Nat) : Int)) rfl rfl ?_
  refine Wk.rQ 1 19 (.int .i64 ((i + 1 : Nat) : Int)) rfl rfl (Wk.int64 (n := ((i : Nat) : Int) + 1) (z := ((i + 1 : Nat) : Int)) (by omega) (by omega) (by omega) (by kernel_rfl)) ?_
  refine Wk.rP 2 6 (.int .i64 ((i + 1 : Nat) : Int)) rfl rfl ?_
  refine Wk.rEnd 3 rfl (Wk.nxt ?_)
  have kk1 := Wk.Chg.step HB ch1 trivial
  have kk2 := Wk.Chg.step kk1 ch2 (Wk.newOr_blk (fun g hg => by have := hO.lt g hg; omega))
  refine ⟨_, ?_, i + 1, AA1, N + 1, nn1, rfl, by kernel_rfl, (by omega), (by rw [Mur.filter_yes hx hun]; exact ow2), kk2⟩
  omega
 rw [List.take_of_length_le (show L.length ≤ i by omega), ← Mur.belowL_ok hpre1] at hO
 refine wp_seq (wp_seq (Wk.reg ?_))
 refine Wk.rP 0 14 (.int .i64 ((i : Nat) : Int)) rfl rfl ?_
 refine Wk.rP 1 15 (.slice A n c) rfl rfl ?_
 refine Wk.rP 2 16 (.int .i64 ((n : Nat) : Int)) rfl rfl ?_
 refine Wk.rQ 3 17 (.bool false) rfl rfl (Wk.boolF (b := decide (((i : Nat) : Int) < ((n : Nat) : Int))) (decide_eq_false (by omega)) (by kernel_rfl)) ?_
 refine Wk.rEnd 4 rfl (Wk.nxt (wp_cond_false (by kernel_rfl) (wp_exit (Wk.thX (Wk.thX (Wk.inX (Wk.nxt (wp_seq (Wk.reg ?_)))))))))
 refine Wk.rP 0 58 (.slice A1 N c1) rfl rfl ?_
 refine Wk.rP 1 4 (.slice A1 N c1) rfl rfl ?_
 refine Wk.rEnd 2 rfl (Wk.nxt (wp_ret ?_))
 refine Wk.ret (.slice A1 N c1) rfl (by kernel_rfl) ?_
 exact ⟨_, _, _, rfl, hO, HB⟩
end Go.Proofs.YtfhneademopciaaDoor
namespace Go.Proofs.YtfhneademopciaaDoor
open Go.RowKit
open Mur (b8s Byt Own8 Seg Segs flat cutA attC Att SlA OwnA rowA)
set_option maxRecDepth 100000
set_option maxHeartbeats 4000000
end Go.Proofs.YtfhneademopciaaDoor
