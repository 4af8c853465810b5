/- adverts: sums. adverts' document: Same, Less; what is known. adverts' document: a row of bytes; the hash. adverts: Copy, Of; none. gossip: Clone, within, summary. Slices of one's own of rows of any one size; messages and letters in them. No program in sight. Messages: what a message may be, step by step; a message as it lies, and many. No program in sight. Runs that chunks need: a slice cut by three bounds; the least of two. No program in sight. slices.Chunk of results. slices.Clone of results that lie anywhere. A chunk of results, as it lies. No program in sight. Messages' blocks are rows of cells: what is no row is none of them. No program in sight. -/
import Derived.Test.YtfhneademopciaaDoorPQ7
import Derived.Test.YtfhneademopciaaDoorPQ3
import Derived.Test.YtfhneademopciaaDoorPQ4
import Derived.Test.YtfhneademopciaaDoorPQ2
namespace Go.Proofs.YtfhneademopciaaDoor
open Go.RowKit
open Mur (b8s Byt Own8 Seg Segs flat cutA attC Att SlA OwnA rowA)
set_option maxRecDepth 100000
set_option maxHeartbeats 4000000
def ShP_F1 (b : Array Value) (u4 : Value) (u5 : Value) (u10 : Value) (u11 : Value) (u12 : Value) : Act := ⟨#[b.getD 0 undef, b.getD 1 undef, b.getD 2 undef, b.getD 3 undef, u4, u5, b.getD 6 undef, b.getD 7 undef, b.getD 8 undef, b.getD 9 undef, u10, u11, u12, b.getD 13 undef, b.getD 14 undef, b.getD 15 undef, b.getD 16 undef, b.getD 17 undef, b.getD 18 undef, b.getD 19 undef, b.getD 20 undef, b.getD 21 undef], []⟩
theorem Parts_any (t : UInt8) (L : List Seg) (PA : Option Addr) (pn pc : Nat) (w : World) (hv : ShaVars w) (hl : Segs w PA pn L) (hpn : pn ≤ 9223372036854775807) (hf : (flat L).length ≤ 140737488351000) : Calls Tryd.prog 43 #[.int .u8 ((t.toNat : Nat) : Int), .slice PA pn pc] w fun e w' => ∃ d, Hid (d = Mur.sha (t :: flat L)) ∧ d.length = 32 ∧ e = .returned (.agg (b8s d).toArray) ∧ Wk.Chg [] w w' := by
  have HV := Go.Lib.hid hv
  clear hv
  have HL := Go.Lib.hid hl
  clear hl
  refine calls_of_wp Tryd.func43 rfl ?_
  refine wp_seq ?_
  refine Wk.reg ?_
  refine Wk.rEx 0 (some 4) _ rfl rfl (by kernel_rfl) (Wk.new_ex (.pointer (some ⟨w.heap.size, 0, none⟩)) #[.int .u8 0, .int .u8 0, .int .u8 0, .int .u8 0, .int .u8 0, .int .u8 0, .int .u8 0, .int .u8 0, .int .u8 0, .int .u8 0, .int .u8 0, .int .u8 0, .int .u8 0, .int .u8 0, .int .u8 0, .int .u8 0, .int .u8 0, .int .u8 0, .int .u8 0, .int .u8 0, .int .u8 0, .int .u8 0, .int .u8 0, .int .u8 0, .int .u8 0, .int .u8 0, .int .u8 0, .int .u8 0, .int .u8 0, .int .u8 0, .int .u8 0, .int .u8 0] 30 (by kernel_rfl)) ?_
  rintro _ W1 ⟨rfl, hb1, ch1, sz1⟩
  have zz1 := ch1.size
  refine Wk.rEnd 1 rfl ?_
  refine Wk.nxt ?_
  refine wp_seq ?_
  refine Wk.reg ?_
  refine Wk.rPure 0 (some 8) (.int .u8 ((t.toNat : Nat) : Int)) rfl rfl (by kernel_rfl) (by kernel_rfl) ?_
  refine Wk.rEx 1 (some 9) _ rfl rfl (by kernel_rfl) (Wk.new_ex (.slice (some ⟨W1.heap.size, 0, none⟩) 1 1) #[.int .u8 ((t.toNat : Nat) : Int)] 5 (by kernel_rfl)) ?_
  rintro _ W2 ⟨rfl, hb2, ch2, sz2⟩
  have zz2 := ch2.size
  refine Wk.rPure 2 (some 5) (.slice (some ⟨W1.heap.size, 0, none⟩) 1 1) rfl rfl (by kernel_rfl) (by kernel_rfl) ?_
  refine Wk.rEnd 3 rfl ?_
  refine Wk.nxt ?_
  refine wp_seq ?_
  refine wp_seq ?_
  refine Wk.reg ?_
  refine Wk.rPure 0 (some 10) (.slice PA pn pc) rfl rfl (by kernel_rfl) (by kernel_rfl) ?_
  refine Wk.rPure 1 (some 11) (.int .i64 ((pn : Nat) : Int)) rfl rfl (by kernel_rfl) (by kernel_rfl) ?_
  refine Wk.rPure 2 (some 12) (.int .i64 0) rfl rfl (by kernel_rfl) (by kernel_rfl) ?_
  refine Wk.rEnd 3 rfl ?_
  refine Wk.nxt ?_
  refine wp_block ?_
  have hOw5 : Own8 W2 W1.heap.size 5 (some ⟨W1.heap.size, 0, none⟩) 1 1 [t] := Mur.own8_lit hb2 (Nat.le_refl _) rfl (by omega)
  refine Wk.loop (fun m_ a wr => ∃ (k : Nat) (A1 : Option Addr) (N : Nat) (c1 : Nat), m_ = pn - k ∧ a = ShP_F1 a.tmps (.pointer (some ⟨w.heap.size, 0, none⟩)) (.slice A1 N c1) (.slice PA pn pc) (.int .i64 ((pn : Nat) : Int)) (.int .i64 ((k : Nat) : Int)) ∧ k ≤ pn ∧ Own8 wr W1.heap.size 5 A1 N c1 (t :: flat (L.take k)) ∧ N = 1 + (flat (L.take k)).length ∧ wr.heap[w.heap.size]? = some (.cells #[.int .u8 0, .int .u8 0, .int .u8 0, .int .u8 0, .int .u8 0, .int .u8 0, .int .u8 0, .int .u8 0, .int .u8 0, .int .u8 0, .int .u8 0, .int .u8 0, .int .u8 0, .int .u8 0, .int .u8 0, .int .u8 0, .int .u8 0, .int .u8 0, .int .u8 0, .int .u8 0, .int .u8 0, .int .u8 0, .int .u8 0, .int .u8 0, .int .u8 0, .int .u8 0, .int .u8 0, .int .u8 0, .int .u8 0, .int .u8 0, .int .u8 0, .int .u8 0] 30 (0, 0)) ∧ Wk.Chg [] w wr ∧ W1.heap.size ≤ wr.heap.size) (pn - 0) ?_ ?_
  · have kk1 : Wk.Chg [] w W1 := Wk.Chg.step ((Wk.Chg.refl _).more (by simp)) ch1 trivial
    have kk2 := Wk.Chg.step kk1 ch2 trivial
    refine ⟨0, some ⟨W1.heap.size, 0, none⟩, 1, 1, rfl, by kernel_rfl, by omega, (by rw [List.take_zero]; exact hOw5), by rw [List.take_zero]; rfl, (Wk.Chg.hp ch2 hb1 trivial), kk2, (by omega)⟩
  · rintro mm1 aa1 W3 ⟨k, A1, N, c1, hmm1, hF1, hi, hO, hN, hZ, HB, hbs⟩
    generalize aa1.tmps = bb1 at hF1
    subst hF1
    have hqn := hO.nc
    have hqm := hO.cm
    unfold Go.maxLen at hqm
    have hzl_ := (Array.getElem?_eq_some_iff.1 hZ).1
    by_cases hlt : k < pn
    · obtain ⟨g, off, As, ns, cs, ls, rfl, hg, hcell, hby, hsn, hsc, hsnil, hfl, hfle⟩ := HL.out.at hlt
      refine wp_seq ?_
      refine Wk.reg ?_
      refine Wk.rPure 0 (some 13) (.bool true) rfl rfl (by kernel_rfl) (Wk.boolT (b := decide (((k : Nat) : Int) < ((pn : Nat) : Int))) (decide_eq_true (by omega)) (by kernel_rfl)) ?_
      refine Wk.rEnd 1 rfl ?_
      refine Wk.nxt ?_
      refine wp_seq ?_
      refine wp_cond_true (by kernel_rfl) ?_
      refine wp_skip ?_
      refine Wk.nxt ?_
      refine wp_seq ?_
      refine wp_block ?_
      refine wp_seq ?_
      refine Wk.reg ?_
      refine Wk.rPure 0 (some 14) (.pointer (some ⟨g, off + k * 1, none⟩)) rfl rfl (by kernel_rfl) (Wk.index_sl 83 38 (.tmp 10) (.tmp 12) rfl Tryd.underlying83 1 (by kernel_rfl) g off pn pc k .i64 (by kernel_rfl) (by kernel_rfl) (by omega)) ?_
      refine Wk.rPure 1 (some 15) (.slice As ns cs) rfl rfl (by kernel_rfl) (Wk.load1 38 (.tmp 14) rfl (by kernel_rfl) ⟨g, off + k * 1, none⟩ (by kernel_rfl) (.slice As ns cs) (Wk.Chg.cell HB hcell trivial)) ?_
      refine Wk.rPure 2 (some 7) (.slice As ns cs) rfl rfl (by kernel_rfl) (by kernel_rfl) ?_
      refine Wk.rEnd 3 rfl ?_
      refine Wk.nxt ?_
      refine Wk.reg ?_
      refine Wk.rPure 0 (some 16) (.slice A1 N c1) rfl rfl (by kernel_rfl) (by kernel_rfl) ?_
      refine Wk.rPure 1 (some 17) (.slice As ns cs) rfl rfl (by kernel_rfl) (by kernel_rfl) ?_
      refine Wk.rEx 2 (some 18) _ rfl rfl (by kernel_rfl) (Mur.append8 (.tmp 16) (.tmp 17) 38 5 rfl Tryd.underlying38 (by kernel_rfl) W1.heap.size A1 N c1 (t :: flat (L.take k)) As ns cs ls (by kernel_rfl) (by kernel_rfl) hO.own (Mur.byt_chg hby HB (fun g off e hl => trivial)) hsnil (by omega) (by omega) (N + ns) (by omega) ((t :: flat (L.take k)) ++ ls) rfl) ?_
      rintro _ W4 ⟨AA1, nn1, rfl, ow1, ch3, ha1⟩
      have zz3 := ch3.size
      have hq1 := ow1.nc
      have hq2 := ow1.cm
      refine Wk.rPure 3 (some 5) (.slice AA1 (N + ns) nn1) rfl rfl (by kernel_rfl) (by kernel_rfl) ?_
      refine Wk.rEnd 4 rfl ?_
      refine Wk.inN ?_
      refine Wk.nxt ?_
      refine Wk.reg ?_
      refine Wk.rPure 0 (some 19) (.int .i64 ((k + 1 : Nat) : Int)) rfl rfl (by kernel_rfl) (Wk.int64 (n := ((k : Nat) : Int) + 1) (z := ((k + 1 : Nat) : Int)) (by omega) (by omega) (by omega) (by kernel_rfl)) ?_
      refine Wk.rPure 1 (some 12) (.int .i64 ((k + 1 : Nat) : Int)) rfl rfl (by kernel_rfl) (by kernel_rfl) ?_
      refine Wk.rEnd 2 rfl ?_
      refine Wk.nxt ?_
      have kk3 := Wk.Chg.step HB ch3 (Wk.newOr_blk (fun g hg => by have := hO.lt g hg; omega))
      refine ⟨_, ?_, k + 1, AA1, N + ns, nn1, rfl, by kernel_rfl, (by omega), (by rw [hfl]; exact ow1), (by rw [hfl, List.length_append]; have := hby.1; omega), (Wk.Chg.hp ch3 hZ (Wk.off_blk (fun gz hgz => by have := hO.lt gz hgz; omega))), kk3, (by omega)⟩
      · omega
    · have hfa : flat (L.take k) = flat L := by rw [show k = pn by omega]; exact Mur.flat_all HL.out.len
      have hfl := congrArg List.length hfa
      refine wp_seq ?_
      refine Wk.reg ?_
      refine Wk.rPure 0 (some 13) (.bool false) rfl rfl (by kernel_rfl) (Wk.boolF (b := decide (((k : Nat) : Int) < ((pn : Nat) : Int))) (decide_eq_false (by omega)) (by kernel_rfl)) ?_
      refine Wk.rEnd 1 rfl ?_
      refine Wk.nxt ?_
      refine wp_seq ?_
      refine wp_cond_false (by kernel_rfl) ?_
      refine wp_exit ?_
      refine Wk.thX ?_
      refine Wk.thX ?_
      refine Wk.inX ?_
      refine Wk.nxt ?_
      refine wp_seq ?_
      refine Wk.reg ?_
      refine Wk.rPure 0 (some 20) (.slice A1 N c1) rfl rfl (by kernel_rfl) (by kernel_rfl) ?_
      refine Wk.rCall 1 (some 21) 66 [.tmp 20] #[38] [.slice A1 N c1] rfl rfl (by kernel_rfl) rfl (by kernel_rfl) (by kernel_rfl) ?_
      refine (sum_var (t :: flat (L.take k)) A1 N c1 W3 (HV.out.below (Wk.Chg.below0 HB)) hO.byt (by omega) hO.nil (by omega)).mono ?_
      rintro _ W5 ⟨dd1, hd1, hdl1, rfl, hB1⟩
      have ch4 := Wk.Chg.ofBelow hB1
      have zz4 := ch4.size
      refine ⟨_, rfl, ?_⟩
      refine Wk.rExS 2 none _ rfl rfl (by kernel_rfl) (Mur.storeAll 30 (.tmp 4) (.tmp 21) rfl w.heap.size (by kernel_rfl) dd1 32 hdl1 (by kernel_rfl) (by kernel_rfl) 30 #[.int .u8 0, .int .u8 0, .int .u8 0, .int .u8 0, .int .u8 0, .int .u8 0, .int .u8 0, .int .u8 0, .int .u8 0, .int .u8 0, .int .u8 0, .int .u8 0, .int .u8 0, .int .u8 0, .int .u8 0, .int .u8 0, .int .u8 0, .int .u8 0, .int .u8 0, .int .u8 0, .int .u8 0, .int .u8 0, .int .u8 0, .int .u8 0, .int .u8 0, .int .u8 0, .int .u8 0, .int .u8 0, .int .u8 0, .int .u8 0, .int .u8 0, .int .u8 0] (Wk.Chg.hp ch4 hZ trivial) rfl) ?_
      rintro W6 ⟨hb3, ch5⟩
      have zz5 := ch5.size
      refine Wk.rEnd 3 rfl ?_
      refine Wk.nxt ?_
      refine wp_ret ?_
      have kk4 := Wk.Chg.step HB ch4 trivial
      have kk5 := Wk.Chg.step kk4 ch5 ⟨.inr (by omega), trivial⟩
      refine Wk.ret (.agg (b8s dd1).toArray) rfl (results_cell_row rfl _ _ w.heap.size 30 (b8s dd1).toArray (0, 0) _ (by kernel_rfl) hb3 Tryd.underlying30 rfl (by rw [List.size_toArray, Mur.b8s_length, hdl1]; kernel_rfl)) ?_
      exact ⟨_, Go.Lib.hid (by rw [hd1.out, hfa]), hdl1, rfl, kk5⟩
theorem Sum_any (lo : Nat) (L : List Att) (g : Nat) (F : List Nat) (p : List UInt8) (PA : Option Addr) (pn pc : Nat) (w : World) (hv : ShaVars w) (h : Mur.SetF 32 57 lo w g L F) (hb : Byt w PA pn p) (hn : pn ≤ 9223372036854775807) : Calls Tryd.prog 16 #[.pointer (some ⟨g, 0, none⟩), .slice PA pn pc] w fun e w' => ∃ d, Hid (d = Mur.sumL p L) ∧ d.length = 32 ∧ e = .returned (.tuple #[.agg (b8s d).toArray, .int .i64 (((Mur.belowL p L).length : Nat) : Int)]) ∧ Wk.Chg [] w w' := by
  have HV := Go.Lib.hid hv
  clear hv
  have hM_ := Mur.SetF.mem h
  have hS_ := Mur.SetF.len h
  have hMay_ := Mur.SetF.ok h
  refine Wk.calls_of_wpM Tryd.func16 rfl ?_
  refine Wk.noP ?_
  refine wp_seq ?_
  refine Wk.reg ?_
  refine Wk.rEx 0 (some 4) _ rfl rfl (by kernel_rfl) (Wk.new_ex (.pointer (some ⟨w.heap.size, 0, none⟩)) #[.int .u8 0, .int .u8 0, .int .u8 0, .int .u8 0, .int .u8 0, .int .u8 0, .int .u8 0, .int .u8 0, .int .u8 0, .int .u8 0, .int .u8 0, .int .u8 0, .int .u8 0, .int .u8 0, .int .u8 0, .int .u8 0, .int .u8 0, .int .u8 0, .int .u8 0, .int .u8 0, .int .u8 0, .int .u8 0, .int .u8 0, .int .u8 0, .int .u8 0, .int .u8 0, .int .u8 0, .int .u8 0, .int .u8 0, .int .u8 0, .int .u8 0, .int .u8 0] 30 (by kernel_rfl)) ?_
  rintro _ W1 ⟨rfl, hb1, ch1, sz1⟩
  have zz1 := ch1.size
  refine Wk.rPure 1 (some 5) (.int .i64 0) rfl rfl (by kernel_rfl) (by kernel_rfl) ?_
  refine Wk.rEnd 2 rfl ?_
  refine Wk.nxt ?_
  refine wp_seq ?_
  refine wp_seq ?_
  refine Wk.reg ?_
  refine Wk.rPure 0 (some 10) (.pointer (some ⟨g, 0, none⟩)) rfl rfl (by kernel_rfl) (by kernel_rfl) ?_
  refine Wk.rPure 1 (some 11) (.bool false) rfl rfl (by kernel_rfl) (by kernel_rfl) ?_
  refine Wk.rPure 2 (some 12) (.bool false) rfl rfl (by kernel_rfl) (by kernel_rfl) ?_
  refine Wk.rPure 3 (some 13) (.slice PA pn pc) rfl rfl (by kernel_rfl) (by kernel_rfl) ?_
  refine Wk.rCall 4 (some 14) 19 [.tmp 13] #[38] [.slice PA pn pc] rfl rfl (by kernel_rfl) rfl (by kernel_rfl) (by kernel_rfl) ?_
  have kk1 : Wk.Chg [] w W1 := Wk.Chg.step ((Wk.Chg.refl _).more (by simp)) ch1 trivial
  refine (IsPrefix_any p PA pn pc W1 (Mur.byt_chg hb kk1 (fun g off e hl => trivial)) (by omega)).mono ?_
  cases hpre1 : Mur.isPre p
  · rintro _ _ ⟨rfl, rfl⟩
    refine ⟨_, rfl, ?_⟩
    refine Wk.rPure 5 (some 15) (.bool true) rfl rfl (by kernel_rfl) (by kernel_rfl) ?_
    refine Wk.rPure 6 (some 16) (.bool true) rfl rfl (by kernel_rfl) (by kernel_rfl) ?_
    refine Wk.rEnd 7 rfl ?_
    refine Wk.nxt ?_
    refine wp_cond_true (by kernel_rfl) ?_
    refine wp_seq ?_
    refine Wk.reg ?_
    refine Wk.rPure 0 (some 17) (.agg ((b8s [0, 0, 0, 0, 0, 0, 0, 0, 0, 0, 0, 0, 0, 0, 0, 0, 0, 0, 0, 0, 0, 0, 0, 0, 0, 0, 0, 0, 0, 0, 0, 0]).toArray)) rfl rfl (by kernel_rfl) (by kernel_rfl) ?_
    refine Wk.rExS 1 none _ rfl rfl (by kernel_rfl) (Mur.storeAll 30 (.tmp 4) (.tmp 17) rfl w.heap.size (by kernel_rfl) ([0, 0, 0, 0, 0, 0, 0, 0, 0, 0, 0, 0, 0, 0, 0, 0, 0, 0, 0, 0, 0, 0, 0, 0, 0, 0, 0, 0, 0, 0, 0, 0]) 32 rfl (by kernel_rfl) (by kernel_rfl) 30 #[.int .u8 0, .int .u8 0, .int .u8 0, .int .u8 0, .int .u8 0, .int .u8 0, .int .u8 0, .int .u8 0, .int .u8 0, .int .u8 0, .int .u8 0, .int .u8 0, .int .u8 0, .int .u8 0, .int .u8 0, .int .u8 0, .int .u8 0, .int .u8 0, .int .u8 0, .int .u8 0, .int .u8 0, .int .u8 0, .int .u8 0, .int .u8 0, .int .u8 0, .int .u8 0, .int .u8 0, .int .u8 0, .int .u8 0, .int .u8 0, .int .u8 0, .int .u8 0] hb1 rfl) ?_
    rintro W2 ⟨hb2, ch2⟩
    have zz2 := ch2.size
    refine Wk.rPure 2 (some 5) (.int .i64 0) rfl rfl (by kernel_rfl) (by kernel_rfl) ?_
    refine Wk.rEnd 3 rfl ?_
    refine Wk.nxt ?_
    refine wp_ret ?_
    refine Wk.thR ?_
    refine Wk.npR ?_
    refine Wk.retM0 (.tuple #[.agg (b8s Mur.z32).toArray, .int .i64 0]) rfl (Mur.results_dig rfl _ _ w.heap.size 30 _ (0, 0) _ (.int .i64 0) (by kernel_rfl) hb2 Tryd.underlying30 rfl (by kernel_rfl) (by kernel_rfl)) ?_
    have kk2 := Wk.Chg.step kk1 ch2 ⟨.inr (by omega), trivial⟩
    exact ⟨Mur.z32, Go.Lib.hid (Mur.sumL_no hpre1).symm, rfl, by rw [Mur.belowL_no hpre1]; rfl, kk2⟩
  · rintro _ _ ⟨rfl, rfl⟩
    refine ⟨_, rfl, ?_⟩
    refine Wk.rPure 5 (some 15) (.bool false) rfl rfl (by kernel_rfl) (by kernel_rfl) ?_
    refine Wk.rPure 6 (some 16) (.bool false) rfl rfl (by kernel_rfl) (by kernel_rfl) ?_
    refine Wk.rEnd 7 rfl ?_
    refine Wk.nxt ?_
    refine wp_cond_false (by kernel_rfl) ?_
    refine wp_skip ?_
    refine Wk.nxt ?_
    refine wp_seq ?_
    refine Wk.reg ?_
    refine Wk.rEx 0 (some 6) _ rfl rfl (by kernel_rfl) (Wk.new_ex (.pointer (some ⟨W1.heap.size, 0, none⟩)) #[.slice none 0 0] 83 (by kernel_rfl)) ?_
    rintro _ W3 ⟨rfl, hb3, ch3, sz2⟩
    have zz3 := ch3.size
    refine Wk.rEnd 1 rfl ?_
    refine Wk.nxt ?_
    refine wp_seq ?_
    refine wp_seq ?_
    refine Wk.reg ?_
    refine Wk.rPure 0 (some 18) (.pointer (some ⟨g, 0, none⟩)) rfl rfl (by kernel_rfl) (by kernel_rfl) ?_
    refine Wk.rPure 1 (some 19) (.slice PA pn pc) rfl rfl (by kernel_rfl) (by kernel_rfl) ?_
    refine Wk.rCall 2 (some 20) 42 [.tmp 18, .tmp 19] #[24, 38] [.pointer (some ⟨g, 0, none⟩), .slice PA pn pc] rfl rfl (by kernel_rfl) rfl (by kernel_rfl) (by kernel_rfl) ?_
    refine (below_any g PA pn pc W3).mono ?_
    rintro _ W4 ⟨bq1, bq2, rfl, hbq1, hbq2, hzq1, hzq2, hzq3, ch4⟩
    have zz4 := ch4.size
    refine ⟨_, rfl, ?_⟩
    refine Wk.rEnd 3 rfl ?_
    refine Wk.nxt ?_
    refine wp_block ?_
    have kk3 := Wk.Chg.step kk1 ch3 trivial
    have kk4 := Wk.Chg.step kk3 ch4 trivial
    have hD1 := Mur.SetF.chg h ch1 (fun s hs => trivial)
    have hD2 := Mur.SetF.chg hD1 ch3 (fun s hs => trivial)
    have hD3 := Mur.SetF.chg hD2 ch4 (fun s hs => trivial)
    have hseq1 := below_seq lo L g F p PA pn pc bq1 bq2 W4 hD3 (Mur.byt_chg hb kk4 (fun g off e hl => trivial)) (by omega) hbq1 hbq2
    have hok_ : ∀ y_, y_ ∈ Mur.belowL p L → Mur.may y_.n := fun y_ hy_ => hMay_ y_ (Mur.belowL_sub hy_)
    have hbll_ := Mur.belowL_len p L
    have hFw := hseq1.1
    have hFb_ : ∀ k_, k_ ∈ (bq1 :: bq2 :: (F ++ Mur.pblk PA pn)) → k_ ≠ W1.heap.size := fun k_ hk_ => by
      simp only [List.mem_cons, List.mem_append] at hk_
      rcases hk_ with rfl | rfl | hk_ | hk_
      · omega
      · omega
      · have := hM_ k_ hk_; omega
      · have := Mur.pblk_lt hb k_ hk_; omega
    refine Wk.range (hseq1) (by kernel_rfl) (fun _ _ => by kernel_rfl) (fun x => rfl) (fun pre W' => ∃ A n c, W'.heap[W1.heap.size]? = some (.cells #[.slice A n c] 83 (0, 0)) ∧ Mur.PartsA W' W4.heap.size W4.heap.size 38 A n c pre ∧ Wk.Chg [W1.heap.size] W4 W' ∧ W'.heap[w.heap.size]? = some (.cells #[.int .u8 0, .int .u8 0, .int .u8 0, .int .u8 0, .int .u8 0, .int .u8 0, .int .u8 0, .int .u8 0, .int .u8 0, .int .u8 0, .int .u8 0, .int .u8 0, .int .u8 0, .int .u8 0, .int .u8 0, .int .u8 0, .int .u8 0, .int .u8 0, .int .u8 0, .int .u8 0, .int .u8 0, .int .u8 0, .int .u8 0, .int .u8 0, .int .u8 0, .int .u8 0, .int .u8 0, .int .u8 0, .int .u8 0, .int .u8 0, .int .u8 0, .int .u8 0] 30 (0, 0))) ?_ ?_ ?_ ?_ ?_
    · rintro pre A1_ A2_ ⟨A, n, c, h1, h2, h3, hE0⟩ hc
      exact ⟨A, n, c, hc.hp h1 trivial, h2.chg hc (Nat.le_refl _) (fun _ _ _ _ => trivial), h3.step hc trivial, hc.hp hE0 trivial⟩
    · rintro pre A1_ A2_ r_ o_ ⟨A, n, c, h1, h2, h3, hE0⟩ hr ho hoc hc
      exact ⟨A, n, c, hc.hp h1 ⟨Mur.cells_ne h1 ho hoc, trivial⟩, h2.chg hc (Nat.le_refl _) (fun q _ _ k_ => ⟨Mur.off_noncells ho hoc k_, trivial⟩), h3.step hc ⟨.inr hr, trivial⟩, hc.hp hE0 ⟨Mur.cells_ne hE0 ho hoc, trivial⟩⟩
    · exact ⟨none, 0, 0, (Wk.Chg.hp ch4 hb3 trivial), Mur.partsA_nil _ _ _ _, (Wk.Chg.refl _).more (by simp), (Wk.Chg.hp ch4 (Wk.Chg.hp ch3 hb1 trivial) trivial)⟩
    · intro lz pre x post A1 hsp hI hwl hlA hlz
      obtain ⟨A, n, c, hIp, hIo, hIc, hE0⟩ := hI
      have hlhE0_ := (Array.getElem?_eq_some_iff.1 hE0).1
      have hzI_ := hIc.size
      have hIlen := hIo.len
      have hInc := hIo.nc
      have hbl_ := (Array.getElem?_eq_some_iff.1 hIp).1
      have hbz := Mur.cells_ne' hIp hlz
      have hpl_ : pre.length + 1 ≤ 200 := by have := congrArg List.length hsp; simp at this; omega
      have hbzhE0 := Mur.cells_ne' hE0 hlz
      have hmx_ : Mur.may x.n := hok_ x (by rw [hsp]; simp)
      refine Wk.regI ?_
      refine Wk.iEx 0 (some 7) _ rfl rfl rfl (by kernel_rfl) (Wk.new_ex (.pointer (some ⟨A1.heap.size, 0, none⟩)) #[.int .u8 0, .int .u8 0, .int .u8 0, .int .u8 0, .int .u8 0, .int .u8 0, .int .u8 0, .int .u8 0, .int .u8 0, .int .u8 0, .int .u8 0, .int .u8 0, .int .u8 0, .int .u8 0, .int .u8 0, .int .u8 0, .int .u8 0, .int .u8 0, .int .u8 0, .int .u8 0, .int .u8 0, .int .u8 0, .int .u8 0, .int .u8 0, .int .u8 0, .int .u8 0, .int .u8 0, .int .u8 0, .int .u8 0, .int .u8 0, .int .u8 0, .int .u8 0, .int .u8 0, .int .u8 0, .int .u8 0, .int .u8 0, .int .u8 0, .int .u8 0, .int .u8 0, .int .u8 0, .int .u8 0, .int .u8 0, .int .u8 0, .int .u8 0, .int .u8 0, .int .u8 0, .int .u8 0, .int .u8 0, .int .u8 0, .int .u8 0, .int .u8 0, .int .u8 0, .int .u8 0, .int .u8 0, .int .u8 0, .int .u8 0, .int .u8 0, .int .u8 0, .int .u8 0, .int .u8 0, .int .u8 0, .int .u8 0, .int .u8 0, .int .u8 0, .int .i64 0, .int .u8 0, .int .u8 0, .int .u8 0, .int .u8 0, .int .u8 0, .int .u8 0, .int .u8 0, .int .u8 0, .int .u8 0, .int .u8 0, .int .u8 0, .int .u8 0, .int .u8 0, .int .u8 0, .int .u8 0, .int .u8 0, .int .u8 0, .int .u8 0, .int .u8 0, .int .u8 0, .int .u8 0, .int .u8 0, .int .u8 0, .int .u8 0, .int .u8 0, .int .u8 0, .int .u8 0, .int .u8 0, .int .u8 0, .int .u8 0, .int .u8 0, .int .u8 0] 32 (by kernel_rfl)) ?_
      rintro _ W5 ⟨rfl, hb4, ch5, sz3⟩
      have zz5 := ch5.size
      rw [← Mur.attC_zero] at hb4
      refine Wk.iExS 1 none _ rfl rfl rfl (by kernel_rfl) (Mur.storeArr 32 (.tmp 7) (.tmp 21) rfl A1.heap.size (by kernel_rfl) (Mur.attC x.k x.r x.n x.t).toArray 97 (Mur.attC_size x.hk x.hr x.ht) Mur.attC_all (by kernel_rfl) (by kernel_rfl) 32 ((Mur.attC Mur.z32 Mur.z32 0 Mur.z32).toArray) hb4 (Mur.attC_size rfl rfl rfl)) ?_
      rintro W6 ⟨hb5, ch6⟩
      have zz6 := ch6.size
      refine Wk.iEnd 2 rfl ?_
      refine Wk.nxt ?_
      have kk5 : Wk.Chg [] A1 W5 := Wk.Chg.step ((Wk.Chg.refl _).more (by simp)) ch5 trivial
      have kk6 := Wk.Chg.step kk5 ch6 ⟨.inr (by omega), trivial⟩
      refine ⟨kk6, ?_⟩
      have hlz2_ := hlz.imp (fun _ h_ => Wk.Chg.hp kk6 h_ trivial)
      intro A2 hch2
      have zz7 := hch2.size
      refine wpIn_block ?_
      refine wpIn_seq ?_
      refine Wk.regI ?_
      refine Wk.iPure 0 (some 23) (.agg ((Mur.attC x.k x.r x.n x.t).toArray)) rfl rfl rfl (by kernel_rfl) (Mur.loadArr 32 (.tmp 7) rfl _ Tryd.underlying32 rfl A1.heap.size (by kernel_rfl) (Mur.attC x.k x.r x.n x.t).toArray 97 (Mur.attC_size x.hk x.hr x.ht) (by kernel_rfl) 32 (0, 0) (Wk.Chg.hp hch2 hb5 ⟨by omega, trivial⟩)) ?_
      refine Wk.iCall 1 (some 24) 38 [.tmp 23] #[32] [.agg ((Mur.attC x.k x.r x.n x.t).toArray)] rfl rfl rfl (by kernel_rfl) rfl (by kernel_rfl) (by kernel_rfl) ?_
      refine (Bytes_ok x.k x.r x.t x.n x.hk x.hr x.ht A2 hmx_).mono ?_
      rintro _ W7 ⟨qr1, cr1, RB1, hRB1, rfl, hbr1, hq1, hq2, ch7⟩
      have zz8 := ch7.size
      have hBt1 : ∀ g off, (some ⟨qr1, 0, none⟩ : Option Addr) = some ⟨g, off, none⟩ → A2.heap.size ≤ g ∧ g < W7.heap.size := fun g off e => by cases e; exact hq1
      refine ⟨_, rfl, ?_⟩
      refine Wk.iPure 2 (some 22) (.tuple #[.slice (some ⟨qr1, 0, none⟩) 104 cr1, .int .i64 0]) rfl rfl rfl (by kernel_rfl) (by kernel_rfl) ?_
      refine Wk.iPure 3 (some 25) (.slice (some ⟨qr1, 0, none⟩) 104 cr1) rfl rfl rfl (by kernel_rfl) (by kernel_rfl) ?_
      refine Wk.iPure 4 (some 26) (.int .i64 0) rfl rfl rfl (by kernel_rfl) (by kernel_rfl) ?_
      refine Wk.iPure 5 (some 8) (.slice (some ⟨qr1, 0, none⟩) 104 cr1) rfl rfl rfl (by kernel_rfl) (by kernel_rfl) ?_
      refine Wk.iPure 6 (some 9) (.int .i64 0) rfl rfl rfl (by kernel_rfl) (by kernel_rfl) ?_
      refine Wk.iEnd 7 rfl ?_
      refine Wk.nxt ?_
      refine Wk.regI ?_
      refine Wk.iPure 0 (some 27) (.slice A n c) rfl rfl rfl (by kernel_rfl) (Wk.load1 83 (.tmp 6) rfl (by kernel_rfl) ⟨W1.heap.size, 0, none⟩ (by kernel_rfl) (.slice A n c) ((cell_of_row _ _ 0 _ _ _ (Wk.Chg.hp ch7 (Wk.Chg.hp hch2 (Wk.Chg.hp ch6 (Wk.Chg.hp ch5 hIp trivial) ⟨by omega, trivial⟩) ⟨by omega, trivial⟩) trivial)).trans rfl)) ?_
      refine Wk.iPure 1 (some 28) (.slice (some ⟨qr1, 0, none⟩) 104 cr1) rfl rfl rfl (by kernel_rfl) (by kernel_rfl) ?_
      refine Wk.iEx 2 (some 29) _ rfl rfl rfl (by kernel_rfl) (Wk.new_ex (.slice (some ⟨W7.heap.size, 0, none⟩) 1 1) #[.slice (some ⟨qr1, 0, none⟩) 104 cr1] 38 (by kernel_rfl)) ?_
      rintro _ W8 ⟨rfl, hb6, ch8, sz4⟩
      have zz9 := ch8.size
      have ow1 := (Mur.PartsA.chg hIo kk6 (Nat.le_refl _) (fun _ _ _ _ => trivial))
      have ow2 := (Mur.PartsA.chg ow1 hch2 (Nat.le_refl _) (fun q_ _ _ k_ => ⟨Mur.off_loop hlz2_ k_, trivial⟩))
      have ow3 := (Mur.PartsA.chg ow2 ch7 (Nat.le_refl _) (fun _ _ _ _ => trivial))
      have ow4 := (Mur.PartsA.chg ow3 ch8 (Nat.le_refl _) (fun _ _ _ _ => trivial))
      refine Wk.iEx 3 (some 30) _ rfl rfl rfl (by kernel_rfl) (Mur.appendP (.tmp 27) (.tmp 29) 83 38 rfl Tryd.underlying83 slI W4.heap.size W4.heap.size A n c pre W7.heap.size qr1 cr1 x (0, 0) 38 (by kernel_rfl) (by kernel_rfl) ow4 hb6 (by rw [show x.raw = RB1 from hRB1.out.symm]; exact (Mur.byt_chg hbr1 ch8 (fun g off e hl => trivial))) ⟨by omega, by omega⟩ (by omega) (by unfold Go.maxLen; omega) (fun e_ => by have := hIo.lt _ e_; omega) (by omega) (by omega)) ?_
      rintro _ W10 ⟨AA1, nn1, rfl, ow5, ch9⟩
      have zz10 := ch9.size
      refine Wk.iExS 4 none _ rfl rfl rfl (by kernel_rfl) (Wk.store1 83 (.tmp 6) (.tmp 30) rfl (by kernel_rfl) W1.heap.size 0 (by kernel_rfl) (.slice AA1 (n + 1) nn1) (by kernel_rfl) rfl 83 #[.slice A n c] (Wk.Chg.hp ch9 (Wk.Chg.hp ch8 (Wk.Chg.hp ch7 (Wk.Chg.hp hch2 (Wk.Chg.hp ch6 (Wk.Chg.hp ch5 hIp trivial) ⟨by omega, trivial⟩) ⟨by omega, trivial⟩) trivial) trivial) (Wk.off_blk (fun gz hgz => by have := hIo.lt gz hgz; omega))) (by simp)) ?_
      rintro W11 ⟨hb7, ch10⟩
      replace hb7 : W11.heap[W1.heap.size]? = some (.cells #[.slice AA1 (n + 1) nn1] 83 (0, 0)) := hb7
      have zz11 := ch10.size
      refine Wk.iEnd 5 rfl ?_
      refine Wk.inN ?_
      have kk7 : Wk.Chg ([W1.heap.size] ++ Wk.blk (.slice A n c)) A2 W7 := Wk.Chg.step ((Wk.Chg.refl _).more (by simp)) ch7 trivial
      have kk8 := Wk.Chg.step kk7 ch8 trivial
      have kk9 := Wk.Chg.step kk8 ch9 (Mur.newOr_iff.2 (fun t ht => .inl (List.mem_append_right _ ht)))
      have kk10 := Wk.Chg.step kk9 ch10 ⟨.inl (by simp), trivial⟩
      have kk11 := Wk.Chg.step hIc ch5 trivial
      have kk12 := Wk.Chg.step kk11 ch6 ⟨.inr (by omega), trivial⟩
      have kk13 := Wk.Chg.step kk12 hch2 ⟨.inr (by omega), trivial⟩
      have kk14 := Wk.Chg.step kk13 ch7 trivial
      have kk15 := Wk.Chg.step kk14 ch8 trivial
      have kk16 := Wk.Chg.step kk15 ch9 (Wk.newOr_blk (fun g hg => by have := hIo.lt g hg; omega))
      have kk17 := Wk.Chg.step kk16 ch10 ⟨.inl (by simp), trivial⟩
      have ow6 := (Mur.PartsA.chg ow5 ch10 (Nat.le_refl _) (fun q_ k1_ _ _ => ⟨by omega, trivial⟩))
      refine Wk.roundN _ kk10 (fun s_ hs_ hlt_ => ?_) (fun k_ hk_ => ⟨hFb_ k_ hk_, Wk.off_blk (fun q hq => by have := hIo.lt q hq; have := hFw k_ hk_; omega)⟩) ⟨_, _, _, hb7, ow6, kk17, (Wk.Chg.hp ch10 (Wk.Chg.hp ch9 (Wk.Chg.hp ch8 (Wk.Chg.hp ch7 (Wk.Chg.hp hch2 (Wk.Chg.hp ch6 (Wk.Chg.hp ch5 hE0 trivial) ⟨by omega, trivial⟩) ⟨by omega, trivial⟩) trivial) trivial) (Wk.off_blk (fun gz hgz => by have := hIo.lt gz hgz; omega))) ⟨by omega, trivial⟩)⟩
      rcases List.mem_cons.1 hs_ with rfl | hs_
      · exact ⟨_, (hch2.hp (ch6.hp (ch5.hp hIp trivial) ⟨by omega, trivial⟩) ⟨hbz, trivial⟩), rfl⟩
      · exact Mur.PartsA.cells (Mur.PartsA.chg (Mur.PartsA.chg hIo kk6 (Nat.le_refl _) (fun _ _ _ _ => trivial)) hch2 (Nat.le_refl _) (fun q_ _ _ k_ => ⟨Mur.off_loop hlz2_ k_, trivial⟩)) (Mur.blk_mem hs_)
    · intro D W9 hI hwD hKD
      obtain ⟨A, n, c, hIp, hIo, hIc, hE0⟩ := hI
      have hlhE0_ := (Array.getElem?_eq_some_iff.1 hE0).1
      have hzI_ := hIc.size
      have hIlen := hIo.len
      have hInc := hIo.nc
      have hbl_ := (Array.getElem?_eq_some_iff.1 hIp).1
      have hbD := Mur.cells_ne hIp hKD rfl
      have hDl := (Array.getElem?_eq_some_iff.1 hKD).1
      have hbDhE0 := Mur.cells_ne hE0 hKD rfl
      have hW9 : Wk.Chg [] w W9 := Wk.Chg.step kk4 hIc ⟨.inr (by omega), trivial⟩
      refine Wk.inN ?_
      refine Wk.nxt ?_
      refine wp_seq ?_
      refine Wk.dReg ([w.heap.size]) (by kernel_rfl) ?_
      intro W12 ch11 sz5
      have zz12 := ch11.size
      have sS1 : Wk.Chg ([w.heap.size]) W12 W12 := (Wk.Chg.refl _).more (by simp)
      refine Wk.dVal 0 (some 31) (.slice A n c) rfl rfl (by kernel_rfl) (by kernel_rfl) (by kernel_rfl) (fun _ _ _ h => h) (by kernel_rfl) (fun w' hw' => (Wk.load1 83 (.tmp 6) rfl (by kernel_rfl) ⟨W1.heap.size, 0, none⟩ (by kernel_rfl) (.slice A n c) ((cell_of_row _ _ 0 _ _ _ (Wk.Chg.hp hw' (Wk.Chg.hp ch11 hIp trivial) ⟨by omega, trivial⟩)).trans rfl))) sS1 ?_
      refine Wk.dVal 2 (some 33) (.slice A n c) rfl rfl (by kernel_rfl) (by kernel_rfl) (by kernel_rfl) (fun _ _ _ h => h) (by kernel_rfl) (fun w' hw' => (Wk.load1 83 (.tmp 6) rfl (by kernel_rfl) ⟨W1.heap.size, 0, none⟩ (by kernel_rfl) (.slice A n c) ((cell_of_row _ _ 0 _ _ _ (Wk.Chg.hp hw' (Wk.Chg.hp ch11 hIp trivial) ⟨by omega, trivial⟩)).trans rfl))) sS1 ?_
      refine Wk.dVal 3 (some 34) (.int .i64 ((n : Nat) : Int)) rfl rfl (by kernel_rfl) (by kernel_rfl) (by kernel_rfl) (fun _ _ _ h => h) (by kernel_rfl) (fun w' hw' => by kernel_rfl) sS1 ?_
      refine Wk.dOp 1 (by kernel_rfl) ?_
      refine Wk.oCall (some 32) 43 [.const (.int .u8 32), .tmp 31] #[5, 83] [.int .u8 32, .slice A n c] rfl rfl (by kernel_rfl) rfl (by kernel_rfl) (by kernel_rfl) ?_
      have ow7 := (Mur.PartsA.chg hIo ch11 (Nat.le_refl _) (fun _ _ _ _ => trivial))
      obtain ⟨Sg1, hSg1, hSf1⟩ := Mur.PartsA.segs ow7
      have hSf1l : (Mur.flat Sg1).length ≤ 200 * 104 := by rw [hSf1, Mur.raws_length]; have := ow7.len; omega
      have kk18 := Wk.Chg.step hW9 ch11 trivial
      refine (Parts_any 32 Sg1 A n c W12 (HV.out.below (Wk.Chg.below0 kk18)) hSg1 (by omega) (by omega)).mono ?_
      rintro _ W13 ⟨dd1, hd1, hdl1, rfl, ch12⟩
      have zz13 := ch12.size
      have sS2 := Wk.Chg.step sS1 ch12 trivial
      refine ⟨_, rfl, sS2, ?_⟩
      refine Wk.dOp 4 (by kernel_rfl) ?_
      refine Wk.oExS none _ rfl rfl (by kernel_rfl) (Mur.storeAll 30 (.tmp 4) (.tmp 32) rfl w.heap.size (by kernel_rfl) dd1 32 hdl1 (by kernel_rfl) (by kernel_rfl) 30 #[.int .u8 0, .int .u8 0, .int .u8 0, .int .u8 0, .int .u8 0, .int .u8 0, .int .u8 0, .int .u8 0, .int .u8 0, .int .u8 0, .int .u8 0, .int .u8 0, .int .u8 0, .int .u8 0, .int .u8 0, .int .u8 0, .int .u8 0, .int .u8 0, .int .u8 0, .int .u8 0, .int .u8 0, .int .u8 0, .int .u8 0, .int .u8 0, .int .u8 0, .int .u8 0, .int .u8 0, .int .u8 0, .int .u8 0, .int .u8 0, .int .u8 0, .int .u8 0] (Wk.Chg.hp ch12 (Wk.Chg.hp ch11 hE0 trivial) trivial) rfl) ?_
      rintro W14 ⟨hb8, ch13⟩
      have zz14 := ch13.size
      have sS3 := Wk.Chg.step sS2 ch13 ⟨.inl (by simp), trivial⟩
      refine ⟨sS3, ?_⟩
      refine Wk.dVal 5 (some 5) (.int .i64 ((n : Nat) : Int)) rfl rfl (by kernel_rfl) (by kernel_rfl) (by kernel_rfl) (fun _ _ _ h => h) (by kernel_rfl) (fun w' hw' => by kernel_rfl) sS3 ?_
      refine Wk.dEnd (by kernel_rfl) ?_
      refine Wk.nxt ?_
      refine wp_ret ?_
      refine Wk.npR ?_
      refine Wk.retM D rfl (Wk.Chg.hp ch13 (Wk.Chg.hp ch12 (Wk.Chg.hp ch11 hKD trivial) trivial) ⟨by omega, trivial⟩) ?_
      intro W15 ch14
      have zz15 := ch14.size
      have hd_ : dd1 = Mur.sumL p L := by rw [hd1.out, hSf1, Mur.sumL_ok hpre1]; rfl
      have hn_ : (Mur.belowL p L).length = n := hIlen
      have kk19 := Wk.Chg.step kk18 ch12 trivial
      have kk20 := Wk.Chg.step kk19 ch13 ⟨.inr (by omega), trivial⟩
      have kk21 := Wk.Chg.step kk20 ch14 ⟨.inr (by omega), trivial⟩
      refine ⟨.tuple #[.agg ((b8s dd1).toArray), .int .i64 ((n : Nat) : Int)], Mur.results_dig rfl _ _ w.heap.size 30 _ (0, 0) _ (.int .i64 ((n : Nat) : Int)) (by kernel_rfl) (Wk.Chg.hp ch14 hb8 ⟨by omega, trivial⟩) Tryd.underlying30 rfl (by rw [List.size_toArray, Mur.b8s_length, hdl1]; kernel_rfl) (by kernel_rfl), ⟨dd1, Go.Lib.hid hd_, hdl1, ?_, kk21⟩⟩
      rw [hn_]
end Go.Proofs.YtfhneademopciaaDoor
namespace Go.Proofs.YtfhneademopciaaDoor
open Go.RowKit
open Mur (b8s Byt Own8 Seg Segs flat cutA attC Att SlA OwnA rowA)
set_option maxRecDepth 100000
set_option maxHeartbeats 4000000
theorem Less20_any (x y : Att) (w : World) : Calls Tryd.prog 25 #[.agg (attC x.k x.r x.n x.t).toArray, .agg (attC y.k y.r y.n y.t).toArray] w fun e w' => e = .returned (.bool (decide (x.lt y))) ∧ Wk.Chg [] w w' := by
  refine calls_of_wp Tryd.func25 rfl ?_
  refine wp_seq ?_
  refine Wk.reg ?_
  by_cases hls : x.lt y
  · refine Wk.rEx 0 (some 2) _ rfl rfl (by kernel_rfl) (Wk.new_ex (.pointer (some ⟨w.heap.size, 0, none⟩)) ((Mur.attC x.k x.r x.n x.t).toArray) 32 (by kernel_rfl)) ?_
    rintro _ W1 ⟨rfl, hb1, ch1, sz1⟩
    have zz1 := ch1.size
    refine Wk.rEx 1 (some 3) _ rfl rfl (by kernel_rfl) (Wk.new_ex (.pointer (some ⟨W1.heap.size, 0, none⟩)) ((Mur.attC y.k y.r y.n y.t).toArray) 32 (by kernel_rfl)) ?_
    rintro _ W2 ⟨rfl, hb2, ch2, sz2⟩
    have zz2 := ch2.size
    refine Wk.rPure 2 (some 4) (.bool false) rfl rfl (by kernel_rfl) (by kernel_rfl) ?_
    refine Wk.rEnd 3 rfl ?_
    refine Wk.nxt ?_
    refine wp_seq ?_
    refine Wk.dReg ([]) (by kernel_rfl) ?_
    intro W3 ch3 sz3
    have zz3 := ch3.size
    have sS1 : Wk.Chg ([]) W3 W3 := (Wk.Chg.refl _).more (by simp)
    refine Wk.dVal 0 (some 5) (.agg ((Mur.attC x.k x.r x.n x.t).toArray)) rfl rfl (by kernel_rfl) (by kernel_rfl) (by kernel_rfl) (fun _ _ _ h => h) (by kernel_rfl) (fun w' hw' => (Mur.loadArr 32 (.tmp 2) rfl _ Tryd.underlying32 rfl w.heap.size (by kernel_rfl) (Mur.attC x.k x.r x.n x.t).toArray 97 (Mur.attC_size x.hk x.hr x.ht) (by kernel_rfl) 32 (0, 0) (Wk.Chg.hp hw' (Wk.Chg.hp ch3 (Wk.Chg.hp ch2 hb1 trivial) trivial) trivial))) sS1 ?_
    refine Wk.dVal 3 (some 8) (.agg ((Mur.attC y.k y.r y.n y.t).toArray)) rfl rfl (by kernel_rfl) (by kernel_rfl) (by kernel_rfl) (fun _ _ _ h => h) (by kernel_rfl) (fun w' hw' => (Mur.loadArr 32 (.tmp 3) rfl _ Tryd.underlying32 rfl W1.heap.size (by kernel_rfl) (Mur.attC y.k y.r y.n y.t).toArray 97 (Mur.attC_size y.hk y.hr y.ht) (by kernel_rfl) 32 (0, 0) (Wk.Chg.hp hw' (Wk.Chg.hp ch3 hb2 trivial) trivial))) sS1 ?_
    refine Wk.dOp 1 (by kernel_rfl) ?_
    refine Wk.oCall (some 6) 48 [.tmp 5] #[32] [.agg ((Mur.attC x.k x.r x.n x.t).toArray)] rfl rfl (by kernel_rfl) rfl (by kernel_rfl) (by kernel_rfl) ?_
    refine (Rbytes_any x.k x.r x.t x.n x.hk x.hr x.ht W3).mono ?_
    rintro _ W4 ⟨qr1, cr1, RB1, hRB1, rfl, hbr1, hq1, hq2, ch4⟩
    have zz4 := ch4.size
    have hBt1 : ∀ g off, (some ⟨qr1, 0, none⟩ : Option Addr) = some ⟨g, off, none⟩ → W3.heap.size ≤ g ∧ g < W4.heap.size := fun g off e => by cases e; exact hq1
    have sS2 := Wk.Chg.step sS1 ch4 trivial
    refine ⟨_, rfl, sS2, ?_⟩
    refine Wk.dOp2 2 4 (by kernel_rfl) ?_ ?_
    · refine Wk.oVal (some 7) (.string (Mur.str RB1)) rfl rfl (by kernel_rfl) (Mur.run_str 38 9 (.tmp 6) 5 rfl Tryd.underlying38 Tryd.underlying5 Tryd.underlying9 (some ⟨qr1, 0, none⟩) 104 cr1 RB1 (by kernel_rfl) hbr1) ?_
      refine ⟨sS2, ?_⟩
      refine Wk.dOp 4 (by kernel_rfl) ?_
      refine Wk.oCall (some 9) 48 [.tmp 8] #[32] [.agg ((Mur.attC y.k y.r y.n y.t).toArray)] rfl rfl (by kernel_rfl) rfl (by kernel_rfl) (by kernel_rfl) ?_
      refine (Rbytes_any y.k y.r y.t y.n y.hk y.hr y.ht W4).mono ?_
      rintro _ W5 ⟨qr2, cr2, RB2, hRB2, rfl, hbr2, hq3, hq4, ch5⟩
      have zz5 := ch5.size
      have hBt2 : ∀ g off, (some ⟨qr2, 0, none⟩ : Option Addr) = some ⟨g, off, none⟩ → W4.heap.size ≤ g ∧ g < W5.heap.size := fun g off e => by cases e; exact hq3
      have sS3 := Wk.Chg.step sS2 ch5 trivial
      refine ⟨_, rfl, sS3, ?_⟩
      refine Wk.dOp 5 (by kernel_rfl) ?_
      refine Wk.oVal (some 10) (.string (Mur.str RB2)) rfl rfl (by kernel_rfl) (Mur.run_str 38 9 (.tmp 9) 5 rfl Tryd.underlying38 Tryd.underlying5 Tryd.underlying9 (some ⟨qr2, 0, none⟩) 104 cr2 RB2 (by kernel_rfl) hbr2) ?_
      refine ⟨sS3, ?_⟩
      refine Wk.dVal 6 (some 11) (.bool true) rfl rfl (by kernel_rfl) (by kernel_rfl) (by kernel_rfl) (fun _ _ _ h => h) (by kernel_rfl) (fun w' hw' => (Wk.boolT (b := decide (Go.Lib.compareBytes RB1 RB2 < 0)) (decide_eq_true (by rw [hRB1.out, hRB2.out]; exact hls)) (Mur.strlss 9 9 (.tmp 7) (.tmp 10) rfl RB1 RB2 (by kernel_rfl) (by kernel_rfl)))) sS3 ?_
      refine Wk.dVal 7 (some 4) (.bool true) rfl rfl (by kernel_rfl) (by kernel_rfl) (by kernel_rfl) (fun _ _ _ h => h) (by kernel_rfl) (fun w' hw' => by kernel_rfl) sS3 ?_
      refine Wk.dEnd (by kernel_rfl) ?_
      refine Wk.nxt ?_
      refine wp_ret ?_
      have kk1 : Wk.Chg [] w W1 := Wk.Chg.step ((Wk.Chg.refl _).more (by simp)) ch1 trivial
      have kk2 := Wk.Chg.step kk1 ch2 trivial
      have kk3 := Wk.Chg.step kk2 ch3 trivial
      have kk4 := Wk.Chg.step kk3 ch4 trivial
      have kk5 := Wk.Chg.step kk4 ch5 trivial
      refine Wk.ret (.bool true) rfl (by kernel_rfl) ?_
      exact ⟨by rw [decide_eq_true hls], kk5⟩
    · refine Wk.oCall (some 9) 48 [.tmp 8] #[32] [.agg ((Mur.attC y.k y.r y.n y.t).toArray)] rfl rfl (by kernel_rfl) rfl (by kernel_rfl) (by kernel_rfl) ?_
      refine (Rbytes_any y.k y.r y.t y.n y.hk y.hr y.ht W4).mono ?_
      rintro _ W6 ⟨qr3, cr3, RB3, hRB3, rfl, hbr3, hq5, hq6, ch6⟩
      have zz6 := ch6.size
      have hBt3 : ∀ g off, (some ⟨qr3, 0, none⟩ : Option Addr) = some ⟨g, off, none⟩ → W4.heap.size ≤ g ∧ g < W6.heap.size := fun g off e => by cases e; exact hq5
      have sS4 := Wk.Chg.step sS2 ch6 trivial
      refine ⟨_, rfl, sS4, ?_⟩
      refine Wk.dOp2 2 5 (by kernel_rfl) ?_ ?_
      · refine Wk.oVal (some 7) (.string (Mur.str RB1)) rfl rfl (by kernel_rfl) (Mur.run_str 38 9 (.tmp 6) 5 rfl Tryd.underlying38 Tryd.underlying5 Tryd.underlying9 (some ⟨qr1, 0, none⟩) 104 cr1 RB1 (by kernel_rfl) (Mur.byt_chg hbr1 ch6 (fun g off e hl => trivial))) ?_
        refine ⟨sS4, ?_⟩
        refine Wk.dOp 5 (by kernel_rfl) ?_
        refine Wk.oVal (some 10) (.string (Mur.str RB3)) rfl rfl (by kernel_rfl) (Mur.run_str 38 9 (.tmp 9) 5 rfl Tryd.underlying38 Tryd.underlying5 Tryd.underlying9 (some ⟨qr3, 0, none⟩) 104 cr3 RB3 (by kernel_rfl) hbr3) ?_
        refine ⟨sS4, ?_⟩
        refine Wk.dVal 6 (some 11) (.bool true) rfl rfl (by kernel_rfl) (by kernel_rfl) (by kernel_rfl) (fun _ _ _ h => h) (by kernel_rfl) (fun w' hw' => (Wk.boolT (b := decide (Go.Lib.compareBytes RB1 RB3 < 0)) (decide_eq_true (by rw [hRB1.out, hRB3.out]; exact hls)) (Mur.strlss 9 9 (.tmp 7) (.tmp 10) rfl RB1 RB3 (by kernel_rfl) (by kernel_rfl)))) sS4 ?_
        refine Wk.dVal 7 (some 4) (.bool true) rfl rfl (by kernel_rfl) (by kernel_rfl) (by kernel_rfl) (fun _ _ _ h => h) (by kernel_rfl) (fun w' hw' => by kernel_rfl) sS4 ?_
        refine Wk.dEnd (by kernel_rfl) ?_
        refine Wk.nxt ?_
        refine wp_ret ?_
        have kk6 : Wk.Chg [] w W1 := Wk.Chg.step ((Wk.Chg.refl _).more (by simp)) ch1 trivial
        have kk7 := Wk.Chg.step kk6 ch2 trivial
        have kk8 := Wk.Chg.step kk7 ch3 trivial
        have kk9 := Wk.Chg.step kk8 ch4 trivial
        have kk10 := Wk.Chg.step kk9 ch6 trivial
        refine Wk.ret (.bool true) rfl (by kernel_rfl) ?_
        exact ⟨by rw [decide_eq_true hls], kk10⟩
      · refine Wk.oVal (some 10) (.string (Mur.str RB3)) rfl rfl (by kernel_rfl) (Mur.run_str 38 9 (.tmp 9) 5 rfl Tryd.underlying38 Tryd.underlying5 Tryd.underlying9 (some ⟨qr3, 0, none⟩) 104 cr3 RB3 (by kernel_rfl) hbr3) ?_
        refine ⟨sS4, ?_⟩
        refine Wk.dOp 2 (by kernel_rfl) ?_
        refine Wk.oVal (some 7) (.string (Mur.str RB1)) rfl rfl (by kernel_rfl) (Mur.run_str 38 9 (.tmp 6) 5 rfl Tryd.underlying38 Tryd.underlying5 Tryd.underlying9 (some ⟨qr1, 0, none⟩) 104 cr1 RB1 (by kernel_rfl) (Mur.byt_chg hbr1 ch6 (fun g off e hl => trivial))) ?_
        refine ⟨sS4, ?_⟩
        refine Wk.dVal 6 (some 11) (.bool true) rfl rfl (by kernel_rfl) (by kernel_rfl) (by kernel_rfl) (fun _ _ _ h => h) (by kernel_rfl) (fun w' hw' => (Wk.boolT (b := decide (Go.Lib.compareBytes RB1 RB3 < 0)) (decide_eq_true (by rw [hRB1.out, hRB3.out]; exact hls)) (Mur.strlss 9 9 (.tmp 7) (.tmp 10) rfl RB1 RB3 (by kernel_rfl) (by kernel_rfl)))) sS4 ?_
        refine Wk.dVal 7 (some 4) (.bool true) rfl rfl (by kernel_rfl) (by kernel_rfl) (by kernel_rfl) (fun _ _ _ h => h) (by kernel_rfl) (fun w' hw' => by kernel_rfl) sS4 ?_
        refine Wk.dEnd (by kernel_rfl) ?_
        refine Wk.nxt ?_
        refine wp_ret ?_
        have kk11 : Wk.Chg [] w W1 := Wk.Chg.step ((Wk.Chg.refl _).more (by simp)) ch1 trivial
        have kk12 := Wk.Chg.step kk11 ch2 trivial
        have kk13 := Wk.Chg.step kk12 ch3 trivial
        have kk14 := Wk.Chg.step kk13 ch4 trivial
        have kk15 := Wk.Chg.step kk14 ch6 trivial
        refine Wk.ret (.bool true) rfl (by kernel_rfl) ?_
        exact ⟨by rw [decide_eq_true hls], kk15⟩
  · refine Wk.rEx 0 (some 2) _ rfl rfl (by kernel_rfl) (Wk.new_ex (.pointer (some ⟨w.heap.size, 0, none⟩)) ((Mur.attC x.k x.r x.n x.t).toArray) 32 (by kernel_rfl)) ?_
    rintro _ W7 ⟨rfl, hb3, ch7, sz4⟩
    have zz7 := ch7.size
    refine Wk.rEx 1 (some 3) _ rfl rfl (by kernel_rfl) (Wk.new_ex (.pointer (some ⟨W7.heap.size, 0, none⟩)) ((Mur.attC y.k y.r y.n y.t).toArray) 32 (by kernel_rfl)) ?_
    rintro _ W8 ⟨rfl, hb4, ch8, sz5⟩
    have zz8 := ch8.size
    refine Wk.rPure 2 (some 4) (.bool false) rfl rfl (by kernel_rfl) (by kernel_rfl) ?_
    refine Wk.rEnd 3 rfl ?_
    refine Wk.nxt ?_
    refine wp_seq ?_
    refine Wk.dReg ([]) (by kernel_rfl) ?_
    intro W10 ch9 sz6
    have zz9 := ch9.size
    have sS5 : Wk.Chg ([]) W10 W10 := (Wk.Chg.refl _).more (by simp)
    refine Wk.dVal 0 (some 5) (.agg ((Mur.attC x.k x.r x.n x.t).toArray)) rfl rfl (by kernel_rfl) (by kernel_rfl) (by kernel_rfl) (fun _ _ _ h => h) (by kernel_rfl) (fun w' hw' => (Mur.loadArr 32 (.tmp 2) rfl _ Tryd.underlying32 rfl w.heap.size (by kernel_rfl) (Mur.attC x.k x.r x.n x.t).toArray 97 (Mur.attC_size x.hk x.hr x.ht) (by kernel_rfl) 32 (0, 0) (Wk.Chg.hp hw' (Wk.Chg.hp ch9 (Wk.Chg.hp ch8 hb3 trivial) trivial) trivial))) sS5 ?_
    refine Wk.dVal 3 (some 8) (.agg ((Mur.attC y.k y.r y.n y.t).toArray)) rfl rfl (by kernel_rfl) (by kernel_rfl) (by kernel_rfl) (fun _ _ _ h => h) (by kernel_rfl) (fun w' hw' => (Mur.loadArr 32 (.tmp 3) rfl _ Tryd.underlying32 rfl W7.heap.size (by kernel_rfl) (Mur.attC y.k y.r y.n y.t).toArray 97 (Mur.attC_size y.hk y.hr y.ht) (by kernel_rfl) 32 (0, 0) (Wk.Chg.hp hw' (Wk.Chg.hp ch9 hb4 trivial) trivial))) sS5 ?_
    refine Wk.dOp 1 (by kernel_rfl) ?_
    refine Wk.oCall (some 6) 48 [.tmp 5] #[32] [.agg ((Mur.attC x.k x.r x.n x.t).toArray)] rfl rfl (by kernel_rfl) rfl (by kernel_rfl) (by kernel_rfl) ?_
    refine (Rbytes_any x.k x.r x.t x.n x.hk x.hr x.ht W10).mono ?_
    rintro _ W11 ⟨qr4, cr4, RB4, hRB4, rfl, hbr4, hq7, hq8, ch10⟩
    have zz10 := ch10.size
    have hBt4 : ∀ g off, (some ⟨qr4, 0, none⟩ : Option Addr) = some ⟨g, off, none⟩ → W10.heap.size ≤ g ∧ g < W11.heap.size := fun g off e => by cases e; exact hq7
    have sS6 := Wk.Chg.step sS5 ch10 trivial
    refine ⟨_, rfl, sS6, ?_⟩
    refine Wk.dOp2 2 4 (by kernel_rfl) ?_ ?_
    · refine Wk.oVal (some 7) (.string (Mur.str RB4)) rfl rfl (by kernel_rfl) (Mur.run_str 38 9 (.tmp 6) 5 rfl Tryd.underlying38 Tryd.underlying5 Tryd.underlying9 (some ⟨qr4, 0, none⟩) 104 cr4 RB4 (by kernel_rfl) hbr4) ?_
      refine ⟨sS6, ?_⟩
      refine Wk.dOp 4 (by kernel_rfl) ?_
      refine Wk.oCall (some 9) 48 [.tmp 8] #[32] [.agg ((Mur.attC y.k y.r y.n y.t).toArray)] rfl rfl (by kernel_rfl) rfl (by kernel_rfl) (by kernel_rfl) ?_
      refine (Rbytes_any y.k y.r y.t y.n y.hk y.hr y.ht W11).mono ?_
      rintro _ W12 ⟨qr5, cr5, RB5, hRB5, rfl, hbr5, hq9, hq10, ch11⟩
      have zz11 := ch11.size
      have hBt5 : ∀ g off, (some ⟨qr5, 0, none⟩ : Option Addr) = some ⟨g, off, none⟩ → W11.heap.size ≤ g ∧ g < W12.heap.size := fun g off e => by cases e; exact hq9
      have sS7 := Wk.Chg.step sS6 ch11 trivial
      refine ⟨_, rfl, sS7, ?_⟩
      refine Wk.dOp 5 (by kernel_rfl) ?_
      refine Wk.oVal (some 10) (.string (Mur.str RB5)) rfl rfl (by kernel_rfl) (Mur.run_str 38 9 (.tmp 9) 5 rfl Tryd.underlying38 Tryd.underlying5 Tryd.underlying9 (some ⟨qr5, 0, none⟩) 104 cr5 RB5 (by kernel_rfl) hbr5) ?_
      refine ⟨sS7, ?_⟩
      refine Wk.dVal 6 (some 11) (.bool false) rfl rfl (by kernel_rfl) (by kernel_rfl) (by kernel_rfl) (fun _ _ _ h => h) (by kernel_rfl) (fun w' hw' => (Wk.boolF (b := decide (Go.Lib.compareBytes RB4 RB5 < 0)) (decide_eq_false (by rw [hRB4.out, hRB5.out]; exact hls)) (Mur.strlss 9 9 (.tmp 7) (.tmp 10) rfl RB4 RB5 (by kernel_rfl) (by kernel_rfl)))) sS7 ?_
      refine Wk.dVal 7 (some 4) (.bool false) rfl rfl (by kernel_rfl) (by kernel_rfl) (by kernel_rfl) (fun _ _ _ h => h) (by kernel_rfl) (fun w' hw' => by kernel_rfl) sS7 ?_
      refine Wk.dEnd (by kernel_rfl) ?_
      refine Wk.nxt ?_
      refine wp_ret ?_
      have kk16 : Wk.Chg [] w W7 := Wk.Chg.step ((Wk.Chg.refl _).more (by simp)) ch7 trivial
      have kk17 := Wk.Chg.step kk16 ch8 trivial
      have kk18 := Wk.Chg.step kk17 ch9 trivial
      have kk19 := Wk.Chg.step kk18 ch10 trivial
      have kk20 := Wk.Chg.step kk19 ch11 trivial
      refine Wk.ret (.bool false) rfl (by kernel_rfl) ?_
      exact ⟨by rw [decide_eq_false hls], kk20⟩
    · refine Wk.oCall (some 9) 48 [.tmp 8] #[32] [.agg ((Mur.attC y.k y.r y.n y.t).toArray)] rfl rfl (by kernel_rfl) rfl (by kernel_rfl) (by kernel_rfl) ?_
      refine (Rbytes_any y.k y.r y.t y.n y.hk y.hr y.ht W11).mono ?_
      rintro _ W13 ⟨qr6, cr6, RB6, hRB6, rfl, hbr6, hq11, hq12, ch12⟩
      have zz12 := ch12.size
      have hBt6 : ∀ g off, (some ⟨qr6, 0, none⟩ : Option Addr) = some ⟨g, off, none⟩ → W11.heap.size ≤ g ∧ g < W13.heap.size := fun g off e => by cases e; exact hq11
      have sS8 := Wk.Chg.step sS6 ch12 trivial
      refine ⟨_, rfl, sS8, ?_⟩
      refine Wk.dOp2 2 5 (by kernel_rfl) ?_ ?_
      · refine Wk.oVal (some 7) (.string (Mur.str RB4)) rfl rfl (by kernel_rfl) (Mur.run_str 38 9 (.tmp 6) 5 rfl Tryd.underlying38 Tryd.underlying5 Tryd.underlying9 (some ⟨qr4, 0, none⟩) 104 cr4 RB4 (by kernel_rfl) (Mur.byt_chg hbr4 ch12 (fun g off e hl => trivial))) ?_
        refine ⟨sS8, ?_⟩
        refine Wk.dOp 5 (by kernel_rfl) ?_
        refine Wk.oVal (some 10) (.string (Mur.str RB6)) rfl rfl (by kernel_rfl) (Mur.run_str 38 9 (.tmp 9) 5 rfl Tryd.underlying38 Tryd.underlying5 Tryd.underlying9 (some ⟨qr6, 0, none⟩) 104 cr6 RB6 (by kernel_rfl) hbr6) ?_
        refine ⟨sS8, ?_⟩
        refine Wk.dVal 6 (some 11) (.bool false) rfl rfl (by kernel_rfl) (by kernel_rfl) (by kernel_rfl) (fun _ _ _ h => h) (by kernel_rfl) (fun w' hw' => (Wk.boolF (b := decide (Go.Lib.compareBytes RB4 RB6 < 0)) (decide_eq_false (by rw [hRB4.out, hRB6.out]; exact hls)) (Mur.strlss 9 9 (.tmp 7) (.tmp 10) rfl RB4 RB6 (by kernel_rfl) (by kernel_rfl)))) sS8 ?_
        refine Wk.dVal 7 (some 4) (.bool false) rfl rfl (by kernel_rfl) (by kernel_rfl) (by kernel_rfl) (fun _ _ _ h => h) (by kernel_rfl) (fun w' hw' => by kernel_rfl) sS8 ?_
        refine Wk.dEnd (by kernel_rfl) ?_
        refine Wk.nxt ?_
        refine wp_ret ?_
        have kk21 : Wk.Chg [] w W7 := Wk.Chg.step ((Wk.Chg.refl _).more (by simp)) ch7 trivial
        have kk22 := Wk.Chg.step kk21 ch8 trivial
        have kk23 := Wk.Chg.step kk22 ch9 trivial
        have kk24 := Wk.Chg.step kk23 ch10 trivial
        have kk25 := Wk.Chg.step kk24 ch12 trivial
        refine Wk.ret (.bool false) rfl (by kernel_rfl) ?_
        exact ⟨by rw [decide_eq_false hls], kk25⟩
      · refine Wk.oVal (some 10) (.string (Mur.str RB6)) rfl rfl (by kernel_rfl) (Mur.run_str 38 9 (.tmp 9) 5 rfl Tryd.underlying38 Tryd.underlying5 Tryd.underlying9 (some ⟨qr6, 0, none⟩) 104 cr6 RB6 (by kernel_rfl) hbr6) ?_
        refine ⟨sS8, ?_⟩
        refine Wk.dOp 2 (by kernel_rfl) ?_
        refine Wk.oVal (some 7) (.string (Mur.str RB4)) rfl rfl (by kernel_rfl) (Mur.run_str 38 9 (.tmp 6) 5 rfl Tryd.underlying38 Tryd.underlying5 Tryd.underlying9 (some ⟨qr4, 0, none⟩) 104 cr4 RB4 (by kernel_rfl) (Mur.byt_chg hbr4 ch12 (fun g off e hl => trivial))) ?_
        refine ⟨sS8, ?_⟩
        refine Wk.dVal 6 (some 11) (.bool false) rfl rfl (by kernel_rfl) (by kernel_rfl) (by kernel_rfl) (fun _ _ _ h => h) (by kernel_rfl) (fun w' hw' => (Wk.boolF (b := decide (Go.Lib.compareBytes RB4 RB6 < 0)) (decide_eq_false (by rw [hRB4.out, hRB6.out]; exact hls)) (Mur.strlss 9 9 (.tmp 7) (.tmp 10) rfl RB4 RB6 (by kernel_rfl) (by kernel_rfl)))) sS8 ?_
        refine Wk.dVal 7 (some 4) (.bool false) rfl rfl (by kernel_rfl) (by kernel_rfl) (by kernel_rfl) (fun _ _ _ h => h) (by kernel_rfl) (fun w' hw' => by kernel_rfl) sS8 ?_
        refine Wk.dEnd (by kernel_rfl) ?_
        refine Wk.nxt ?_
        refine wp_ret ?_
        have kk26 : Wk.Chg [] w W7 := Wk.Chg.step ((Wk.Chg.refl _).more (by simp)) ch7 trivial
        have kk27 := Wk.Chg.step kk26 ch8 trivial
        have kk28 := Wk.Chg.step kk27 ch9 trivial
        have kk29 := Wk.Chg.step kk28 ch10 trivial
        have kk30 := Wk.Chg.step kk29 ch12 trivial
        refine Wk.ret (.bool false) rfl (by kernel_rfl) ?_
        exact ⟨by rw [decide_eq_false hls], kk30⟩
end Go.Proofs.YtfhneademopciaaDoor
namespace Go.Proofs.YtfhneademopciaaDoor
open Go.RowKit
open Mur (b8s Byt Own8 Seg Segs flat cutA attC Att SlA OwnA rowA)
set_option maxRecDepth 100000
set_option maxHeartbeats 4000000
end Go.Proofs.YtfhneademopciaaDoor
namespace Go.Proofs.YtfhneademopciaaDoor
open Go.RowKit
open Mur (b8s Byt Own8 Seg Segs flat cutA attC Att SlA OwnA rowA)
set_option maxRecDepth 100000
set_option maxHeartbeats 4000000
end Go.Proofs.YtfhneademopciaaDoor
namespace Go.Proofs.YtfhneademopciaaDoor
open Go.RowKit
open Mur (b8s Byt Own8 Seg Segs flat cutA attC Att SlA OwnA rowA msgC)
set_option maxRecDepth 100000
set_option maxHeartbeats 4000000
def Within_F1 (b : Array Value) (u2 : Value) (u7 : Value) (u8 : Value) (u9 : Value) : Act := ⟨#[b.getD 0 undef, b.getD 1 undef, u2, b.getD 3 undef, b.getD 4 undef, b.getD 5 undef, b.getD 6 undef, u7, u8, u9, b.getD 10 undef, b.getD 11 undef, b.getD 12 undef, b.getD 13 undef, b.getD 14 undef, b.getD 15 undef, b.getD 16 undef, b.getD 17 undef, b.getD 18 undef, b.getD 19 undef, b.getD 20 undef, b.getD 21 undef, b.getD 22 undef, b.getD 23 undef, b.getD 24 undef, b.getD 25 undef, b.getD 26 undef, b.getD 27 undef], []⟩
theorem CloneB_any (l : List UInt8) (A : Option Addr) (n c : Nat) (w : World) (hb : Byt w A n l) (hnil : A = none → c = 0) (hn : n ≤ 100000) : Calls Tryd.prog 75 #[.slice A n c] w fun e w' => ∃ A1 n1 c1, e = .returned (.slice A1 n1 c1) ∧ Own8 w' w.heap.size 5 A1 n1 c1 l ∧ Wk.Chg [] w w' := by
  have hbl_ := hb.1
  rcases A with _ | ad_
  · have hn0 : n = 0 := Nat.eq_zero_of_not_pos fun h_ => by obtain ⟨_, _, e_, _⟩ := hb.2 h_; cases e_
    have hc0 := hnil rfl
    subst hn0 hc0
    obtain rfl : l = [] := List.eq_nil_of_length_eq_zero hbl_
    refine calls_of_wp Tryd.func75 rfl ?_
    refine wp_seq ?_
    refine Wk.reg ?_
    refine Wk.rPure 0 (some 2) (.slice none 0 0) rfl rfl (by kernel_rfl) (by kernel_rfl) ?_
    refine Wk.rEnd 1 rfl ?_
    refine Wk.nxt ?_
    refine wp_seq ?_
    refine wp_seq ?_
    refine Wk.reg ?_
    refine Wk.rPure 0 (some 3) (.slice none 0 0) rfl rfl (by kernel_rfl) (by kernel_rfl) ?_
    refine Wk.rPure 1 (some 4) (.bool true) rfl rfl (by kernel_rfl) (by kernel_rfl) ?_
    refine Wk.rEnd 2 rfl ?_
    refine Wk.nxt ?_
    refine wp_cond_true (by kernel_rfl) ?_
    refine wp_seq ?_
    refine Wk.reg ?_
    refine Wk.rPure 0 (some 2) (.slice none 0 0) rfl rfl (by kernel_rfl) (by kernel_rfl) ?_
    refine Wk.rEnd 1 rfl ?_
    refine Wk.nxt ?_
    refine wp_ret ?_
    refine Wk.thR ?_
    refine Wk.ret (.slice none 0 0) rfl (by kernel_rfl) ?_
    exact ⟨_, _, _, rfl, Mur.own8_nil _ _ _, (Wk.Chg.refl _)⟩
  · refine calls_of_wp Tryd.func75 rfl ?_
    refine wp_seq ?_
    refine Wk.reg ?_
    refine Wk.rPure 0 (some 2) (.slice none 0 0) rfl rfl (by kernel_rfl) (by kernel_rfl) ?_
    refine Wk.rEnd 1 rfl ?_
    refine Wk.nxt ?_
    refine wp_seq ?_
    refine wp_seq ?_
    refine Wk.reg ?_
    refine Wk.rPure 0 (some 3) (.slice (some ad_) n c) rfl rfl (by kernel_rfl) (by kernel_rfl) ?_
    refine Wk.rPure 1 (some 4) (.bool false) rfl rfl (by kernel_rfl) (by kernel_rfl) ?_
    refine Wk.rEnd 2 rfl ?_
    refine Wk.nxt ?_
    refine wp_cond_false (by kernel_rfl) ?_
    refine wp_skip ?_
    refine Wk.nxt ?_
    refine wp_seq ?_
    refine Wk.reg ?_
    refine Wk.rEx 0 (some 5) _ rfl rfl (by kernel_rfl) (Wk.new_ex (.slice (some ⟨w.heap.size, 0, none⟩) 0 0) #[] 5 (by kernel_rfl)) ?_
    rintro _ W1 ⟨rfl, hb1, ch1, sz1⟩
    have zz1 := ch1.size
    refine Wk.rPure 1 (some 6) (.slice (some ad_) n c) rfl rfl (by kernel_rfl) (by kernel_rfl) ?_
    have ow1 := Mur.own8_empty hb1 (Nat.le_refl _)
    have kk1 : Wk.Chg [] w W1 := Wk.Chg.step ((Wk.Chg.refl _).more (by simp)) ch1 trivial
    refine Wk.rEx 2 (some 7) _ rfl rfl (by kernel_rfl) (Mur.append8 (.tmp 5) (.tmp 6) 38 5 rfl Tryd.underlying38 (by kernel_rfl) w.heap.size (some ⟨w.heap.size, 0, none⟩) 0 0 ([]) (some ad_) n c l (by kernel_rfl) (by kernel_rfl) ow1.own (Mur.byt_chg hb kk1 (fun g off e hl => trivial)) (fun h => by cases h) (by omega) (by omega) n (by omega) l rfl) ?_
    rintro _ W2 ⟨AA1, nn1, rfl, ow2, ch2, ha1⟩
    have zz2 := ch2.size
    have hq1 := ow2.nc
    have hq2 := ow2.cm
    refine Wk.rPure 3 (some 2) (.slice AA1 n nn1) rfl rfl (by kernel_rfl) (by kernel_rfl) ?_
    refine Wk.rEnd 4 rfl ?_
    refine Wk.nxt ?_
    refine wp_ret ?_
    have kk2 := Wk.Chg.step kk1 ch2 (Wk.newOr_blk (fun g hg => by have := ow1.lt g hg; omega))
    refine Wk.ret (.slice AA1 n nn1) rfl (by kernel_rfl) ?_
    exact ⟨_, _, _, rfl, ow2, kk2⟩
theorem within_any (x : Att) (p : List UInt8) (PA : Option Addr) (pn pc : Nat) (w : World) (hb : Byt w PA pn p) (hn : pn ≤ 64) : Calls Tryd.prog 58 #[.agg (attC x.k x.r x.n x.t).toArray, .slice PA pn pc] w fun e w' => e = .returned (.bool (Mur.under p x.k)) ∧ Wk.Chg [] w w' := by
  have hpl_ := hb.1
  refine calls_of_wp Tryd.func58 rfl ?_
  refine wp_seq ?_
  refine Wk.reg ?_
  refine Wk.rEx 0 (some 2) _ rfl rfl (by kernel_rfl) (Wk.new_ex (.pointer (some ⟨w.heap.size, 0, none⟩)) ((Mur.attC x.k x.r x.n x.t).toArray) 32 (by kernel_rfl)) ?_
  rintro _ W1 ⟨rfl, hb1, ch1, sz1⟩
  have zz1 := ch1.size
  refine Wk.rPure 1 (some 4) (.bool false) rfl rfl (by kernel_rfl) (by kernel_rfl) ?_
  refine Wk.rEnd 2 rfl ?_
  refine Wk.nxt ?_
  refine wp_seq ?_
  refine wp_seq ?_
  refine Wk.reg ?_
  refine Wk.rPure 0 (some 7) (.slice PA pn pc) rfl rfl (by kernel_rfl) (by kernel_rfl) ?_
  refine Wk.rPure 1 (some 8) (.int .i64 ((pn : Nat) : Int)) rfl rfl (by kernel_rfl) (by kernel_rfl) ?_
  refine Wk.rPure 2 (some 9) (.int .i64 0) rfl rfl (by kernel_rfl) (by kernel_rfl) ?_
  refine Wk.rEnd 3 rfl ?_
  refine Wk.nxt ?_
  refine wp_block ?_
  refine Wk.loop (fun m_ a wr => ∃ (i : Nat), m_ = pn - i ∧ a = Within_F1 a.tmps (.pointer (some ⟨w.heap.size, 0, none⟩)) (.slice PA pn pc) (.int .i64 ((pn : Nat) : Int)) (.int .i64 ((i : Nat) : Int)) ∧ i ≤ pn ∧ (∀ j, j < i → Mur.nib x.k j = p.getD j 0) ∧ wr.heap[w.heap.size]? = some (.cells (Mur.attC x.k x.r x.n x.t).toArray 32 (0, 0)) ∧ Wk.Chg [] w wr) (pn - 0) ?_ ?_
  · have kk1 : Wk.Chg [] w W1 := Wk.Chg.step ((Wk.Chg.refl _).more (by simp)) ch1 trivial
    refine ⟨0, rfl, by kernel_rfl, Nat.zero_le _, (fun j hj => by omega), hb1, kk1⟩
  · rintro mm1 aa1 W2 ⟨i, hmm1, hF1, hi, hall, hX, HB⟩
    generalize aa1.tmps = bb1 at hF1
    subst hF1
    have hzB := HB.size
    by_cases hlt : i < pn
    · obtain ⟨q2, off2, hA2, _⟩ := hb.2 (by omega)
      subst hA2
      refine wp_seq ?_
      refine Wk.reg ?_
      refine Wk.rPure 0 (some 10) (.bool true) rfl rfl (by kernel_rfl) (Wk.boolT (b := decide (((i : Nat) : Int) < ((pn : Nat) : Int))) (decide_eq_true (by omega)) (by kernel_rfl)) ?_
      refine Wk.rEnd 1 rfl ?_
      refine Wk.nxt ?_
      refine wp_seq ?_
      refine wp_cond_true (by kernel_rfl) ?_
      refine wp_skip ?_
      refine Wk.nxt ?_
      refine wp_seq ?_
      refine wp_block ?_
      refine wp_seq ?_
      refine Wk.reg ?_
      refine Wk.rPure 0 (some 11) (.int .i64 ((i : Nat) : Int)) rfl rfl (by kernel_rfl) (by kernel_rfl) ?_
      refine Wk.rPure 1 (some 12) (.pointer (some ⟨q2, off2 + i * 1, none⟩)) rfl rfl (by kernel_rfl) (Wk.index_sl 38 5 (.tmp 7) (.tmp 9) rfl Tryd.underlying38 1 (by kernel_rfl) q2 off2 pn pc i .i64 (by kernel_rfl) (by kernel_rfl) (by omega)) ?_
      refine Wk.rPure 2 (some 13) (.int .u8 (((p.getD i 0).toNat : Nat) : Int)) rfl rfl (by kernel_rfl) (Wk.load1 5 (.tmp 12) rfl (by kernel_rfl) ⟨q2, off2 + i * 1, none⟩ (by kernel_rfl) (.int .u8 (((p.getD i 0).toNat : Nat) : Int)) (Mur.byt_cell (Mur.byt_chg hb HB (fun g off e hl => trivial)) i (by omega))) ?_
      refine Wk.rPure 3 (some 5) (.int .i64 ((i : Nat) : Int)) rfl rfl (by kernel_rfl) (by kernel_rfl) ?_
      refine Wk.rPure 4 (some 6) (.int .u8 (((p.getD i 0).toNat : Nat) : Int)) rfl rfl (by kernel_rfl) (by kernel_rfl) ?_
      refine Wk.rEnd 5 rfl ?_
      refine Wk.nxt ?_
      refine wp_seq ?_
      refine Wk.reg ?_
      refine Wk.rPure 0 (some 14) (.int .i64 ((i : Nat) : Int)) rfl rfl (by kernel_rfl) (by kernel_rfl) ?_
      refine Wk.rPure 1 (some 15) (.int .i64 ((i / 2 : Nat) : Int)) rfl rfl (by kernel_rfl) (Mur.quo_nat 3 3 (.tmp 14) (.const (.int .i64 2)) rfl i 2 (by kernel_rfl) (by kernel_rfl) (by omega) (by omega)) ?_
      refine Wk.rPure 2 (some 16) (.pointer (some ⟨w.heap.size, 0, none⟩)) rfl rfl (by kernel_rfl) (by kernel_rfl) ?_
      refine Wk.rPure 3 (some 17) (.pointer (some ⟨w.heap.size, 0 + (i / 2) * 1, none⟩)) rfl rfl (by kernel_rfl) (Wk.index_arr 30 5 (.tmp 16) (.tmp 15) rfl 32 Tryd.underlying30 1 (by kernel_rfl) w.heap.size 0 (i / 2) .i64 (by kernel_rfl) (by kernel_rfl) (by omega)) ?_
      refine Wk.rPure 4 (some 18) (.int .u8 (((x.k.getD (i / 2) 0).toNat : Nat) : Int)) rfl rfl (by kernel_rfl) (Wk.load1 5 (.tmp 17) rfl (by kernel_rfl) ⟨w.heap.size, 0 + (i / 2) * 1, none⟩ (by kernel_rfl) (.int .u8 (((x.k.getD (i / 2) 0).toNat : Nat) : Int)) (show World.cell? _ ⟨_, 0 + 0 * 97 + i / 2 * 1, _⟩ = _ from Mur.SlA.kcell (Mur.slA_box x hX) (i := 0) rfl (j := i / 2) (by omega))) ?_
      refine Wk.rPure 5 (some 19) (.int .i64 ((i : Nat) : Int)) rfl rfl (by kernel_rfl) (by kernel_rfl) ?_
      refine Wk.rPure 6 (some 20) (.int .i64 ((i % 2 : Nat) : Int)) rfl rfl (by kernel_rfl) (Wk.rem_nat 3 3 (.tmp 19) (.const (.int .i64 2)) rfl i 2 (by kernel_rfl) (by kernel_rfl) (by omega)) ?_
      refine Wk.rPure 7 (some 21) (.int .i64 ((4 * (i % 2) : Nat) : Int)) rfl rfl (by kernel_rfl) (Wk.int64 (n := (4 : Int) * ((i % 2 : Nat) : Int)) (z := ((4 * (i % 2) : Nat) : Int)) (by omega) (by omega) (by omega) (by kernel_rfl)) ?_
      refine Wk.rPure 8 (some 22) (.int .i64 ((4 - 4 * (i % 2) : Nat) : Int)) rfl rfl (by kernel_rfl) (Wk.int64 (n := (4 : Int) - ((4 * (i % 2) : Nat) : Int)) (z := ((4 - 4 * (i % 2) : Nat) : Int)) (by omega) (by omega) (by omega) (by kernel_rfl)) ?_
      refine Wk.rPure 9 (some 23) (.int .u8 (((Mur.shn (x.k.getD (i / 2) 0) i).toNat : Nat) : Int)) rfl rfl (by kernel_rfl) (Mur.shr8_n 5 3 (.tmp 18) (.tmp 22) rfl (x.k.getD (i / 2) 0) i (by kernel_rfl) (by kernel_rfl)) ?_
      refine Wk.rPure 10 (some 24) (.int .u8 (((Mur.shn (x.k.getD (i / 2) 0) i &&& 15).toNat : Nat) : Int)) rfl rfl (by kernel_rfl) (Mur.and8_15 5 5 (.tmp 23) (.const (.int .u8 15)) rfl (Mur.shn (x.k.getD (i / 2) 0) i) (by kernel_rfl) (by kernel_rfl)) ?_
      refine Wk.rPure 11 (some 25) (.int .u8 (((p.getD i 0).toNat : Nat) : Int)) rfl rfl (by kernel_rfl) (by kernel_rfl) ?_
      by_cases hx1 : (((Mur.shn (x.k.getD (i / 2) 0) i &&& 15).toNat : Nat) : Int) ≠ (((p.getD i 0).toNat : Nat) : Int)
      · refine Wk.rPure 12 (some 26) (.bool true) rfl rfl (by kernel_rfl) (Wk.boolT (b := ((((Mur.shn (x.k.getD (i / 2) 0) i &&& 15).toNat : Nat) : Int) != (((p.getD i 0).toNat : Nat) : Int))) (bne_iff_ne.2 (by first | exact hx1 | omega)) (by kernel_rfl)) ?_
        refine Wk.rEnd 13 rfl ?_
        refine Wk.nxt ?_
        refine wp_cond_true (by kernel_rfl) ?_
        refine wp_seq ?_
        refine Wk.reg ?_
        refine Wk.rPure 0 (some 4) (.bool false) rfl rfl (by kernel_rfl) (by kernel_rfl) ?_
        refine Wk.rEnd 1 rfl ?_
        refine Wk.nxt ?_
        refine wp_ret ?_
        refine Wk.inR ?_
        refine Wk.thR ?_
        refine Wk.thR ?_
        refine Wk.inR ?_
        refine Wk.thR ?_
        refine Wk.ret (.bool false) rfl (by kernel_rfl) ?_
        exact ⟨by rw [Mur.under_false (p := p) (k := x.k) (i := i) (by have := hb.1; omega) (fun q_ => hx1 (by rw [Mur.nib_shn] at q_; rw [q_]))], HB⟩
      · refine Wk.rPure 12 (some 26) (.bool false) rfl rfl (by kernel_rfl) (Wk.boolF (b := ((((Mur.shn (x.k.getD (i / 2) 0) i &&& 15).toNat : Nat) : Int) != (((p.getD i 0).toNat : Nat) : Int))) (bne_eq_false_iff_eq.2 (by first | exact hx1 | omega)) (by kernel_rfl)) ?_
        refine Wk.rEnd 13 rfl ?_
        refine Wk.nxt ?_
        refine wp_cond_false (by kernel_rfl) ?_
        refine wp_skip ?_
        refine Wk.inN ?_
        refine Wk.nxt ?_
        refine Wk.reg ?_
        refine Wk.rPure 0 (some 27) (.int .i64 ((i + 1 : Nat) : Int)) rfl rfl (by kernel_rfl) (Wk.int64 (n := ((i : Nat) : Int) + 1) (z := ((i + 1 : Nat) : Int)) (by omega) (by omega) (by omega) (by kernel_rfl)) ?_
        refine Wk.rPure 1 (some 9) (.int .i64 ((i + 1 : Nat) : Int)) rfl rfl (by kernel_rfl) (by kernel_rfl) ?_
        refine Wk.rEnd 2 rfl ?_
        refine Wk.nxt ?_
        refine ⟨_, ?_, i + 1, rfl, by kernel_rfl, (by omega), (Mur.nib_step hall (by rw [Mur.nib_shn]; exact Mur.u8_cast_inj (Decidable.not_not.1 hx1))), hX, HB⟩
        · omega
    · have hun : Mur.under p x.k = true := Mur.under_all hb.1 (show pn ≤ i by omega) hall
      refine wp_seq ?_
      refine Wk.reg ?_
      refine Wk.rPure 0 (some 10) (.bool false) rfl rfl (by kernel_rfl) (Wk.boolF (b := decide (((i : Nat) : Int) < ((pn : Nat) : Int))) (decide_eq_false (by omega)) (by kernel_rfl)) ?_
      refine Wk.rEnd 1 rfl ?_
      refine Wk.nxt ?_
      refine wp_seq ?_
      refine wp_cond_false (by kernel_rfl) ?_
      refine wp_exit ?_
      refine Wk.thX ?_
      refine Wk.thX ?_
      refine Wk.inX ?_
      refine Wk.nxt ?_
      refine wp_seq ?_
      refine Wk.reg ?_
      refine Wk.rPure 0 (some 4) (.bool true) rfl rfl (by kernel_rfl) (by kernel_rfl) ?_
      refine Wk.rEnd 1 rfl ?_
      refine Wk.nxt ?_
      refine wp_ret ?_
      refine Wk.ret (.bool true) rfl (by kernel_rfl) ?_
      exact ⟨by rw [hun], HB⟩
theorem summary_any (lo : Nat) (L : List Att) (g : Nat) (F : List Nat) (p : List UInt8) (PA : Option Addr) (pn pc : Nat) (w : World) (hv : ShaVars w) (h : Mur.SetF 32 57 lo w g L F) (hb : Byt w PA pn p) (hnil : PA = none → pc = 0) (hn : pn ≤ 100000) : Calls Tryd.prog 74 #[.pointer (some ⟨g, 0, none⟩), .slice PA pn pc] w fun e w' => ∃ d P1 n1 c1, Hid (d = Mur.sumL p L) ∧ d.length = 32 ∧ e = .returned (.agg (msgC 1 P1 n1 c1 d (((Mur.belowL p L).length : Nat) : Int) none 0 0 false).toArray) ∧ Own8 w' w.heap.size 5 P1 n1 c1 p ∧ Wk.Chg [] w w' := by
  have HV := Go.Lib.hid hv
  clear hv
  have hM_ := Mur.SetF.mem h
  refine calls_of_wp Tryd.func74 rfl ?_
  refine wp_seq ?_
  refine Wk.reg ?_
  refine Wk.rEx 0 (some 4) _ rfl rfl (by kernel_rfl) (Wk.new_ex (.pointer (some ⟨w.heap.size, 0, none⟩)) #[.int .u8 0, .slice none 0 0, .int .u8 0, .int .u8 0, .int .u8 0, .int .u8 0, .int .u8 0, .int .u8 0, .int .u8 0, .int .u8 0, .int .u8 0, .int .u8 0, .int .u8 0, .int .u8 0, .int .u8 0, .int .u8 0, .int .u8 0, .int .u8 0, .int .u8 0, .int .u8 0, .int .u8 0, .int .u8 0, .int .u8 0, .int .u8 0, .int .u8 0, .int .u8 0, .int .u8 0, .int .u8 0, .int .u8 0, .int .u8 0, .int .u8 0, .int .u8 0, .int .u8 0, .int .u8 0, .int .i64 0, .slice none 0 0, .bool false] 66 (by kernel_rfl)) ?_
  rintro _ W1 ⟨rfl, hb1, ch1, sz1⟩
  have zz1 := ch1.size
  refine Wk.rEnd 1 rfl ?_
  refine Wk.nxt ?_
  refine wp_seq ?_
  refine Wk.reg ?_
  refine Wk.rPure 0 (some 8) (.pointer (some ⟨g, 0, none⟩)) rfl rfl (by kernel_rfl) (by kernel_rfl) ?_
  refine Wk.rPure 1 (some 9) (.slice PA pn pc) rfl rfl (by kernel_rfl) (by kernel_rfl) ?_
  refine Wk.rCall 2 (some 10) 16 [.tmp 8, .tmp 9] #[24, 38] [.pointer (some ⟨g, 0, none⟩), .slice PA pn pc] rfl rfl (by kernel_rfl) rfl (by kernel_rfl) (by kernel_rfl) ?_
  have kk1 : Wk.Chg [] w W1 := Wk.Chg.step ((Wk.Chg.refl _).more (by simp)) ch1 trivial
  have hD1 := Mur.SetF.chg h ch1 (fun s hs => trivial)
  refine (Sum_any lo L g F p PA pn pc W1 (HV.out.below (Wk.Chg.below0 kk1)) hD1 (Mur.byt_chg hb kk1 (fun g off e hl => trivial)) (by omega)).mono ?_
  rintro _ W2 ⟨dd1, hd1, hdl1, rfl, ch2⟩
  have zz2 := ch2.size
  refine ⟨_, rfl, ?_⟩
  refine Wk.rPure 3 (some 7) (.tuple #[.agg ((b8s dd1).toArray), .int .i64 (((Mur.belowL p L).length : Nat) : Int)]) rfl rfl (by kernel_rfl) (by kernel_rfl) ?_
  refine Wk.rPure 4 (some 11) (.agg ((b8s dd1).toArray)) rfl rfl (by kernel_rfl) (by kernel_rfl) ?_
  refine Wk.rPure 5 (some 12) (.int .i64 (((Mur.belowL p L).length : Nat) : Int)) rfl rfl (by kernel_rfl) (by kernel_rfl) ?_
  refine Wk.rEx 6 (some 5) _ rfl rfl (by kernel_rfl) (Wk.new_ex (.pointer (some ⟨W2.heap.size, 0, none⟩)) #[.int .u8 0, .int .u8 0, .int .u8 0, .int .u8 0, .int .u8 0, .int .u8 0, .int .u8 0, .int .u8 0, .int .u8 0, .int .u8 0, .int .u8 0, .int .u8 0, .int .u8 0, .int .u8 0, .int .u8 0, .int .u8 0, .int .u8 0, .int .u8 0, .int .u8 0, .int .u8 0, .int .u8 0, .int .u8 0, .int .u8 0, .int .u8 0, .int .u8 0, .int .u8 0, .int .u8 0, .int .u8 0, .int .u8 0, .int .u8 0, .int .u8 0, .int .u8 0] 30 (by kernel_rfl)) ?_
  rintro _ W3 ⟨rfl, hb2, ch3, sz2⟩
  have zz3 := ch3.size
  refine Wk.rExS 7 none _ rfl rfl (by kernel_rfl) (Mur.storeAll 30 (.tmp 5) (.tmp 11) rfl W2.heap.size (by kernel_rfl) dd1 32 hdl1 (by kernel_rfl) (by kernel_rfl) 30 #[.int .u8 0, .int .u8 0, .int .u8 0, .int .u8 0, .int .u8 0, .int .u8 0, .int .u8 0, .int .u8 0, .int .u8 0, .int .u8 0, .int .u8 0, .int .u8 0, .int .u8 0, .int .u8 0, .int .u8 0, .int .u8 0, .int .u8 0, .int .u8 0, .int .u8 0, .int .u8 0, .int .u8 0, .int .u8 0, .int .u8 0, .int .u8 0, .int .u8 0, .int .u8 0, .int .u8 0, .int .u8 0, .int .u8 0, .int .u8 0, .int .u8 0, .int .u8 0] hb2 rfl) ?_
  rintro W4 ⟨hb3, ch4⟩
  have zz4 := ch4.size
  refine Wk.rPure 8 (some 6) (.int .i64 (((Mur.belowL p L).length : Nat) : Int)) rfl rfl (by kernel_rfl) (by kernel_rfl) ?_
  refine Wk.rEnd 9 rfl ?_
  refine Wk.nxt ?_
  refine wp_seq ?_
  refine Wk.dReg ([w.heap.size]) (by kernel_rfl) ?_
  intro W5 ch5 sz3
  have zz5 := ch5.size
  have sS1 : Wk.Chg ([w.heap.size]) W5 W5 := (Wk.Chg.refl _).more (by simp)
  refine Wk.dVal 0 (some 13) (.slice PA pn pc) rfl rfl (by kernel_rfl) (by kernel_rfl) (by kernel_rfl) (fun _ _ _ h => h) (by kernel_rfl) (fun w' hw' => by kernel_rfl) sS1 ?_
  refine Wk.dVal 2 (some 15) (.agg ((b8s dd1).toArray)) rfl rfl (by kernel_rfl) (by kernel_rfl) (by kernel_rfl) (fun _ _ _ h => h) (by kernel_rfl) (fun w' hw' => (Mur.loadAll 30 (.tmp 5) rfl _ Tryd.underlying30 rfl W2.heap.size (by kernel_rfl) dd1 32 hdl1 (by kernel_rfl) 30 (0, 0) (Wk.Chg.hp hw' (Wk.Chg.hp ch5 hb3 trivial) ⟨by omega, trivial⟩))) sS1 ?_
  refine Wk.dVal 3 (some 16) (.int .i64 (((Mur.belowL p L).length : Nat) : Int)) rfl rfl (by kernel_rfl) (by kernel_rfl) (by kernel_rfl) (fun _ _ _ h => h) (by kernel_rfl) (fun w' hw' => by kernel_rfl) sS1 ?_
  refine Wk.dOp 1 (by kernel_rfl) ?_
  refine Wk.oCall (some 14) 75 [.tmp 13] #[38] [.slice PA pn pc] rfl rfl (by kernel_rfl) rfl (by kernel_rfl) (by kernel_rfl) ?_
  have kk2 := Wk.Chg.step kk1 ch2 trivial
  have kk3 := Wk.Chg.step kk2 ch3 trivial
  have kk4 := Wk.Chg.step kk3 ch4 ⟨.inr (by omega), trivial⟩
  have kk5 := Wk.Chg.step kk4 ch5 trivial
  refine (CloneB_any p PA pn pc W5 (Mur.byt_chg hb kk5 (fun g off e hl => trivial)) hnil (by omega)).mono ?_
  rintro _ W6 ⟨AA1, nn1, nn2, rfl, ow1, ch6⟩
  have zz6 := ch6.size
  have hq1 := ow1.byt.1
  have hq2 := ow1.nc
  have hq3 := ow1.cm
  have sS2 := Wk.Chg.step sS1 ch6 trivial
  refine ⟨_, rfl, sS2, ?_⟩
  refine Wk.dVal 4 (some 17) (.agg ((Mur.msgC 1 AA1 nn1 nn2 dd1 (((Mur.belowL p L).length : Nat) : Int) none 0 0 false).toArray)) rfl rfl (by kernel_rfl) (by kernel_rfl) (by kernel_rfl) (fun _ _ _ h => h) (by kernel_rfl) (fun w' hw' => (Mur.run_built 66 _ rfl [(0, .int .u8 1), (1, .slice AA1 nn1 nn2), (2, .agg ((b8s dd1).toArray)), (3, .int .i64 (((Mur.belowL p L).length : Nat) : Int))] (by kernel_rfl) _ (built_summary hdl1 AA1 nn1 nn2 (((Mur.belowL p L).length : Nat) : Int)))) sS2 ?_
  refine Wk.dOp 5 (by kernel_rfl) ?_
  refine Wk.oExS none _ rfl rfl (by kernel_rfl) (Mur.storeArr 66 (.tmp 4) (.tmp 17) rfl w.heap.size (by kernel_rfl) (Mur.msgC 1 AA1 nn1 nn2 dd1 (((Mur.belowL p L).length : Nat) : Int) none 0 0 false).toArray 37 (Mur.msgC_size hdl1) Mur.msgC_all (by kernel_rfl) (by kernel_rfl) 66 #[.int .u8 0, .slice none 0 0, .int .u8 0, .int .u8 0, .int .u8 0, .int .u8 0, .int .u8 0, .int .u8 0, .int .u8 0, .int .u8 0, .int .u8 0, .int .u8 0, .int .u8 0, .int .u8 0, .int .u8 0, .int .u8 0, .int .u8 0, .int .u8 0, .int .u8 0, .int .u8 0, .int .u8 0, .int .u8 0, .int .u8 0, .int .u8 0, .int .u8 0, .int .u8 0, .int .u8 0, .int .u8 0, .int .u8 0, .int .u8 0, .int .u8 0, .int .u8 0, .int .u8 0, .int .u8 0, .int .i64 0, .slice none 0 0, .bool false] (Wk.Chg.hp ch6 (Wk.Chg.hp ch5 (Wk.Chg.hp ch4 (Wk.Chg.hp ch3 (Wk.Chg.hp ch2 hb1 trivial) trivial) ⟨by omega, trivial⟩) trivial) trivial) (by kernel_rfl)) ?_
  rintro W7 ⟨hb4, ch7⟩
  have zz7 := ch7.size
  have sS3 := Wk.Chg.step sS2 ch7 ⟨.inl (by simp), trivial⟩
  refine ⟨sS3, ?_⟩
  refine Wk.dEnd (by kernel_rfl) ?_
  refine Wk.nxt ?_
  refine wp_ret ?_
  have ow2 := Mur.own8 (Wk.own_chg ow1.own ch7 (fun q e _ _ => ⟨by have := ow1.lt q e; omega, trivial⟩))
  have kk6 := Wk.Chg.step kk5 ch6 trivial
  have kk7 := Wk.Chg.step kk6 ch7 ⟨.inr (by omega), trivial⟩
  refine Wk.ret (.agg (Mur.msgC 1 AA1 nn1 nn2 dd1 (((Mur.belowL p L).length : Nat) : Int) none 0 0 false).toArray) rfl (results_cell_row rfl _ _ w.heap.size 66 (Mur.msgC 1 AA1 nn1 nn2 dd1 (((Mur.belowL p L).length : Nat) : Int) none 0 0 false).toArray (0, 0) _ (by kernel_rfl) hb4 Tryd.underlying66 rfl (by rw [(Mur.msgC_size hdl1)]; kernel_rfl)) ?_
  exact ⟨_, _, _, _, hd1, hdl1, rfl, Mur.own8_low ow2 (by omega), kk7⟩
end Go.Proofs.YtfhneademopciaaDoor
namespace Mur
open Go Go.RowKit Wk
def flatR (R : List (List Value)) : List Value := R.flatten
def Sized (sz : Nat) (R : List (List Value)) : Prop := ∀ r, r ∈ R → r.length = sz ∧ ∀ v, v ∈ r → v.oneCell' = true
theorem flatR_len {sz : Nat} : ∀ {R : List (List Value)}, Sized sz R → (flatR R).length = R.length * sz
  | [], _ => by simp [flatR]
  | r :: R, h => by
    have h1 := (h r (by simp)).1
    have h2 := flatR_len (R := R) (sz := sz) fun q hq => h q (List.mem_cons_of_mem _ hq)
    show (r ++ flatR R).length = _
    rw [List.length_append, h1, h2, List.length_cons, Nat.add_mul]
    omega
theorem flatR_one {sz : Nat} {R : List (List Value)} (h : Sized sz R) : ∀ v, v ∈ flatR R → v.oneCell' = true := fun v hv => by
  obtain ⟨r, hr, hv⟩ := List.mem_flatten.1 hv
  exact (h r hr).2 v hv
theorem flatR_drop {sz : Nat} : ∀ {R : List (List Value)} (_ : Sized sz R) (i : Nat), flatR (R.drop i) = (flatR R).drop (i * sz)
  | _, _, 0 => by simp
  | [], _, i + 1 => by simp [flatR]
  | r :: R, h, i + 1 => by
    have h1 := (h r (by simp)).1
    rw [List.drop_succ_cons, flatR_drop (fun q hq => h q (List.mem_cons_of_mem _ hq)) i]
    show _ = (r ++ flatR R).drop _
    rw [Nat.add_mul, Nat.one_mul, Nat.add_comm, ← List.drop_drop, List.drop_left' h1]
theorem flatR_take {sz : Nat} : ∀ {R : List (List Value)} (_ : Sized sz R) (i : Nat), flatR (R.take i) = (flatR R).take (i * sz)
  | _, _, 0 => by simp [flatR]
  | [], _, i + 1 => by simp [flatR]
  | r :: R, h, i + 1 => by
    have h1 := (h r (by simp)).1
    rw [List.take_succ_cons]
    show r ++ flatR (R.take i) = (r ++ flatR R).take _
    rw [flatR_take (fun q hq => h q (List.mem_cons_of_mem _ hq)) i, List.take_append, h1, List.take_of_length_le (show r.length ≤ (i + 1) * sz by rw [h1, Nat.add_mul]; omega)]
    congr 2
    rw [Nat.add_mul]
    omega
theorem flatR_append (R T : List (List Value)) : flatR (R ++ T) = flatR R ++ flatR T := by simp [flatR]
/-- A slice that reads as rows. -/
structure SlR (w : World) (sz : Nat) (A : Option Addr) (n : Nat) (R : List (List Value)) : Prop where
  len : R.length = n
  szd : Sized sz R
  sl : Sl w A n sz (flatR R)
structure OwnR (w : World) (base e sz : Nat) (A : Option Addr) (n c : Nat) (R : List (List Value)) : Prop where
  own : w.ownsRow base e sz (.slice A n c) n (flatR R)
  szd : Sized sz R
  len : R.length = n
  nc : n ≤ c
  cm : c ≤ maxLen
  nil : A = none → c = 0
  sl : Sl w A n sz (flatR R)
  at_ : ∀ g off, A = some ⟨g, off, none⟩ → base ≤ g ∧ g < w.heap.size
  lt : ∀ k, (Value.slice A n c).ownBlock = some k → base ≤ k ∧ k < w.heap.size
section
variable {w w' : World} {base e sz n c : Nat} {A : Option Addr} {R T : List (List Value)}
theorem ownR (h : w.ownsRow base e sz (.slice A n c) n (flatR R)) (hs : Sized sz R) (hp : 0 < sz) : OwnR w base e sz A n c R := by
  obtain ⟨A2, c2, e3, h1, h2, h4, h5, h6⟩ := own_sl h
  injection e3 with e3 _ e4
  subst e3 e4
  have hl : R.length = n := by
    have := h.1
    rw [flatR_len hs] at this
    exact Nat.eq_of_mul_eq_mul_right hp this
  exact ⟨h, hs, hl, h1, h2, h4, h5, h6, World.ownsRow.lt h⟩
theorem OwnR.slR (h : OwnR w base e sz A n c R) : SlR w sz A n R := ⟨h.len, h.szd, h.sl⟩
theorem ownR_nil (w : World) (base e : Nat) (hp : 0 < sz) : OwnR w base e sz none 0 0 [] := ownR ⟨by simp [flatR], .inl ⟨rfl, rfl⟩⟩ (fun r hr => by cases hr) hp
theorem ownR_empty {g : Nat} (h : w.heap[g]? = some (.cells #[] e (0, 0))) (hb : base ≤ g) (hp : 0 < sz) : OwnR w base e sz (some ⟨g, 0, none⟩) 0 0 [] :=
  ownR ⟨by simp [flatR], .inr ⟨g, 0, #[], rfl, hb, h, Nat.le_refl _, by unfold maxLen; omega, by simp, by simp [flatR]⟩⟩ (fun r hr => by cases hr) hp
theorem OwnR.chg {S : List Nat} (h : OwnR w base e sz A n c R) (hp : 0 < sz) (ch : Chg S w w') (ho : ∀ g, (Value.slice A n c).ownBlock = some g → base ≤ g → g < w.heap.size → Off g S) : OwnR w' base e sz A n c R := ownR (own_chg h.own ch ho) h.szd hp
theorem SlR.chg {S : List Nat} (h : SlR w sz A n R) (ch : Chg S w w') (ho : ∀ g off, A = some ⟨g, off, none⟩ → g < w.heap.size → Off g S) : SlR w' sz A n R := ⟨h.len, h.szd, h.sl.chg ch ho⟩
/-- A row of it. -/
theorem SlR.row (h : SlR w sz A n R) {i : Nat} {r : List Value} (hr : R[i]? = some r) (hp : 0 < sz) : ∃ g off, A = some ⟨g, off, none⟩ ∧ w.rangeAt g (off + i * sz) r := by
  obtain ⟨hi, rfl⟩ := List.getElem?_eq_some_iff.1 hr
  have h1 := (h.szd R[i] (List.getElem_mem _)).1
  obtain ⟨g, off, e, hg⟩ := h.sl.2 (fun e => by
    have := congrArg List.length e
    rw [flatR_len h.szd, List.length_nil] at this
    have h3 : 0 < R.length * sz := Nat.mul_pos (by omega) hp
    omega)
  refine ⟨g, off, e, fun j v hv => ?_⟩
  have hj := (List.getElem?_eq_some_iff.1 hv).1
  have key : (flatR R)[i * sz + j]? = some v := by
    rw [← List.getElem?_drop, ← flatR_drop h.szd, List.drop_eq_getElem_cons hi]
    show (R[i] ++ flatR (R.drop (i + 1)))[j]? = _
    rw [List.getElem?_append_left hj]
    exact hv
  have := hg (i * sz + j) v key
  rwa [← Nat.add_assoc] at this
theorem slR_box {g : Nat} {t : TypeId} {fr : Nat × Nat} {r : List Value} (hr : r.length = sz) (h1 : ∀ v, v ∈ r → v.oneCell' = true) (h : w.heap[g]? = some (.cells r.toArray t fr)) : SlR w sz (some ⟨g, 0, none⟩) 1 [r] :=
  ⟨rfl, fun q hq => by rw [List.mem_singleton.1 hq]; exact ⟨hr, h1⟩, by simp [flatR, hr], fun _ => ⟨g, 0, rfl, by simpa [flatR] using range_row h⟩⟩
end
section
variable {P : Program} {w : World} {a : Act} {o : Oper}
/-- append of rows to a slice of one's own. -/
theorem appendR (s x : Operand) (t e : TypeId) (ho : o.op = .call { callee := .builtin .append, args := #[s, x], argTypes := #[t, t] }) (ht : P.underlying t = some (.slice e)) (z : Value) (sz bytes : Nat) (hinfo : (P.info? e).map (fun i => (i.zero, i.size, i.bytes)) = some (some z, sz, bytes)) (hz : z.cells.size = sz) (hp : 0 < sz) (hby : bytes ≤ 1000)
    (base : Nat) (A0 : Option Addr) (n c0 : Nat) (xs : List (List Value)) (A : Option Addr) (m c : Nat) (ys : List (List Value)) (hs : a.eval s = .slice A0 n c0) (hx : a.eval x = .slice A m c) (HO : OwnR w base e sz A0 n c0 xs) (HR : SlR w sz A m ys) (hA : A = none → c = 0)
    (hbase : base ≤ w.heap.size) (hl : n + m ≤ 1000000) (k : Nat) (hk : n + m = k) :
    ∃ v1 w1, (execOp a.eval o).run P w = .ok (.value v1) w1 ∧ ∃ A1 c1, v1 = .slice A1 k c1 ∧ OwnR w1 base e sz A1 k c1 (xs ++ ys) ∧ Chg (blk (.slice A0 n c0)) w w1 ∧ (∀ q, (Value.slice A1 k c1).ownBlock = some q → (Value.slice A0 n c0).ownBlock = some q ∨ q = w.heap.size) := by
  subst hk
  have hb : (n + m) * bytes ≤ 1000000 * 1000 := Nat.mul_le_mul hl hby
  obtain ⟨v1, w1, h1, h2, h3, h4⟩ := append_run (P := P) s x t e ho ht z sz bytes hinfo hz hp base (.slice A0 n c0) n (flatR xs) A m c (flatR ys) hs hx HO.own HR.sl hA (flatR_one HR.szd) hbase (by unfold maxLen; omega) (by omega)
  rw [← flatR_append] at h2
  obtain ⟨A1, c1, rfl, _⟩ := own_sl h2
  refine ⟨_, w1, h1, A1, c1, rfl, ownR h2 (fun r hr => (List.mem_append.1 hr).elim (HO.szd r) (HR.szd r)) hp, h3, fun q hq => ?_⟩
  rcases h4 with h4 | h4
  · exact .inl (h4 ▸ hq)
  · rw [h4] at hq
    exact .inr (Option.some.inj hq).symm
/-- A slice of one row. -/
theorem buildR1 (t e : TypeId) (x : Operand) (ho : o.op = .buildSlice t 1 #[(0, x)]) (ht : P.underlying t = some (.slice e)) (z : List Value) (sz bytes : Nat) (hinfo : (P.info? e).map (fun i => (i.zero, i.size, i.bytes)) = some (some (.agg z.toArray), sz, bytes)) (hzl : z.length = sz) (hp : 0 < sz) (h1000 : sz ≤ 1000)
    (r : List Value) (hr : r.length = sz) (hx : a.eval x = .agg r.toArray) :
    ∃ v w1, (execOp a.eval o).run P w = .ok (.value v) w1 ∧ v = .slice (some ⟨w.heap.size, 0, none⟩) 1 1 ∧ w1.heap[w.heap.size]? = some (.cells r.toArray e (0, 0)) ∧ Chg [] w w1 ∧ w.heap.size < w1.heap.size := by
  obtain ⟨i0, hi, hzz⟩ := Option.map_eq_some_iff.1 hinfo
  simp only [Prod.mk.injEq] at hzz
  obtain ⟨hz0, hz1, hz2⟩ := hzz
  have hfill : ∀ Z : Array Value, Z.size = sz → Instr.fill (fun i => some (i * sz, sz)) Z [(0, .agg r.toArray)] = some r.toArray := by
    intro Z hZ
    have := fill_part (place := fun i => some (i * sz, sz)) (L := Z.toList) (vs := r) (v := .agg r.toArray) (i := 0) (off := 0) (size := sz) (rest := []) (R := some r.toArray) (by simp) rfl hr (by rw [Array.length_toList, hZ]; omega) (by
      have e : splice Z.toList 0 r = r := by
        unfold splice
        rw [hr, List.drop_of_length_le (by rw [Array.length_toList, hZ]; omega)]
        simp
      rw [e]
      rfl)
    simpa using this
  have hrun : (Instr.buildSlice t 1 [(0, Value.agg r.toArray)].toArray).run P w = .ok (.slice (some ⟨w.heap.size, 0, none⟩) 1 1) (w.alloc (.cells r.toArray e)) := by
    have hs : (Value.agg z.toArray).cells.size = sz := by simpa [Value.cells] using hzl
    have hf := hfill ((Array.range (1 * sz)).map ((Value.agg z.toArray).cells[· % sz]!)) (by rw [Array.size_map, Array.size_range, Nat.one_mul])
    unfold Instr.buildSlice
    simp [run_underlying ht, Go.sizeOf, typeInfo, zeroValue, hi, hz0, hz1, hs]
    simp at hf
    rw [hf, if_neg (by omega), if_neg (by omega)]
    rfl
  refine ⟨_, _, ?_, rfl, heap_alloc_new w _, Chg.alloc w _, by simp⟩
  unfold execOp
  simp only [ho, List.map_toArray, List.map_cons, List.map_nil, hx]
  simp only [Sem.run_bind, hrun, Result.andThen_ok, Sem.run_pure]
end
end Mur
namespace Mur
open Go Go.RowKit Wk
theorem mayM_iff {kd : UInt8} {p s : List UInt8} {n : Int} {l : List Att} {b : Bool} : mayM ⟨kd, p, s, n, l, b⟩ ↔ isPre p = true ∧ 0 ≤ n ∧ n ≤ 200 ∧ l.length ≤ 8 ∧ ((kd = 1 ∧ l = [] ∧ b = false) ∨ (kd = 2 ∧ (∀ x, x ∈ l → may x.n ∧ under p x.k = true) ∧ Sorted l ∧ s = z32 ∧ n = 0)) := Iff.rfl
theorem sorted_one {I : List Att} {x : Att} (hx : I[0]? = some x) : Sorted (I.take 1) := by
  obtain ⟨h, rfl⟩ := List.getElem?_eq_some_iff.1 hx
  rw [List.take_succ_eq_append_getElem h]
  exact List.pairwise_singleton _ _
theorem sorted_more {I : List Att} {i : Nat} {x z : Att} (hs : Sorted (I.take i)) (hx : I[i]? = some x) (hz : I[i - 1]? = some z) (hi : 0 < i) (h : z.lt x) : Sorted (I.take (i + 1)) := by
  obtain ⟨h1, rfl⟩ := List.getElem?_eq_some_iff.1 hx
  rw [List.take_succ_eq_append_getElem h1]
  refine List.pairwise_append.2 ⟨hs, List.pairwise_singleton _ _, fun a ha b hb => ?_⟩
  rw [List.mem_singleton.1 hb]
  obtain ⟨j, hj, rfl⟩ := List.getElem_of_mem ha
  rw [List.length_take] at hj
  have hzt : (I.take i)[i - 1]? = some z := by rw [List.getElem?_take, if_pos (by omega)]; exact hz
  rcases Nat.lt_or_ge j (i - 1) with h2 | h2
  · exact Att.lt_trans (hs.lt (List.getElem?_eq_getElem (by rw [List.length_take]; omega)) hzt h2) h
  · obtain rfl : j = i - 1 := by omega
    rw [List.getElem?_eq_getElem (by rw [List.length_take]; omega)] at hzt
    rw [Option.some.inj hzt]
    exact h
theorem not_sorted {I : List Att} {i : Nat} {x z : Att} (hx : I[i]? = some x) (hz : I[i - 1]? = some z) (hi : 0 < i) (h : ¬ z.lt x) : ¬ Sorted I := fun hs => h (hs.lt hz hx (by omega))
/-- A message's cells, and where its slices lie. -/
structure Raw where
  kd : UInt8
  P : Option Addr
  pn : Nat
  pc : Nat
  s : List UInt8
  n : Int
  A : Option Addr
  an : Nat
  ac : Nat
  b : Bool
  hs : s.length = 32
def Raw.C (r : Raw) : List Value := msgC r.kd r.P r.pn r.pc r.s r.n r.A r.an r.ac r.b
def Raw.subs (r : Raw) : List Nat := pblk r.P r.pn ++ pblk r.A r.an
theorem raw_sized (R : List Raw) : Sized 37 (R.map Raw.C) := fun c hc => by
  obtain ⟨r, _, rfl⟩ := List.mem_map.1 hc
  exact ⟨msgC_length r.hs, msgC_one⟩
structure RawOk (w : World) (r : Raw) (m : Msg) : Prop where
  kd : r.kd = m.kind
  s : r.s = m.sum
  n : r.n = m.cnt
  b : r.b = m.ans
  byt : Byt w r.P r.pn m.pre
  sl : SlA w r.A r.an m.items
  nilP : r.P = none → r.pc = 0
  nilA : r.A = none → r.ac = 0
  anc : r.an ≤ r.ac ∧ r.ac ≤ 9223372036854775807
  pnc : r.pn ≤ r.pc ∧ r.pc ≤ 9223372036854775807
theorem RawOk.keep {w w' : World} {r : Raw} {m : Msg} {F : List Nat} (h : RawOk w r m) (k : Keep F w w') (hF : ∀ q, q ∈ r.subs → q ∈ F) : RawOk w' r m :=
  ⟨h.kd, h.s, h.n, h.b, byt_keep h.byt k fun q hq => hF q (List.mem_append_left _ hq), h.sl.keep k fun g _ e hn => hF g (List.mem_append_right _ (pblk_mem e hn)), h.nilP, h.nilA, h.anc, h.pnc⟩
theorem RawOk.subs_lt {w : World} {r : Raw} {m : Msg} (h : RawOk w r m) : ∀ q, q ∈ r.subs → q < w.heap.size := fun q hq => by
  rcases List.mem_append.1 hq with hq | hq
  · exact pblk_lt h.byt q hq
  · unfold pblk at hq
    by_cases hn : r.an = 0
    · rw [if_pos hn] at hq
      cases hq
    · rw [if_neg hn] at hq
      obtain ⟨g, off, e, _⟩ := h.sl.ex (by omega)
      rw [e] at hq
      simp at hq
      subst hq
      have := h.sl
      rw [e] at this
      exact this.lt (by omega)
def subsL (R : List Raw) : List Nat := R.flatMap Raw.subs
def RawsOk (w : World) : List Raw → List Msg → Prop
  | [], [] => True
  | r :: R, m :: M => RawOk w r m ∧ RawsOk w R M
  | _, _ => False
theorem RawsOk.keep {w w' : World} {F : List Nat} (k : Keep F w w') : ∀ {R : List Raw} {M : List Msg}, RawsOk w R M → (∀ q, q ∈ subsL R → q ∈ F) → RawsOk w' R M
  | [], [], _, _ => trivial
  | [], _ :: _, h, _ => h.elim
  | _ :: _, [], h, _ => h.elim
  | r :: R, m :: M, h, hF => ⟨h.1.keep k fun q hq => hF q (by simp only [subsL, List.flatMap_cons, List.mem_append]; exact .inl hq), RawsOk.keep k h.2 fun q hq => hF q (by simp only [subsL, List.flatMap_cons, List.mem_append]; exact .inr hq)⟩
theorem RawsOk.snoc {w : World} {r : Raw} {m : Msg} (hr : RawOk w r m) : ∀ {R : List Raw} {M : List Msg}, RawsOk w R M → RawsOk w (R ++ [r]) (M ++ [m])
  | [], [], _ => ⟨hr, trivial⟩
  | [], _ :: _, h => h.elim
  | _ :: _, [], h => h.elim
  | _ :: _, _ :: _, h => ⟨h.1, RawsOk.snoc hr h.2⟩
theorem RawsOk.length {w : World} : ∀ {R : List Raw} {M : List Msg}, RawsOk w R M → R.length = M.length
  | [], [], _ => rfl
  | [], _ :: _, h => h.elim
  | _ :: _, [], h => h.elim
  | _ :: _, _ :: _, h => by rw [List.length_cons, List.length_cons, RawsOk.length h.2]
theorem RawsOk.at {w : World} : ∀ {R : List Raw} {M : List Msg} {i : Nat} {r : Raw}, RawsOk w R M → R[i]? = some r → ∃ m, M[i]? = some m ∧ RawOk w r m
  | [], [], i, r, _, hr => by simp at hr
  | [], _ :: _, _, _, h, _ => h.elim
  | _ :: _, [], _, _, h, _ => h.elim
  | r0 :: _, m0 :: _, 0, r, h, hr => by
    simp at hr
    subst hr
    exact ⟨m0, by simp, h.1⟩
  | _ :: _, _ :: _, i + 1, r, h, hr => by
    obtain ⟨m, h1, h2⟩ := RawsOk.at h.2 (i := i) (r := r) (by simpa using hr)
    exact ⟨m, by simpa using h1, h2⟩
end Mur
namespace Mur
open Go Go.RowKit Wk
section
variable {P : Program} {w : World} {a : Act} {o : Oper}
theorem run_cutK (t : TypeId) (x y z u : Operand) (ho : o.op = .slice t x (some y) (some z) (some u)) (e : TypeId) (ht : P.underlying t = some (.slice e)) (sz : Nat) (hsz : (P.info? e).map (·.size) = some sz) (g off n c l h : Nat)
    (hx : a.eval x = .slice (some ⟨g, off, none⟩) n c) (hy : a.eval y = .int .i64 ((l : Nat) : Int)) (hz : a.eval z = .int .i64 ((h : Nat) : Int)) (hu : a.eval u = .int .i64 ((h : Nat) : Int)) (hl : l < h) (hh : h ≤ c) (m : Nat) (hm : h - l = m) :
    (execOp a.eval o).run P w = .ok (.value (.slice (some ⟨g, off + l * sz, none⟩) m m)) w := by
  subst hm
  obtain ⟨i, hi, hs⟩ := Option.map_eq_some_iff.1 hsz
  have key : (Instr.sliceAt t (.slice (some ⟨g, off, none⟩) n c) (some (.int .i64 (l : Int))) (some (.int .i64 (h : Int))) (some (.int .i64 (h : Int)))).run P w = .ok (.slice (some ⟨g, off + l * sz, none⟩) (h - l) (h - l)) w := by
    simp [Instr.sliceAt, Instr.slice, run_underlying ht, Instr.sliceBounds, Go.sizeOf, typeInfo, hi, hs, run_sliceBound w .i64 (h : Int) c _ (by omega) (by omega), run_sliceBound w .i64 (h : Int) h _ (by omega) (by omega), run_sliceBound w .i64 (l : Int) h _ (by omega) (by omega), Addr.add_mid]
    omega
  unfold execOp
  simp only [ho, hx, hy, hz, hu, Option.map_some, Sem.run_bind, key, Result.andThen_ok, Sem.run_pure]
end
/-- What is handed to a chunk's round. -/
def encC (q off n i : Nat) : Array Value := #[.slice (some ⟨q, off + 8 * i * 97, none⟩) (min 8 (n - 8 * i)) (min 8 (n - 8 * i))]
theorem range_split {k N : Nat} (h : k < N) : List.range N = List.range k ++ k :: List.range' (k + 1) (N - k - 1) := by
  rw [List.range_eq_range', List.range_eq_range', show N = k + (1 + (N - k - 1)) by omega, ← List.range'_append_1, ← List.range'_append_1]
  simp
end Mur
namespace Go.Proofs.YtfhneademopciaaDoor
open Go.RowKit
open Mur (b8s Byt Own8 Seg Segs flat cutA attC Att SlA OwnA rowA msgC)
set_option maxRecDepth 100000
set_option maxHeartbeats 4000000
def ChkS_F1 (b : Array Value) (u0 : Value) (u1 : Value) (u2 : Value) (u4 : Value) : Act := ⟨#[u0, u1, u2, b.getD 3 undef, u4, b.getD 5 undef, b.getD 6 undef, b.getD 7 undef, b.getD 8 undef, b.getD 9 undef, b.getD 10 undef, b.getD 11 undef, b.getD 12 undef, b.getD 13 undef, b.getD 14 undef, b.getD 15 undef, b.getD 16 undef, b.getD 17 undef, b.getD 18 undef, b.getD 19 undef, b.getD 20 undef, b.getD 21 undef, b.getD 22 undef, b.getD 23 undef, b.getD 24 undef, b.getD 25 undef, b.getD 26 undef, b.getD 27 undef, b.getD 28 undef, b.getD 29 undef, b.getD 30 undef], []⟩
theorem Chunk_any (A : Option Addr) (n c : Nat) (w : World) : Calls Tryd.prog 78 #[.slice A n c, .int .i64 8] w fun e w' => ∃ b1 b2, e = .returned (.func (.func 89) #[] #[.pointer (some ⟨b1, 0, none⟩), .pointer (some ⟨b2, 0, none⟩)]) ∧ w'.heap[b1]? = some (.cells #[.slice A n c] 22 (0, 0)) ∧ w'.heap[b2]? = some (.cells #[.int .i64 8] 3 (0, 0)) ∧ (w.heap.size ≤ b1 ∧ b1 < w'.heap.size) ∧ (w.heap.size ≤ b2 ∧ b2 < w'.heap.size) ∧ b1 ≠ b2 ∧ Wk.Chg [] w w' := by
  refine calls_of_wp Tryd.func78 rfl ?_
  refine wp_seq ?_
  refine Wk.reg ?_
  refine Wk.rEx 0 (some 2) _ rfl rfl (by kernel_rfl) (Wk.new_ex (.pointer (some ⟨w.heap.size, 0, none⟩)) #[.slice A n c] 22 (by kernel_rfl)) ?_
  rintro _ W1 ⟨rfl, hb1, ch1, sz1⟩
  have zz1 := ch1.size
  refine Wk.rEx 1 (some 3) _ rfl rfl (by kernel_rfl) (Wk.new_ex (.pointer (some ⟨W1.heap.size, 0, none⟩)) #[.int .i64 8] 3 (by kernel_rfl)) ?_
  rintro _ W2 ⟨rfl, hb2, ch2, sz2⟩
  have zz2 := ch2.size
  refine Wk.rPure 2 (some 4) (.nilFunc) rfl rfl (by kernel_rfl) (by kernel_rfl) ?_
  refine Wk.rEnd 3 rfl ?_
  refine Wk.nxt ?_
  refine wp_seq ?_
  refine wp_seq ?_
  refine Wk.reg ?_
  refine Wk.rPure 0 (some 5) (.int .i64 8) rfl rfl (by kernel_rfl) (Wk.load1 3 (.tmp 3) rfl (by kernel_rfl) ⟨W1.heap.size, 0, none⟩ (by kernel_rfl) (.int .i64 8) ((cell_of_row _ _ 0 _ _ _ hb2).trans rfl)) ?_
  refine Wk.rPure 1 (some 6) (.bool false) rfl rfl (by kernel_rfl) (Wk.boolF (b := decide ((8 : Int) < (1 : Int))) (decide_eq_false (by decide)) (by kernel_rfl)) ?_
  refine Wk.rEnd 2 rfl ?_
  refine Wk.nxt ?_
  refine wp_cond_false (by kernel_rfl) ?_
  refine wp_skip ?_
  refine Wk.nxt ?_
  refine wp_seq ?_
  refine Wk.reg ?_
  refine Wk.rPure 0 (some 8) (.func (.func 89) #[] #[.pointer (some ⟨w.heap.size, 0, none⟩), .pointer (some ⟨W1.heap.size, 0, none⟩)]) rfl rfl (by kernel_rfl) (by kernel_rfl) ?_
  refine Wk.rPure 1 (some 4) (.func (.func 89) #[] #[.pointer (some ⟨w.heap.size, 0, none⟩), .pointer (some ⟨W1.heap.size, 0, none⟩)]) rfl rfl (by kernel_rfl) (by kernel_rfl) ?_
  refine Wk.rEnd 2 rfl ?_
  refine Wk.nxt ?_
  refine wp_ret ?_
  have kk1 : Wk.Chg [] w W1 := Wk.Chg.step ((Wk.Chg.refl _).more (by simp)) ch1 trivial
  have kk2 := Wk.Chg.step kk1 ch2 trivial
  refine Wk.ret (.func (.func 89) #[] #[.pointer (some ⟨w.heap.size, 0, none⟩), .pointer (some ⟨W1.heap.size, 0, none⟩)]) rfl (by kernel_rfl) ?_
  exact ⟨_, _, rfl, (Wk.Chg.hp ch2 hb1 trivial), hb2, ⟨by omega, by omega⟩, ⟨by omega, by omega⟩, by omega, kk2⟩
theorem chunk_seq (q off n c : Nat) (b1 b2 : Nat) (w : World) (hnc : n ≤ c ∧ n ≤ 1000000 ∧ c ≤ 9223372036854775807) (hX1 : w.heap[b1]? = some (.cells #[.slice (some ⟨q, off, none⟩) n c] 22 (0, 0))) (hX2 : w.heap[b2]? = some (.cells #[.int .i64 8] 3 (0, 0))) : Wk.Seq Tryd.prog 89 #[.pointer (some ⟨b1, 0, none⟩), .pointer (some ⟨b2, 0, none⟩)] (Mur.encC q off n) (List.range ((n + 7) / 8)) [b1, b2] w := by
  refine ⟨fun k_ hk_ => ?_, fun l J W hW hJ0 hY hJ => ?_⟩
  · simp only [List.mem_cons, List.not_mem_nil, or_false] at hk_
    rcases hk_ with rfl | rfl
    · exact (Array.getElem?_eq_some_iff.1 hX1).1
    · exact (Array.getElem?_eq_some_iff.1 hX2).1
  · replace hX1 := hW.hp hX1 (by simp)
    replace hX2 := hW.hp hX2 (by simp)
    have hFlt : ∀ k_, k_ ∈ [b1, b2] → k_ < W.heap.size := fun k_ hk_ => by
      simp only [List.mem_cons, List.not_mem_nil, or_false] at hk_
      rcases hk_ with rfl | rfl
      · exact (Array.getElem?_eq_some_iff.1 hX1).1
      · exact (Array.getElem?_eq_some_iff.1 hX2).1
    show Calls Tryd.prog 89 #[.func (.yield l) #[] #[], .pointer (some ⟨b1, 0, none⟩), .pointer (some ⟨b2, 0, none⟩)] W _
    refine calls_of_wp Tryd.func89 rfl ?_
    refine wp_seq ?_
    refine Wk.reg ?_
    refine Wk.rPure 0 (some 4) (.int .i64 0) rfl rfl (by kernel_rfl) (by kernel_rfl) ?_
    refine Wk.rEnd 1 rfl ?_
    refine Wk.nxt ?_
    refine wp_block ?_
    refine Wk.loop (fun m_ a wr => ∃ (k : Nat), m_ = n - 8 * k ∧ a = ChkS_F1 a.tmps (.func (.yield l) #[] #[]) (.pointer (some ⟨b1, 0, none⟩)) (.pointer (some ⟨b2, 0, none⟩)) (.int .i64 ((8 * k : Nat) : Int)) ∧ k ≤ (n + 7) / 8 ∧ J (List.range k) wr ∧ Wk.Keep [b1, b2] W wr ∧ W.heap.size ≤ wr.heap.size) (n - 8 * 0) ?_ ?_
    · refine ⟨0, rfl, by kernel_rfl, Nat.zero_le _, hJ, Wk.Keep.refl _ _, Nat.le_refl _⟩
    · rintro mm1 aa1 W1 ⟨k, hmm1, hF1, hk, hJk, hK, hsW⟩
      generalize aa1.tmps = bb1 at hF1
      subst hF1
      have hmb1 := hK.hp hX1 (by simp)
      have hmb2 := hK.hp hX2 (by simp)
      by_cases hlt : 8 * k < n
      · obtain ⟨mz, hmz, hmz2⟩ : ∃ m_ : Nat, (if ((n - 8 * k : Nat) : Int) < (8 : Int) then ((n - 8 * k : Nat) : Int) else (8 : Int)) = ((m_ : Nat) : Int) ∧ m_ = min 8 (n - 8 * k) := ⟨min 8 (n - 8 * k), by split <;> omega, rfl⟩
        refine wp_seq ?_
        refine wp_seq ?_
        refine Wk.reg ?_
        refine Wk.rPure 0 (some 6) (.int .i64 ((8 * k : Nat) : Int)) rfl rfl (by kernel_rfl) (by kernel_rfl) ?_
        refine Wk.rPure 1 (some 7) (.slice (some ⟨q, off, none⟩) n c) rfl rfl (by kernel_rfl) (Wk.load1 22 (.tmp 1) rfl (by kernel_rfl) ⟨b1, 0, none⟩ (by kernel_rfl) (.slice (some ⟨q, off, none⟩) n c) ((cell_of_row _ _ 0 _ _ _ hmb1).trans rfl)) ?_
        refine Wk.rPure 2 (some 8) (.int .i64 ((n : Nat) : Int)) rfl rfl (by kernel_rfl) (by kernel_rfl) ?_
        refine Wk.rPure 3 (some 9) (.bool true) rfl rfl (by kernel_rfl) (Wk.boolT (b := decide (((8 * k : Nat) : Int) < ((n : Nat) : Int))) (decide_eq_true (by omega)) (by kernel_rfl)) ?_
        refine Wk.rEnd 4 rfl ?_
        refine Wk.nxt ?_
        refine wp_cond_true (by kernel_rfl) ?_
        refine wp_skip ?_
        refine Wk.nxt ?_
        refine wp_seq ?_
        refine wp_block ?_
        refine wp_seq ?_
        refine Wk.dReg ([]) (by kernel_rfl) ?_
        intro W2 ch1 sz1
        have zz1 := ch1.size
        have sS1 : Wk.Chg ([]) W2 W2 := (Wk.Chg.refl _).more (by simp)
        have kk1 : Wk.Chg [] W1 W2 := Wk.Chg.step ((Wk.Chg.refl _).more (by simp)) ch1 trivial
        refine Wk.dVal 0 (some 13) (.int .i64 8) rfl rfl (by kernel_rfl) (by kernel_rfl) (by kernel_rfl) (fun _ _ _ h => h) (by kernel_rfl) (fun w' hw' => (Wk.load1 3 (.tmp 2) rfl (by kernel_rfl) ⟨b2, 0, none⟩ (by kernel_rfl) (.int .i64 8) ((cell_of_row _ _ 0 _ _ _ (Wk.Chg.hp hw' (Wk.Chg.hp kk1 hmb2 trivial) trivial)).trans rfl))) sS1 ?_
        refine Wk.dVal 1 (some 14) (.slice (some ⟨q, off, none⟩) n c) rfl rfl (by kernel_rfl) (by kernel_rfl) (by kernel_rfl) (fun _ _ _ h => h) (by kernel_rfl) (fun w' hw' => (Wk.load1 22 (.tmp 1) rfl (by kernel_rfl) ⟨b1, 0, none⟩ (by kernel_rfl) (.slice (some ⟨q, off, none⟩) n c) ((cell_of_row _ _ 0 _ _ _ (Wk.Chg.hp hw' (Wk.Chg.hp kk1 hmb1 trivial) trivial)).trans rfl))) sS1 ?_
        refine Wk.dVal 2 (some 15) (.int .i64 ((8 * k : Nat) : Int)) rfl rfl (by kernel_rfl) (by kernel_rfl) (by kernel_rfl) (fun _ _ _ h => h) (by kernel_rfl) (fun w' hw' => by kernel_rfl) sS1 ?_
        refine Wk.dVal 3 (some 16) (.slice (some ⟨q, off + 8 * k * 97, none⟩) (n - 8 * k) (c - 8 * k)) rfl rfl (by kernel_rfl) (by kernel_rfl) (by kernel_rfl) (fun _ _ _ h => h) (by kernel_rfl) (fun w' hw' => (Mur.run_fromS 22 (.tmp 14) (.tmp 15) rfl 32 Tryd.underlying22 97 (by kernel_rfl) q off n c (8 * k) (by kernel_rfl) (by kernel_rfl) (by omega) (by omega) (n - 8 * k) rfl)) sS1 ?_
        refine Wk.dVal 4 (some 17) (.int .i64 ((n - 8 * k : Nat) : Int)) rfl rfl (by kernel_rfl) (by kernel_rfl) (by kernel_rfl) (fun _ _ _ h => h) (by kernel_rfl) (fun w' hw' => by kernel_rfl) sS1 ?_
        refine Wk.dVal 5 (some 18) (.int .i64 ((mz : Nat) : Int)) rfl rfl (by kernel_rfl) (by kernel_rfl) (by kernel_rfl) (fun _ _ _ h => h) (by kernel_rfl) (fun w' hw' => (Wk.val (congrArg (Value.int .i64) hmz) (by kernel_rfl))) sS1 ?_
        refine Wk.dVal 6 (some 5) (.int .i64 ((mz : Nat) : Int)) rfl rfl (by kernel_rfl) (by kernel_rfl) (by kernel_rfl) (fun _ _ _ h => h) (by kernel_rfl) (fun w' hw' => by kernel_rfl) sS1 ?_
        refine Wk.dEnd (by kernel_rfl) ?_
        refine Wk.nxt ?_
        refine wp_seq ?_
        refine Wk.regW ?_
        refine Wk.iPure 0 (some 19) (.func (.yield l) #[] #[]) rfl rfl rfl (by kernel_rfl) (by kernel_rfl) ?_
        refine Wk.iPure 1 (some 20) (.slice (some ⟨q, off, none⟩) n c) rfl rfl rfl (by kernel_rfl) (Wk.load1 22 (.tmp 1) rfl (by kernel_rfl) ⟨b1, 0, none⟩ (by kernel_rfl) (.slice (some ⟨q, off, none⟩) n c) ((cell_of_row _ _ 0 _ _ _ (Wk.Chg.hp kk1 hmb1 trivial)).trans rfl)) ?_
        refine Wk.iPure 2 (some 21) (.int .i64 ((8 * k : Nat) : Int)) rfl rfl rfl (by kernel_rfl) (by kernel_rfl) ?_
        refine Wk.iPure 3 (some 22) (.int .i64 ((8 * k : Nat) : Int)) rfl rfl rfl (by kernel_rfl) (by kernel_rfl) ?_
        refine Wk.iPure 4 (some 23) (.int .i64 ((mz : Nat) : Int)) rfl rfl rfl (by kernel_rfl) (by kernel_rfl) ?_
        refine Wk.iPure 5 (some 24) (.int .i64 ((8 * k + mz : Nat) : Int)) rfl rfl rfl (by kernel_rfl) (Wk.int64 (n := ((8 * k : Nat) : Int) + ((mz : Nat) : Int)) (z := ((8 * k + mz : Nat) : Int)) (by omega) (by omega) (by omega) (by kernel_rfl)) ?_
        refine Wk.iPure 6 (some 25) (.int .i64 ((8 * k : Nat) : Int)) rfl rfl rfl (by kernel_rfl) (by kernel_rfl) ?_
        refine Wk.iPure 7 (some 26) (.int .i64 ((mz : Nat) : Int)) rfl rfl rfl (by kernel_rfl) (by kernel_rfl) ?_
        refine Wk.iPure 8 (some 27) (.int .i64 ((8 * k + mz : Nat) : Int)) rfl rfl rfl (by kernel_rfl) (Wk.int64 (n := ((8 * k : Nat) : Int) + ((mz : Nat) : Int)) (z := ((8 * k + mz : Nat) : Int)) (by omega) (by omega) (by omega) (by kernel_rfl)) ?_
        refine Wk.iPure 9 (some 28) (.slice (some ⟨q, off + 8 * k * 97, none⟩) mz mz) rfl rfl rfl (by kernel_rfl) (Mur.run_cutK 22 (.tmp 20) (.tmp 21) (.tmp 24) (.tmp 27) rfl 32 Tryd.underlying22 97 (by kernel_rfl) q off n c (8 * k) (8 * k + mz) (by kernel_rfl) (by kernel_rfl) (by kernel_rfl) (by kernel_rfl) (by omega) (by omega) mz (by omega)) ?_
        refine Wk.iYield 10 (some 29) (.tmp 19) l [.tmp 28] #[22] [.slice (some ⟨q, off + 8 * k * 97, none⟩) mz mz] rfl rfl (by kernel_rfl) rfl (by kernel_rfl) (by kernel_rfl) ((by have h_ := hY _ k _ _ (Mur.range_split (show k < (n + 7) / 8 by omega)) (hJ0 _ _ _ hJk kk1); unfold Mur.encC at h_; rw [← hmz2] at h_; exact h_)) ?_
        rintro _ W9_ ⟨rfl, hJ9, hK9⟩
        refine ⟨_, rfl, ?_⟩
        refine Wk.iPure 11 (some 30) (.bool false) rfl rfl rfl (by kernel_rfl) (by kernel_rfl) ?_
        refine Wk.iEnd 12 rfl ?_
        refine Wk.nxt ?_
        refine wp_cond_false (by kernel_rfl) ?_
        refine wp_skip ?_
        refine Wk.inN ?_
        refine Wk.nxt ?_
        refine Wk.reg ?_
        refine Wk.rPure 0 (some 10) (.int .i64 ((8 * k : Nat) : Int)) rfl rfl (by kernel_rfl) (by kernel_rfl) ?_
        refine Wk.rPure 1 (some 11) (.int .i64 8) rfl rfl (by kernel_rfl) (Wk.load1 3 (.tmp 2) rfl (by kernel_rfl) ⟨b2, 0, none⟩ (by kernel_rfl) (.int .i64 8) ((cell_of_row _ _ 0 _ _ _ (((hK.trans (Wk.Keep.of kk1 (fun k_ hk_ => Nat.lt_of_lt_of_le (hFlt k_ hk_) hsW) (fun _ _ => trivial))).trans hK9).hp hX2 (by simp))).trans rfl)) ?_
        refine Wk.rPure 2 (some 12) (.int .i64 ((8 * (k + 1) : Nat) : Int)) rfl rfl (by kernel_rfl) (Wk.int64 (n := ((8 * k : Nat) : Int) + 8) (z := ((8 * (k + 1) : Nat) : Int)) (by omega) (by omega) (by omega) (by kernel_rfl)) ?_
        refine Wk.rPure 3 (some 4) (.int .i64 ((8 * (k + 1) : Nat) : Int)) rfl rfl (by kernel_rfl) (by kernel_rfl) ?_
        refine Wk.rEnd 4 rfl ?_
        refine Wk.nxt ?_
        refine ⟨_, ?_, k + 1, rfl, by kernel_rfl, (by omega), (by rw [List.range_succ]; exact hJ9), ((hK.trans (Wk.Keep.of kk1 (fun k_ hk_ => Nat.lt_of_lt_of_le (hFlt k_ hk_) hsW) (fun _ _ => trivial))).trans hK9), (by have := hK.size; have := hK9.size; omega)⟩
        · omega
      · obtain rfl : k = (n + 7) / 8 := by omega
        refine wp_seq ?_
        refine wp_seq ?_
        refine Wk.reg ?_
        refine Wk.rPure 0 (some 6) (.int .i64 ((8 * ((n + 7) / 8) : Nat) : Int)) rfl rfl (by kernel_rfl) (by kernel_rfl) ?_
        refine Wk.rPure 1 (some 7) (.slice (some ⟨q, off, none⟩) n c) rfl rfl (by kernel_rfl) (Wk.load1 22 (.tmp 1) rfl (by kernel_rfl) ⟨b1, 0, none⟩ (by kernel_rfl) (.slice (some ⟨q, off, none⟩) n c) ((cell_of_row _ _ 0 _ _ _ hmb1).trans rfl)) ?_
        refine Wk.rPure 2 (some 8) (.int .i64 ((n : Nat) : Int)) rfl rfl (by kernel_rfl) (by kernel_rfl) ?_
        refine Wk.rPure 3 (some 9) (.bool false) rfl rfl (by kernel_rfl) (Wk.boolF (b := decide (((8 * ((n + 7) / 8) : Nat) : Int) < ((n : Nat) : Int))) (decide_eq_false (by omega)) (by kernel_rfl)) ?_
        refine Wk.rEnd 4 rfl ?_
        refine Wk.nxt ?_
        refine wp_cond_false (by kernel_rfl) ?_
        refine wp_exit ?_
        refine Wk.thX ?_
        refine Wk.thX ?_
        refine Wk.inX ?_
        refine Wk.retN (.tuple #[]) rfl (by kernel_rfl) ?_
        exact ⟨⟨_, rfl⟩, hJk⟩
theorem chunk_seq0 (A : Option Addr) (c : Nat) (b1 b2 : Nat) (w : World) (enc : Nat → Array Value) (hX1 : w.heap[b1]? = some (.cells #[.slice A 0 c] 22 (0, 0))) (hX2 : w.heap[b2]? = some (.cells #[.int .i64 8] 3 (0, 0))) : Wk.Seq Tryd.prog 89 #[.pointer (some ⟨b1, 0, none⟩), .pointer (some ⟨b2, 0, none⟩)] enc ([] : List Nat) [b1, b2] w := by
  refine ⟨fun k_ hk_ => ?_, fun l J W hW hJ0 hY hJ => ?_⟩
  · simp only [List.mem_cons, List.not_mem_nil, or_false] at hk_
    rcases hk_ with rfl | rfl
    · exact (Array.getElem?_eq_some_iff.1 hX1).1
    · exact (Array.getElem?_eq_some_iff.1 hX2).1
  · replace hX1 := hW.hp hX1 (by simp)
    replace hX2 := hW.hp hX2 (by simp)
    show Calls Tryd.prog 89 #[.func (.yield l) #[] #[], .pointer (some ⟨b1, 0, none⟩), .pointer (some ⟨b2, 0, none⟩)] W _
    refine calls_of_wp Tryd.func89 rfl ?_
    refine wp_seq ?_
    refine Wk.reg ?_
    refine Wk.rPure 0 (some 4) (.int .i64 0) rfl rfl (by kernel_rfl) (by kernel_rfl) ?_
    refine Wk.rEnd 1 rfl ?_
    refine Wk.nxt ?_
    refine wp_block ?_
    refine Wk.loopN 1 ?_
    refine Wk.rdS ?_
    refine wp_seq ?_
    refine wp_seq ?_
    refine Wk.reg ?_
    refine Wk.rPure 0 (some 6) (.int .i64 0) rfl rfl (by kernel_rfl) (by kernel_rfl) ?_
    refine Wk.rPure 1 (some 7) (.slice A 0 c) rfl rfl (by kernel_rfl) (Wk.load1 22 (.tmp 1) rfl (by kernel_rfl) ⟨b1, 0, none⟩ (by kernel_rfl) (.slice A 0 c) ((cell_of_row _ _ 0 _ _ _ hX1).trans rfl)) ?_
    refine Wk.rPure 2 (some 8) (.int .i64 0) rfl rfl (by kernel_rfl) (by kernel_rfl) ?_
    refine Wk.rPure 3 (some 9) (.bool false) rfl rfl (by kernel_rfl) (Wk.boolF (b := decide ((0 : Int) < (0 : Int))) (decide_eq_false (by decide)) (by kernel_rfl)) ?_
    refine Wk.rEnd 4 rfl ?_
    refine Wk.nxt ?_
    refine wp_cond_false (by kernel_rfl) ?_
    refine wp_exit ?_
    refine Wk.thX ?_
    refine Wk.thX ?_
    refine Wk.inX ?_
    refine Wk.retN (.tuple #[]) rfl (by kernel_rfl) ?_
    exact ⟨⟨_, rfl⟩, hJ⟩
end Go.Proofs.YtfhneademopciaaDoor
namespace Go.Proofs.YtfhneademopciaaDoor
open Go.RowKit
open Mur (b8s Byt Own8 Seg Segs flat cutA attC Att SlA OwnA rowA msgC)
set_option maxRecDepth 100000
set_option maxHeartbeats 4000000
theorem CloneS_any (q off n c : Nat) (L : List Att) (w : World) (h : SlA w (some ⟨q, off, none⟩) n L) (hn : n ≤ 300) : Calls Tryd.prog 51 #[.slice (some ⟨q, off, none⟩) n c] w fun e w' => ∃ A1 c1, e = .returned (.slice A1 n c1) ∧ OwnA w' w.heap.size 32 A1 n c1 L ∧ Wk.Chg [] w w' := by
  have hOl := h.len
  refine calls_of_wp Tryd.func51 rfl ?_
  refine wp_seq ?_
  refine Wk.reg ?_
  refine Wk.rPure 0 (some 2) (.slice none 0 0) rfl rfl (by kernel_rfl) (by kernel_rfl) ?_
  refine Wk.rEnd 1 rfl ?_
  refine Wk.nxt ?_
  refine wp_seq ?_
  refine wp_seq ?_
  refine Wk.reg ?_
  refine Wk.rPure 0 (some 3) (.slice (some ⟨q, off, none⟩) n c) rfl rfl (by kernel_rfl) (by kernel_rfl) ?_
  refine Wk.rPure 1 (some 4) (.bool false) rfl rfl (by kernel_rfl) (by kernel_rfl) ?_
  refine Wk.rEnd 2 rfl ?_
  refine Wk.nxt ?_
  refine wp_cond_false (by kernel_rfl) ?_
  refine wp_skip ?_
  refine Wk.nxt ?_
  refine wp_seq ?_
  refine Wk.reg ?_
  refine Wk.rEx 0 (some 5) _ rfl rfl (by kernel_rfl) (Wk.new_ex (.slice (some ⟨w.heap.size, 0, none⟩) 0 0) #[] 32 (by kernel_rfl)) ?_
  rintro _ W1 ⟨rfl, hb1, ch1, sz1⟩
  have zz1 := ch1.size
  refine Wk.rPure 1 (some 6) (.slice (some ⟨q, off, none⟩) n c) rfl rfl (by kernel_rfl) (by kernel_rfl) ?_
  have ow1 := Mur.ownA_empty hb1 (Nat.le_refl _)
  have kk1 : Wk.Chg [] w W1 := Wk.Chg.step ((Wk.Chg.refl _).more (by simp)) ch1 trivial
  refine Wk.rEx 2 (some 7) _ rfl rfl (by kernel_rfl) (Mur.appendA (.tmp 5) (.tmp 6) 22 32 rfl Tryd.underlying22 attI w.heap.size (some ⟨w.heap.size, 0, none⟩) 0 0 ([]) (some ⟨q, off, none⟩) n c L (by kernel_rfl) (by kernel_rfl) ow1 (Mur.SlA.chg h kk1 (fun g off e hl => trivial)) (fun h => by cases h) (by omega) (by omega) n (by omega) L rfl) ?_
  rintro _ W2 ⟨AA1, nn1, rfl, ow2, ch2, ha1⟩
  have zz2 := ch2.size
  have hq1 := ow2.nc
  have hq2 := ow2.cm
  refine Wk.rPure 3 (some 2) (.slice AA1 n nn1) rfl rfl (by kernel_rfl) (by kernel_rfl) ?_
  refine Wk.rEnd 4 rfl ?_
  refine Wk.nxt ?_
  refine wp_ret ?_
  have kk2 := Wk.Chg.step kk1 ch2 (Wk.newOr_blk (fun g hg => by have := ow1.lt g hg; omega))
  refine Wk.ret (.slice AA1 n nn1) rfl (by kernel_rfl) ?_
  exact ⟨_, _, rfl, ow2, kk2⟩
end Go.Proofs.YtfhneademopciaaDoor
namespace Mur
open Go Go.RowKit Wk
theorem SlA.chunk {w : World} {q off n : Nat} {L : List Att} (h : SlA w (some ⟨q, off, none⟩) n L) (i : Nat) : SlA w (some ⟨q, off + 8 * i * 97, none⟩) (min 8 (n - 8 * i)) ((L.drop (8 * i)).take 8) := by
  have hl := h.len
  have hlen : ((L.drop (8 * i)).take 8).length = min 8 (n - 8 * i) := by rw [List.length_take, List.length_drop, hl]
  refine ⟨hlen, by rw [rowA_len, hlen], fun _ => ⟨q, _, rfl, ?_⟩⟩
  refine range_cut h.rng (8 * i * 97) (rowA ((L.drop (8 * i)).take 8)) ?_
  rw [← rowA_drop, rowA_len, ← rowA_take, List.length_take]
  congr 1
  rcases Nat.le_total 8 (L.drop (8 * i)).length with h1 | h1
  · rw [Nat.min_eq_left h1]
  · rw [Nat.min_eq_right h1, List.take_length, List.take_of_length_le h1]
end Mur
namespace Go.Proofs.YtfhneademopciaaDoor
open Go.RowKit Wk
theorem msgI : (Tryd.prog.info? 66).map (fun i => (i.zero, i.size, i.bytes)) = some (some (.agg Mur.msgZ.toArray), 37, 104) := by kernel_rfl
end Go.Proofs.YtfhneademopciaaDoor
namespace Mur
open Go Go.RowKit Wk
theorem RawOk.cells {w : World} {r : Raw} {m : Msg} (h : RawOk w r m) : ∀ q, q ∈ r.subs → ∃ o : Obj, w.heap[q]? = some o ∧ o.isCells = true := fun q hq => by
  rcases List.mem_append.1 hq with hq | hq
  · unfold pblk at hq
    by_cases hn : r.pn = 0
    · rw [if_pos hn] at hq
      cases hq
    · rw [if_neg hn] at hq
      obtain ⟨g, off, e, hc⟩ := h.byt.2 (by omega)
      rw [e] at hq
      simp at hq
      subst hq
      exact cell_isCells (hc 0 (by omega))
  · unfold pblk at hq
    by_cases hn : r.an = 0
    · rw [if_pos hn] at hq
      cases hq
    · rw [if_neg hn] at hq
      obtain ⟨g, off, e, hc⟩ := h.sl.ex (by omega)
      rw [e] at hq
      simp at hq
      subst hq
      have hl := h.sl.len
      have hr := rowA_len m.items
      exact cell_isCells (hc 0 _ (List.getElem?_eq_getElem (by omega)))
theorem RawsOk.cells {w : World} : ∀ {R : List Raw} {M : List Msg}, RawsOk w R M → ∀ q, q ∈ subsL R → ∃ o : Obj, w.heap[q]? = some o ∧ o.isCells = true
  | [], [], _, q, hq => by simp [subsL] at hq
  | [], _ :: _, h, _, _ => h.elim
  | _ :: _, [], h, _, _ => h.elim
  | r :: R, m :: M, h, q, hq => by
    simp only [subsL, List.flatMap_cons, List.mem_append] at hq
    rcases hq with hq | hq
    · exact h.1.cells q hq
    · exact RawsOk.cells h.2 q hq
theorem RawsOk.lt {w : World} {R : List Raw} {M : List Msg} (h : RawsOk w R M) : ∀ q, q ∈ subsL R → q < w.heap.size := fun q hq => by
  obtain ⟨o, ho, _⟩ := h.cells q hq
  exact (Array.getElem?_eq_some_iff.1 ho).1
theorem RawsOk.chg {w w' : World} {R : List Raw} {M : List Msg} {T : List Nat} (h : RawsOk w R M) (c : Chg T w w') (ho : ∀ q, q ∈ subsL R → Off q T) : RawsOk w' R M :=
  RawsOk.keep (Keep.of c (fun q hq => h.lt q hq) ho) h fun _ hq => hq
theorem OwnR.cells {w : World} {base e sz n c : Nat} {A : Option Addr} {R : List (List Value)} (h : OwnR w base e sz A n c R) : ∀ q, (Value.slice A n c).ownBlock = some q → ∃ o : Obj, w.heap[q]? = some o ∧ o.isCells = true := fun q hq => by
  rcases h.own.2 with ⟨e0, _⟩ | ⟨g', cap, cur, e0, _, hg, _⟩
  · injection e0 with e1
    subst e1
    cases hq
  · injection e0 with e1
    subst e1
    obtain rfl : g' = q := by simpa [Value.ownBlock] using hq
    exact ⟨_, hg, rfl⟩
/-- The message of a chunk. -/
def chunkM (p : List UInt8) (L : List Att) (b : Bool) (i : Nat) : Msg := ⟨2, p, z32, 0, (L.drop (8 * i)).take 8, b⟩
theorem chunkM_all (p : List UInt8) (L : List Att) (b : Bool) : (List.range ((L.length + 7) / 8)).map (chunkM p L b) = itemsM p L b := by
  unfold itemsM chunks
  rw [List.map_map]
  rfl
theorem subsL_append (R T : List Raw) : subsL (R ++ T) = subsL R ++ subsL T := by simp [subsL]
theorem subsL_one (r : Raw) : subsL [r] = r.subs := by simp [subsL]
end Mur
