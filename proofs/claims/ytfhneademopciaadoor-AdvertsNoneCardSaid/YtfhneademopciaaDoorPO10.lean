/- adverts: what is below a prefix, collected. Parts: a slice of results' bytes, of one's own. No program in sight. adverts: sums. What is known of one result; a result built of a key and a length. -/
import Derived.Test.YtfhneademopciaaDoorProg
import Derived.Test.YtfhneademopciaaDoorPO9
import Derived.Test.YtfhneademopciaaDoorPO5
namespace Go.Proofs.YtfhneademopciaaDoor
open Go.RowKit
open Mur (b8s Byt Own8 Seg Segs flat cutA attC Att SlA OwnA rowA)
set_option maxRecDepth 100000
set_option maxHeartbeats 4000000
theorem AppendSeq_any (b1 b2 : Nat) (xs : List Att) (F : List Nat) (w : World) (hseq : Wk.Seq Tryd.prog 64 #[.pointer (some ⟨b1, 0, none⟩), .pointer (some ⟨b2, 0, none⟩)] Mur.encA xs F w) (hlen : xs.length ≤ 200) : Calls Tryd.prog 67 #[.slice none 0 0, .func (.func 64) #[] #[.pointer (some ⟨b1, 0, none⟩), .pointer (some ⟨b2, 0, none⟩)]] w fun e w' => ∃ A n c, e = .returned (.slice A n c) ∧ OwnA w' w.heap.size 32 A n c xs ∧ Wk.Chg [] w w' := by
  refine Wk.calls_of_wpM Tryd.func67 rfl ?_
  refine Wk.noP ?_
  refine wp_seq ?_
  refine Wk.reg ?_
  refine Wk.rEx 0 (some 2) _ rfl rfl (by kernel_rfl) (Wk.new_ex (.pointer (some ⟨w.heap.size, 0, none⟩)) #[.slice none 0 0] 22 (by kernel_rfl)) ?_
  rintro _ W1 ⟨rfl, hb1, ch1, sz1⟩
  have zz1 := ch1.size
  refine Wk.rPure 1 (some 4) (.slice none 0 0) rfl rfl (by kernel_rfl) (by kernel_rfl) ?_
  refine Wk.rEnd 2 rfl ?_
  refine Wk.nxt ?_
  refine wp_seq ?_
  refine wp_seq ?_
  refine Wk.reg ?_
  refine Wk.rPure 0 (some 6) (.func (.func 64) #[] #[.pointer (some ⟨b1, 0, none⟩), .pointer (some ⟨b2, 0, none⟩)]) rfl rfl (by kernel_rfl) (by kernel_rfl) ?_
  refine Wk.rEnd 1 rfl ?_
  refine Wk.nxt ?_
  refine wp_block ?_
  have kk1 : Wk.Chg [] w W1 := Wk.Chg.step ((Wk.Chg.refl _).more (by simp)) ch1 trivial
  have hFw := (Wk.Seq.chg hseq kk1 (fun _ _ => trivial)).1
  have hFb_ : ∀ k_, k_ ∈ F → k_ ≠ w.heap.size := fun k_ hk_ => by have := hseq.1 k_ hk_; omega
  refine Wk.range ((Wk.Seq.chg hseq kk1 (fun _ _ => trivial))) (by kernel_rfl) (fun _ _ => by kernel_rfl) (fun x => rfl) (fun pre W' => ∃ A n c, W'.heap[w.heap.size]? = some (.cells #[.slice A n c] 22 (0, 0)) ∧ OwnA W' W1.heap.size 32 A n c pre ∧ Wk.Chg [w.heap.size] W1 W') ?_ ?_ ?_ ?_ ?_
  · rintro pre A1_ A2_ ⟨A, n, c, h1, h2, h3⟩ hc
    exact ⟨A, n, c, hc.hp h1 trivial, h2.chg hc (fun _ _ _ _ => trivial), h3.step hc trivial⟩
  · rintro pre A1_ A2_ r_ o_ ⟨A, n, c, h1, h2, h3⟩ hr ho hoc hc
    exact ⟨A, n, c, hc.hp h1 ⟨Mur.cells_ne h1 ho hoc, trivial⟩, h2.chg hc (fun q hq _ _ => ⟨h2.off_obj ho hoc q hq, trivial⟩), h3.step hc ⟨.inr hr, trivial⟩⟩
  · exact ⟨none, 0, 0, hb1, Mur.ownA_nil _ _ _, (Wk.Chg.refl _).more (by simp)⟩
  · intro lz pre x post A1 hsp hI hwl hlA hlz
    obtain ⟨A, n, c, hIp, hIo, hIc⟩ := hI
    have hzI_ := hIc.size
    have hIlen := hIo.sl.len
    have hInc := hIo.nc
    have hbl_ := (Array.getElem?_eq_some_iff.1 hIp).1
    have hbz := Mur.cells_ne' hIp hlz
    have hIol := hIo.off_loop hlz
    have hpl_ : pre.length + 1 ≤ 200 := by have := congrArg List.length hsp; simp at this; omega
    have hfl_ := List.length_filter_le (fun _ : Att => true) pre
    refine Wk.regI ?_
    refine Wk.iEx 0 (some 5) _ rfl rfl rfl (by kernel_rfl) (Wk.new_ex (.pointer (some ⟨A1.heap.size, 0, none⟩)) #[.int .u8 0, .int .u8 0, .int .u8 0, .int .u8 0, .int .u8 0, .int .u8 0, .int .u8 0, .int .u8 0, .int .u8 0, .int .u8 0, .int .u8 0, .int .u8 0, .int .u8 0, .int .u8 0, .int .u8 0, .int .u8 0, .int .u8 0, .int .u8 0, .int .u8 0, .int .u8 0, .int .u8 0, .int .u8 0, .int .u8 0, .int .u8 0, .int .u8 0, .int .u8 0, .int .u8 0, .int .u8 0, .int .u8 0, .int .u8 0, .int .u8 0, .int .u8 0, .int .u8 0, .int .u8 0, .int .u8 0, .int .u8 0, .int .u8 0, .int .u8 0, .int .u8 0, .int .u8 0, .int .u8 0, .int .u8 0, .int .u8 0, .int .u8 0, .int .u8 0, .int .u8 0, .int .u8 0, .int .u8 0, .int .u8 0, .int .u8 0, .int .u8 0, .int .u8 0, .int .u8 0, .int .u8 0, .int .u8 0, .int .u8 0, .int .u8 0, .int .u8 0, .int .u8 0, .int .u8 0, .int .u8 0, .int .u8 0, .int .u8 0, .int .u8 0, .int .i64 0, .int .u8 0, .int .u8 0, .int .u8 0, .int .u8 0, .int .u8 0, .int .u8 0, .int .u8 0, .int .u8 0, .int .u8 0, .int .u8 0, .int .u8 0, .int .u8 0, .int .u8 0, .int .u8 0, .int .u8 0, .int .u8 0, .int .u8 0, .int .u8 0, .int .u8 0, .int .u8 0, .int .u8 0, .int .u8 0, .int .u8 0, .int .u8 0, .int .u8 0, .int .u8 0, .int .u8 0, .int .u8 0, .int .u8 0, .int .u8 0, .int .u8 0, .int .u8 0] 32 (by kernel_rfl)) ?_
    rintro _ W2 ⟨rfl, hb2, ch2, sz2⟩
    have zz2 := ch2.size
    rw [← Mur.attC_zero] at hb2
    refine Wk.iExS 1 none _ rfl rfl rfl (by kernel_rfl) (Mur.storeArr 32 (.tmp 5) (.tmp 7) rfl A1.heap.size (by kernel_rfl) (Mur.attC x.k x.r x.n x.t).toArray 97 (Mur.attC_size x.hk x.hr x.ht) Mur.attC_all (by kernel_rfl) (by kernel_rfl) 32 ((Mur.attC Mur.z32 Mur.z32 0 Mur.z32).toArray) hb2 (Mur.attC_size rfl rfl rfl)) ?_
    rintro W3 ⟨hb3, ch3⟩
    have zz3 := ch3.size
    refine Wk.iEnd 2 rfl ?_
    refine Wk.nxt ?_
    have kk2 : Wk.Chg [] A1 W2 := Wk.Chg.step ((Wk.Chg.refl _).more (by simp)) ch2 trivial
    have kk3 := Wk.Chg.step kk2 ch3 ⟨.inr (by omega), trivial⟩
    refine ⟨kk3, ?_⟩
    have hlz2_ := hlz.imp (fun _ h_ => Wk.Chg.hp kk3 h_ trivial)
    intro A2 hch2
    have zz4 := hch2.size
    refine wpIn_block ?_
    refine Wk.regI ?_
    refine Wk.iPure 0 (some 8) (.slice A n c) rfl rfl rfl (by kernel_rfl) (Wk.load1 22 (.tmp 2) rfl (by kernel_rfl) ⟨w.heap.size, 0, none⟩ (by kernel_rfl) (.slice A n c) ((cell_of_row _ _ 0 _ _ _ (Wk.Chg.hp hch2 (Wk.Chg.hp ch3 (Wk.Chg.hp ch2 hIp trivial) ⟨by omega, trivial⟩) ⟨by omega, trivial⟩)).trans rfl)) ?_
    refine Wk.iPure 1 (some 9) (.agg ((Mur.attC x.k x.r x.n x.t).toArray)) rfl rfl rfl (by kernel_rfl) (Mur.loadArr 32 (.tmp 5) rfl _ Tryd.underlying32 rfl A1.heap.size (by kernel_rfl) (Mur.attC x.k x.r x.n x.t).toArray 97 (Mur.attC_size x.hk x.hr x.ht) (by kernel_rfl) 32 (0, 0) (Wk.Chg.hp hch2 hb3 ⟨by omega, trivial⟩)) ?_
    refine Wk.iEx 2 (some 10) _ rfl rfl rfl (by kernel_rfl) (Mur.build1 22 32 (.tmp 9) rfl Tryd.underlying22 attI x.k x.r x.t x.n x.hk x.hr x.ht (by kernel_rfl)) ?_
    rintro _ W4 ⟨rfl, hb4, ch4, sz3⟩
    have zz5 := ch4.size
    have ow1 := Mur.OwnA.chg hIo ch2 (fun q e _ _ => trivial)
    have ow2 := Mur.OwnA.chg ow1 ch3 (fun q e _ _ => ⟨by have := hIo.lt q e; omega, trivial⟩)
    have ow3 := Mur.OwnA.chg ow2 hch2 (fun q e _ _ => ⟨hIol q e, trivial⟩)
    have ow4 := Mur.OwnA.chg ow3 ch4 (fun q e _ _ => trivial)
    refine Wk.iEx 3 (some 11) _ rfl rfl rfl (by kernel_rfl) (Mur.appendA (.tmp 8) (.tmp 10) 22 32 rfl Tryd.underlying22 attI W1.heap.size A n c pre (some ⟨A2.heap.size, 0, none⟩) 1 1 ([x]) (by kernel_rfl) (by kernel_rfl) ow4 (Mur.slA_box x hb4) (fun h => by cases h) (by omega) (by omega) (n + 1) (by omega) (pre ++ ([x])) rfl) ?_
    rintro _ W5 ⟨AA1, nn1, rfl, ow5, ch5, ha1⟩
    have zz6 := ch5.size
    have hq1 := ow5.nc
    have hq2 := ow5.cm
    refine Wk.iExS 4 none _ rfl rfl rfl (by kernel_rfl) (Wk.store1 22 (.tmp 2) (.tmp 11) rfl (by kernel_rfl) w.heap.size 0 (by kernel_rfl) (.slice AA1 (n + 1) nn1) (by kernel_rfl) rfl 22 #[.slice A n c] (Wk.Chg.hp ch5 (Wk.Chg.hp ch4 (Wk.Chg.hp hch2 (Wk.Chg.hp ch3 (Wk.Chg.hp ch2 hIp trivial) ⟨by omega, trivial⟩) ⟨by omega, trivial⟩) trivial) (Wk.off_blk (fun gz hgz => by have := hIo.lt gz hgz; omega))) (by simp)) ?_
    rintro W6 ⟨hb5, ch6⟩
    replace hb5 : W6.heap[w.heap.size]? = some (.cells #[.slice AA1 (n + 1) nn1] 22 (0, 0)) := hb5
    have zz7 := ch6.size
    refine Wk.iEnd 5 rfl ?_
    refine Wk.inN ?_
    have kk4 : Wk.Chg ([w.heap.size] ++ Wk.blk (.slice A n c)) A2 W4 := Wk.Chg.step ((Wk.Chg.refl _).more (by simp)) ch4 trivial
    have kk5 := Wk.Chg.step kk4 ch5 (Mur.newOr_iff.2 (fun t ht => .inl (List.mem_append_right _ ht)))
    have kk6 := Wk.Chg.step kk5 ch6 ⟨.inl (by simp), trivial⟩
    have kk7 := Wk.Chg.step hIc ch2 trivial
    have kk8 := Wk.Chg.step kk7 ch3 ⟨.inr (by omega), trivial⟩
    have kk9 := Wk.Chg.step kk8 hch2 ⟨.inr (by omega), trivial⟩
    have kk10 := Wk.Chg.step kk9 ch4 trivial
    have kk11 := Wk.Chg.step kk10 ch5 (Wk.newOr_blk (fun g hg => by have := hIo.lt g hg; omega))
    have kk12 := Wk.Chg.step kk11 ch6 ⟨.inl (by simp), trivial⟩
    have ow6 := Mur.OwnA.chg ow5 ch6 (fun q e _ _ => ⟨by have := ow5.lt q e; omega, trivial⟩)
    refine Wk.roundN _ kk6 (fun s_ hs_ hlt_ => ?_) (fun k_ hk_ => ⟨hFb_ k_ hk_, Wk.off_blk (fun q hq => by have := hIo.lt q hq; have := hFw k_ hk_; omega)⟩) ⟨_, _, _, hb5, ow6, kk12⟩
    rcases List.mem_cons.1 hs_ with rfl | hs_
    · exact ⟨_, (hch2.hp (ch3.hp (ch2.hp hIp trivial) ⟨by omega, trivial⟩) ⟨hbz, trivial⟩), rfl⟩
    · exact (Mur.OwnA.chg (Mur.OwnA.chg (Mur.OwnA.chg hIo ch2 (fun q e _ _ => trivial)) ch3 (fun q e _ _ => ⟨by have := hIo.lt q e; omega, trivial⟩)) hch2 (fun q e _ _ => ⟨hIol q e, trivial⟩)).isCells hs_
  · intro D W9 hI hwD hKD
    obtain ⟨A, n, c, hIp, hIo, hIc⟩ := hI
    have hzI_ := hIc.size
    have hIlen := hIo.sl.len
    have hInc := hIo.nc
    have hbl_ := (Array.getElem?_eq_some_iff.1 hIp).1
    have hbD := Mur.cells_ne hIp hKD rfl
    have hIoD := hIo.off_obj hKD rfl
    have hDl := (Array.getElem?_eq_some_iff.1 hKD).1
    have hW9 : Wk.Chg [] w W9 := Wk.Chg.step kk1 hIc ⟨.inr (by omega), trivial⟩
    refine Wk.inN ?_
    refine Wk.nxt ?_
    refine wp_seq ?_
    refine Wk.reg ?_
    refine Wk.rPure 0 (some 12) (.slice A n c) rfl rfl (by kernel_rfl) (Wk.load1 22 (.tmp 2) rfl (by kernel_rfl) ⟨w.heap.size, 0, none⟩ (by kernel_rfl) (.slice A n c) ((cell_of_row _ _ 0 _ _ _ hIp).trans rfl)) ?_
    refine Wk.rPure 1 (some 4) (.slice A n c) rfl rfl (by kernel_rfl) (by kernel_rfl) ?_
    refine Wk.rEnd 2 rfl ?_
    refine Wk.nxt ?_
    refine wp_ret ?_
    refine Wk.npR ?_
    refine Wk.retM D rfl hKD ?_
    intro W7 ch7
    have zz8 := ch7.size
    have ow7 := Mur.OwnA.chg hIo ch7 (fun q e _ _ => ⟨hIoD q e, trivial⟩)
    have kk13 := Wk.Chg.step hW9 ch7 ⟨.inr (by omega), trivial⟩
    exact ⟨.slice A n c, by kernel_rfl, ⟨_, _, _, rfl, ow7.rebase (fun q_ h_ => by have := hIo.lt q_ h_; omega), kk13⟩⟩
theorem Collect_any (b1 b2 : Nat) (xs : List Att) (F : List Nat) (w : World) (hseq : Wk.Seq Tryd.prog 64 #[.pointer (some ⟨b1, 0, none⟩), .pointer (some ⟨b2, 0, none⟩)] Mur.encA xs F w) (hlen : xs.length ≤ 200) : Calls Tryd.prog 44 #[.func (.func 64) #[] #[.pointer (some ⟨b1, 0, none⟩), .pointer (some ⟨b2, 0, none⟩)]] w fun e w' => ∃ A n c, e = .returned (.slice A n c) ∧ OwnA w' w.heap.size 32 A n c xs ∧ Wk.Chg [] w w' := by
  refine calls_of_wp Tryd.func44 rfl ?_
  refine wp_seq ?_
  refine Wk.reg ?_
  refine Wk.rPure 0 (some 2) (.slice none 0 0) rfl rfl (by kernel_rfl) (by kernel_rfl) ?_
  refine Wk.rEnd 1 rfl ?_
  refine Wk.nxt ?_
  refine wp_seq ?_
  refine Wk.reg ?_
  refine Wk.rPure 0 (some 3) (.func (.func 64) #[] #[.pointer (some ⟨b1, 0, none⟩), .pointer (some ⟨b2, 0, none⟩)]) rfl rfl (by kernel_rfl) (by kernel_rfl) ?_
  refine Wk.rCall 1 (some 4) 67 [.const (.slice none 0 0), .tmp 3] #[22, 85] [.slice none 0 0, .func (.func 64) #[] #[.pointer (some ⟨b1, 0, none⟩), .pointer (some ⟨b2, 0, none⟩)]] rfl rfl (by kernel_rfl) rfl (by kernel_rfl) (by kernel_rfl) ?_
  refine (AppendSeq_any b1 b2 xs F w hseq hlen).mono ?_
  rintro _ W1 ⟨AA1, nn1, nn2, rfl, ow1, ch1⟩
  have zz1 := ch1.size
  have hq1 := ow1.nc
  have hq2 := ow1.cm
  have hq3 := ow1.sl.len
  refine ⟨_, rfl, ?_⟩
  refine Wk.rPure 2 (some 2) (.slice AA1 nn1 nn2) rfl rfl (by kernel_rfl) (by kernel_rfl) ?_
  refine Wk.rEnd 3 rfl ?_
  refine Wk.nxt ?_
  refine wp_ret ?_
  have kk1 : Wk.Chg [] w W1 := Wk.Chg.step ((Wk.Chg.refl _).more (by simp)) ch1 trivial
  refine Wk.ret (.slice AA1 nn1 nn2) rfl (by kernel_rfl) ?_
  exact ⟨_, _, _, rfl, ow1, kk1⟩
theorem Below_any (lo : Nat) (L : List Att) (g : Nat) (F : List Nat) (p : List UInt8) (A : Option Addr) (n c : Nat) (w : World) (h : Mur.SetF 32 57 lo w g L F) (hb : Byt w A n p) (hn : n ≤ 9223372036854775807) : Calls Tryd.prog 18 #[.pointer (some ⟨g, 0, none⟩), .slice A n c] w fun e w' => ∃ A n c, e = .returned (.slice A n c) ∧ OwnA w' w.heap.size 32 A n c (Mur.belowL p L) ∧ Wk.Chg [] w w' := by
  have hM_ := Mur.SetF.mem h
  have hS_ := Mur.SetF.len h
  refine calls_of_wp Tryd.func18 rfl ?_
  refine wp_seq ?_
  refine Wk.reg ?_
  refine Wk.rPure 0 (some 4) (.slice none 0 0) rfl rfl (by kernel_rfl) (by kernel_rfl) ?_
  refine Wk.rEnd 1 rfl ?_
  refine Wk.nxt ?_
  refine wp_seq ?_
  refine Wk.reg ?_
  refine Wk.rPure 0 (some 5) (.pointer (some ⟨g, 0, none⟩)) rfl rfl (by kernel_rfl) (by kernel_rfl) ?_
  refine Wk.rPure 1 (some 6) (.slice A n c) rfl rfl (by kernel_rfl) (by kernel_rfl) ?_
  refine Wk.rCall 2 (some 7) 42 [.tmp 5, .tmp 6] #[24, 38] [.pointer (some ⟨g, 0, none⟩), .slice A n c] rfl rfl (by kernel_rfl) rfl (by kernel_rfl) (by kernel_rfl) ?_
  refine (below_any g A n c w).mono ?_
  rintro _ W1 ⟨bq1, bq2, rfl, hbq1, hbq2, hzq1, hzq2, hzq3, ch1⟩
  have zz1 := ch1.size
  refine ⟨_, rfl, ?_⟩
  refine Wk.rCall 3 (some 8) 44 [.tmp 7] #[85] [.func (.func 64) #[] #[.pointer (some ⟨bq1, 0, none⟩), .pointer (some ⟨bq2, 0, none⟩)]] rfl rfl (by kernel_rfl) rfl (by kernel_rfl) (by kernel_rfl) ?_
  have kk1 : Wk.Chg [] w W1 := Wk.Chg.step ((Wk.Chg.refl _).more (by simp)) ch1 trivial
  have hD1 := Mur.SetF.chg h ch1 (fun s hs => trivial)
  refine (Collect_any bq1 bq2 (Mur.belowL p L) (bq1 :: bq2 :: (F ++ Mur.pblk A n)) W1 (below_seq lo L g F p A n c bq1 bq2 W1 hD1 (Mur.byt_chg hb kk1 (fun g off e hl => trivial)) (by omega) hbq1 hbq2) (Nat.le_trans (Mur.belowL_len p L) hS_)).mono ?_
  rintro _ W2 ⟨AA1, nn1, nn2, rfl, ow1, ch2⟩
  have zz2 := ch2.size
  have hq1 := ow1.nc
  have hq2 := ow1.cm
  have hq3 := ow1.sl.len
  refine ⟨_, rfl, ?_⟩
  refine Wk.rPure 4 (some 4) (.slice AA1 nn1 nn2) rfl rfl (by kernel_rfl) (by kernel_rfl) ?_
  refine Wk.rEnd 5 rfl ?_
  refine Wk.nxt ?_
  refine wp_ret ?_
  have kk2 := Wk.Chg.step kk1 ch2 trivial
  refine Wk.ret (.slice AA1 nn1 nn2) rfl (by kernel_rfl) ?_
  exact ⟨_, _, _, rfl, ow1.rebase (fun q_ h_ => by have := ow1.lt q_ h_; omega), kk2⟩
end Go.Proofs.YtfhneademopciaaDoor
namespace Mur
open Go Go.RowKit Wk
/-- The bytes of a result, in a block of their own. -/
structure PSeg (w : World) (lo : Nat) (no : Option Nat) (s : Seg) (x : Att) : Prop where
  n : s.n = 104
  l : s.l = x.raw
  nc : 104 ≤ s.c
  cm : s.c ≤ maxLen
  at_ : ∃ q, s.A = some ⟨q, 0, none⟩ ∧ lo ≤ q ∧ q < w.heap.size ∧ no ≠ some q
  byt : Byt w s.A 104 s.l
def PSegs (w : World) (lo : Nat) (no : Option Nat) : List Seg → List Att → Prop
  | [], [] => True
  | s :: S, x :: X => PSeg w lo no s x ∧ PSegs w lo no S X
  | _, _ => False
theorem cell_isCells {w : World} {g o : Nat} {v : Value} (h : w.cell? ⟨g, o, none⟩ = some v) : ∃ o : Obj, w.heap[g]? = some o ∧ o.isCells = true := by
  unfold World.cell? at h
  cases ho : w.heap[g]? with
  | none => simp [ho] at h
  | some x => exact ⟨x, rfl, by cases x <;> simp_all [Obj.isCells]⟩
section
variable {w w' : World} {lo : Nat} {no no' : Option Nat} {S : List Seg} {X : List Att}
theorem PSegs.length (h : PSegs w lo no S X) : S.length = X.length := by
  induction S generalizing X with
  | nil => cases X with
    | nil => rfl
    | cons x X => exact h.elim
  | cons s S ih => cases X with
    | nil => exact h.elim
    | cons x X => simp only [List.length_cons, ih h.2]
theorem PSeg.imp {s : Seg} {x : Att} {T : List Nat} (h : PSeg w lo no s x) (c : Chg T w w') (ho : ∀ q, lo ≤ q → q < w.heap.size → no ≠ some q → (∃ o : Obj, w.heap[q]? = some o ∧ o.isCells = true) → Off q T ∧ no' ≠ some q) : PSeg w' lo no' s x := by
  obtain ⟨q, hq, h1, h2, h3⟩ := h.at_
  have hb := h.byt
  have hc : ∃ o : Obj, w.heap[q]? = some o ∧ o.isCells = true := by
    rw [hq] at hb
    exact cell_isCells (byt_cell hb 0 (by omega))
  obtain ⟨h4, h5⟩ := ho q h1 h2 h3 hc
  have hsz := c.size
  exact ⟨h.n, h.l, h.nc, h.cm, ⟨q, hq, h1, by omega, h5⟩, byt_chg hb c fun g off e _ => by rw [hq] at e; cases e; exact h4⟩
theorem PSegs.imp {T : List Nat} (c : Chg T w w') (ho : ∀ q, lo ≤ q → q < w.heap.size → no ≠ some q → (∃ o : Obj, w.heap[q]? = some o ∧ o.isCells = true) → Off q T ∧ no' ≠ some q) (h : PSegs w lo no S X) : PSegs w' lo no' S X := by
  induction S generalizing X with
  | nil => cases X with
    | nil => trivial
    | cons x X => exact h.elim
  | cons s S ih => cases X with
    | nil => exact h.elim
    | cons x X => exact ⟨h.1.imp c ho, ih h.2⟩
theorem PSegs.snoc {s : Seg} {x : Att} (hs : PSeg w lo no s x) (h : PSegs w lo no S X) : PSegs w lo no (S ++ [s]) (X ++ [x]) := by
  induction S generalizing X with
  | nil => cases X with
    | nil => exact ⟨hs, trivial⟩
    | cons x X => exact h.elim
  | cons s S ih => cases X with
    | nil => exact h.elim
    | cons x X => exact ⟨h.1, ih h.2⟩
theorem PSegs.ok (h : PSegs w lo no S X) : ∀ s, s ∈ S → SegOk w s := by
  induction S generalizing X with
  | nil => exact fun s hs => by cases hs
  | cons t S ih => cases X with
    | nil => exact h.elim
    | cons x X =>
      intro s hs
      rcases List.mem_cons.1 hs with rfl | hs
      · obtain ⟨q, hq, _⟩ := h.1.at_
        exact ⟨by rw [h.1.n]; exact h.1.nc, (fun e => by rw [hq] at e; cases e), (by rw [h.1.n]; exact h.1.byt), h.1.cm⟩
      · exact ih h.2 s hs
theorem PSegs.flat (h : PSegs w lo no S X) : Mur.flat S = (X.map Att.raw).flatten := by
  induction S generalizing X with
  | nil => cases X with
    | nil => rfl
    | cons x X => exact h.elim
  | cons s S ih => cases X with
    | nil => exact h.elim
    | cons x X =>
      have := ih h.2
      show s.l ++ Mur.flat S = _
      rw [this, h.1.l]
      rfl
end
/-- A slice of results' bytes, of one's own. -/
def PartsA (w : World) (base lo e : Nat) (A : Option Addr) (n c : Nat) (M : List Att) : Prop := ∃ S : List Seg, w.ownsRow base e 1 (.slice A n c) n (S.map Seg.v) ∧ PSegs w lo (Value.slice A n c).ownBlock S M
section
variable {w w' : World} {base lo e n c : Nat} {A : Option Addr} {M : List Att}
theorem partsA_nil (w : World) (base lo e : Nat) : PartsA w base lo e none 0 0 [] := ⟨[], ⟨rfl, .inl ⟨rfl, rfl⟩⟩, trivial⟩
theorem PartsA.len (h : PartsA w base lo e A n c M) : M.length = n := by
  obtain ⟨S, h1, h2⟩ := h
  have := h1.1
  rw [List.length_map, h2.length] at this
  omega
theorem PartsA.nc (h : PartsA w base lo e A n c M) : n ≤ c ∧ c ≤ maxLen ∧ (A = none → c = 0) := by
  obtain ⟨S, h1, h2⟩ := h
  obtain ⟨A', c', e1, k1, k2, k3, _⟩ := own_sl h1
  injection e1 with e1 _ e2
  subst e1 e2
  exact ⟨k1, k2, k3⟩
theorem PartsA.lt (h : PartsA w base lo e A n c M) : ∀ k, (Value.slice A n c).ownBlock = some k → base ≤ k ∧ k < w.heap.size := let ⟨_, h1, _⟩ := h; World.ownsRow.lt h1
theorem PartsA.cells (h : PartsA w base lo e A n c M) {k : Nat} (hk : (Value.slice A n c).ownBlock = some k) : ∃ o : Obj, w.heap[k]? = some o ∧ o.isCells = true := by
  obtain ⟨S, h1, h2⟩ := h
  rcases h1.2 with ⟨e0, _⟩ | ⟨g, cap, cur, e0, _, hg, _⟩
  · injection e0 with e1
    subst e1
    cases hk
  · injection e0 with e1
    subst e1
    have : g = k := by simpa [Value.ownBlock] using hk
    subst this
    exact ⟨_, hg, rfl⟩
theorem PartsA.chg {T : List Nat} (h : PartsA w base lo e A n c M) (ch : Chg T w w') (hlo : lo ≤ base) (ho : ∀ q, lo ≤ q → q < w.heap.size → (∃ o : Obj, w.heap[q]? = some o ∧ o.isCells = true) → Off q T) : PartsA w' base lo e A n c M := by
  have hc := fun k hk => h.cells (k := k) hk
  obtain ⟨S, h1, h2⟩ := h
  exact ⟨S, own_chg h1 ch fun g hg k1 k2 => ho g (by omega) k2 (hc g hg), PSegs.imp ch (fun q k1 k2 k3 k4 => ⟨ho q k1 k2 k4, k3⟩) h2⟩
theorem off_noncells {r : Nat} {o : Obj} (ho : w.heap[r]? = some o) (hc : o.isCells = false) {q : Nat} (h : ∃ o : Obj, w.heap[q]? = some o ∧ o.isCells = true) : q ≠ r := fun e => by
  obtain ⟨o', h1, h2⟩ := h
  rw [e, ho] at h1
  cases h1
  rw [hc] at h2
  cases h2
theorem off_loop {r : Nat} (ho : ∃ x, w.heap[r]? = some (.loop x)) {q : Nat} (h : ∃ o : Obj, w.heap[q]? = some o ∧ o.isCells = true) : q ≠ r := let ⟨_, k⟩ := ho; off_noncells k rfl h
theorem PartsA.segs (h : PartsA w base lo e A n c M) : ∃ S, Segs w A n S ∧ Mur.flat S = (M.map Att.raw).flatten := by
  obtain ⟨S, h1, h2⟩ := h
  obtain ⟨A', c', e1, _, _, _, k4, _⟩ := own_sl h1
  injection e1 with e1 _ e2
  subst e1
  have hl : S.length = n := by have := h1.1; rw [List.length_map] at this; omega
  refine ⟨S, ⟨hl, fun s hs => h2.ok s hs, fun hn => ?_⟩, h2.flat⟩
  obtain ⟨g, off, eA, hr⟩ := k4.2 (by
    intro q
    have := congrArg List.length q
    rw [List.length_map, hl] at this
    simp at this
    omega)
  exact ⟨g, off, eA, fun i s hs => hr i s.v (by rw [List.getElem?_map, hs]; rfl)⟩
end
section
variable {P : Program} {w : World} {a : Act} {o : Oper}
theorem appendP (s x : Operand) (t e : TypeId) (ho : o.op = .call { callee := .builtin .append, args := #[s, x], argTypes := #[t, t] }) (ht : P.underlying t = some (.slice e)) (hinfo : (P.info? e).map (fun i => (i.zero, i.size, i.bytes)) = some (some (.slice none 0 0), 1, 24))
    (base lo : Nat) (A0 : Option Addr) (n c0 : Nat) (M : List Att) (g q d : Nat) (y : Att) (fr : Nat × Nat) (t1 : TypeId) (hs : a.eval s = .slice A0 n c0) (hx : a.eval x = .slice (some ⟨g, 0, none⟩) 1 1) (H : PartsA w base lo e A0 n c0 M)
    (hg : w.heap[g]? = some (.cells #[.slice (some ⟨q, 0, none⟩) 104 d] t1 fr)) (hb : Byt w (some ⟨q, 0, none⟩) 104 y.raw) (hq : lo ≤ q ∧ q < w.heap.size) (hd : 104 ≤ d) (hdm : d ≤ maxLen) (hno : (Value.slice A0 n c0).ownBlock ≠ some q) (hbase : base ≤ w.heap.size) (hl : n ≤ 100000) :
    ∃ v1 w1, (execOp a.eval o).run P w = .ok (.value v1) w1 ∧ ∃ A1 c1, v1 = .slice A1 (n + 1) c1 ∧ PartsA w1 base lo e A1 (n + 1) c1 (M ++ [y]) ∧ Chg (blk (.slice A0 n c0)) w w1 := by
  obtain ⟨S, h1, h2⟩ := H
  have hlt := World.ownsRow.lt h1
  obtain ⟨v1, w1, r1, r2, r3, r4⟩ := append_run (P := P) s x t e ho ht (.slice none 0 0) 1 24 hinfo rfl (by omega) base (.slice A0 n c0) n (S.map Seg.v) (some ⟨g, 0, none⟩) 1 1 [.slice (some ⟨q, 0, none⟩) 104 d] hs hx h1 ⟨rfl, fun _ => ⟨g, 0, rfl, range_row hg⟩⟩ (fun h => by cases h) (fun u hu => by rw [List.mem_singleton.1 hu]; rfl) hbase (by unfold maxLen; omega) (by omega)
  obtain ⟨A1, c1, rfl, _⟩ := own_sl r2
  refine ⟨_, w1, r1, A1, c1, rfl, ⟨S ++ [⟨some ⟨q, 0, none⟩, 104, d, y.raw⟩], by simpa [Seg.v] using r2, ?_⟩, r3⟩
  have hsz := r3.size
  have key : ∀ k, k < w.heap.size → (Value.slice A0 n c0).ownBlock ≠ some k → (Value.slice A1 (n + 1) c1).ownBlock ≠ some k := fun k hk hn e1 => by
    rcases r4 with r4 | r4
    · exact hn (r4 ▸ e1)
    · rw [r4] at e1
      have := Option.some.inj e1
      omega
  have hoff : ∀ k, (Value.slice A0 n c0).ownBlock ≠ some k → Off k (blk (.slice A0 n c0)) := fun k hn => off_blk fun g hg e1 => hn (e1 ▸ hg)
  refine PSegs.snoc ⟨rfl, rfl, hd, hdm, ⟨q, rfl, hq.1, by omega, key q hq.2 hno⟩, ?_⟩ (PSegs.imp r3 (fun k k1 k2 k3 k4 => ⟨hoff k k3, key k k2 k3⟩) h2)
  exact byt_chg hb r3 fun g' off' e1 _ => by cases e1; exact hoff q hno
end
theorem results_sl {P : Program} {fn : Func} {p : Tmp} {ty : TypeId} (h : fn.results = #[.cell p ty]) (tmps : Array Value) (w : World) (g : Nat) (t : TypeId) (v : Value) (fr : Nat × Nat) (hp : tmps.getD p undef = .pointer (some ⟨g, 0, none⟩)) (hg : w.heap[g]? = some (.cells #[v] t fr))
    (hu : (match P.underlying ty with | some (.struct _) | some (.array _ _) | none => false | _ => true) = true) : (results fn tmps).run P w = .ok v w := by
  have hp' : tmps[p]?.getD undef = .pointer (some ⟨g, 0, none⟩) := by simpa using hp
  have hc : w.cell? ⟨g, 0, none⟩ = some v := by rw [cell_of_row _ _ _ _ _ _ hg]; rfl
  have hb : (isAgg ty).run P w = .ok false w := by
    unfold isAgg
    cases h : P.underlying ty with
    | none => rw [h] at hu; cases hu
    | some d =>
      rw [h] at hu
      simp only [Sem.run_bind, run_underlying h, Result.andThen_ok]
      cases d <;> first | rfl | cases hu
  simp [results, h, hp', asAddr, loadVar, hb, load, Sem.run, hc]
theorem results_dig {P : Program} {fn : Func} {p u : Tmp} {ty : TypeId} (h : fn.results = #[.cell p ty, .tmp u]) (tmps : Array Value) (w : World) (g : Nat) (t : TypeId) (cs : Array Value) (fr : Nat × Nat) (d : TypeDesc) (v : Value) (hp : tmps.getD p undef = .pointer (some ⟨g, 0, none⟩)) (hg : w.heap[g]? = some (.cells cs t fr))
    (hu : P.underlying ty = some d) (hd : (match d with | .struct _ | .array _ _ => true | _ => false) = true) (hi : (P.info? ty).map (·.size) = some cs.size) (hv : tmps.getD u undef = v) : (results fn tmps).run P w = .ok (.tuple #[.agg cs, v]) w := by
  rw [results_cell_tmp h, hp, hv]
  have := run_loadVar_row (P := P) w g t ty cs fr d hg hu hd hi
  simp [asAddr, this]
theorem raw_length (x : Att) : x.raw.length = 104 := by
  show (rawL x.k x.r x.n x.t).length = 104
  unfold rawL
  simp only [List.length_append, x.hk, x.hr, x.ht, e8_length]
theorem raws_length (M : List Att) : ((M.map Att.raw).flatten).length = M.length * 104 := by
  induction M with
  | nil => rfl
  | cons x M ih => rw [List.map_cons, List.flatten_cons, List.length_append, ih, raw_length, List.length_cons]; omega
def sumL (p : List UInt8) (L : List Att) : List UInt8 := if isPre p then sha (rowL (belowL p L)) else z32
theorem sumL_ok {p : List UInt8} {L : List Att} (h : isPre p = true) : sumL p L = sha (rowL (belowL p L)) := by unfold sumL; rw [h]; rfl
theorem sumL_no {p : List UInt8} {L : List Att} (h : isPre p = false) : sumL p L = z32 := by unfold sumL; rw [h]; rfl
theorem belowL_sub {p : List UInt8} {L : List Att} {y : Att} (h : y ∈ belowL p L) : y ∈ L := by
  unfold belowL at h
  split at h
  · exact (List.mem_filter.1 h).1
  · simp at h
theorem rowL_snoc (M : List Att) (x : Att) : rowL (M ++ [x]) = rowL M ++ x.raw := by simp [rowL]
theorem rowL_length (M : List Att) : (rowL M).length = M.length * 104 + 1 := by unfold rowL; rw [List.length_cons, raws_length]
end Mur
namespace Go.Proofs.YtfhneademopciaaDoor
open Mur (attC z32)
theorem slI : (Tryd.prog.info? 38).map (fun i => (i.zero, i.size, i.bytes)) = some (some (.slice none 0 0), 1, 24) := by kernel_rfl
end Go.Proofs.YtfhneademopciaaDoor
namespace Go.Proofs.YtfhneademopciaaDoor
open Go.RowKit
open Mur (b8s Byt Own8 Seg Segs flat cutA attC Att SlA OwnA rowA)
set_option maxRecDepth 100000
set_option maxHeartbeats 4000000
def ShP_F1 (b : Array Value) (u4 : Value) (u5 : Value) (u10 : Value) (u11 : Value) (u12 : Value) : Act := ⟨#[b.getD 0 undef, b.getD 1 undef, b.getD 2 undef, b.getD 3 undef, u4, u5, b.getD 6 undef, b.getD 7 undef, b.getD 8 undef, b.getD 9 undef, u10, u11, u12, b.getD 13 undef, b.getD 14 undef, b.getD 15 undef, b.getD 16 undef, b.getD 17 undef, b.getD 18 undef, b.getD 19 undef, b.getD 20 undef, b.getD 21 undef], []⟩
theorem Parts_any (t : UInt8) (L : List Seg) (PA : Option Addr) (pn pc : Nat) (w : World) (hv : ShaVars w) (hl : Segs w PA pn L) (hpn : pn ≤ 9223372036854775807) (hf : (flat L).length ≤ 140737488351000) : Calls Tryd.prog 43 #[.int .u8 ((t.toNat : Nat) : Int), .slice PA pn pc] w fun e w' => ∃ d, Hid (d = Mur.sha (t :: flat L)) ∧ d.length = 32 ∧ e = .returned (.agg (b8s d).toArray) ∧ Wk.Chg [] w w' := by
  have HV := Go.Lib.hid hv
  clear hv
  have HL := Go.Lib.hid hl
  clear hl
  refine calls_of_wp Tryd.func43 rfl ?_
  refine wp_seq ?_
  refine Wk.reg ?_
  refine Wk.rEx 0 (some 4) _ rfl rfl (by kernel_rfl) (Wk.new_ex (.pointer (some ⟨w.heap.size, 0, none⟩)) #[.int .u8 0, .int .u8 0, .int .u8 0, .int .u8 0, .int .u8 0, .int .u8 0, .int .u8 0, .int .u8 0, .int .u8 0, .int .u8 0, .int .u8 0, .int .u8 0, .int .u8 0, .int .u8 0, .int .u8 0, .int .u8 0, .int .u8 0, .int .u8 0, .int .u8 0, .int .u8 0, .int .u8 0, .int .u8 0, .int .u8 0, .int .u8 0, .int .u8 0, .int .u8 0, .int .u8 0, .int .u8 0, .int .u8 0, .int .u8 0, .int .u8 0, .int .u8 0] 30 (by kernel_rfl)) ?_
  rintro _ W1 ⟨rfl, hb1, ch1, sz1⟩
  have zz1 := ch1.size
  refine Wk.rEnd 1 rfl ?_
  refine Wk.nxt ?_
  refine wp_seq ?_
  refine Wk.reg ?_
  refine Wk.rPure 0 (some 8) (.int .u8 ((t.toNat : Nat) : Int)) rfl rfl (by kernel_rfl) (by kernel_rfl) ?_
  refine Wk.rEx 1 (some 9) _ rfl rfl (by kernel_rfl) (Wk.new_ex (.slice (some ⟨W1.heap.size, 0, none⟩) 1 1) #[.int .u8 ((t.toNat : Nat) : Int)] 5 (by kernel_rfl)) ?_
  rintro _ W2 ⟨rfl, hb2, ch2, sz2⟩
  have zz2 := ch2.size
  refine Wk.rPure 2 (some 5) (.slice (some ⟨W1.heap.size, 0, none⟩) 1 1) rfl rfl (by kernel_rfl) (by kernel_rfl) ?_
  refine Wk.rEnd 3 rfl ?_
  refine Wk.nxt ?_
  refine wp_seq ?_
  refine wp_seq ?_
  refine Wk.reg ?_
  refine Wk.rPure 0 (some 10) (.slice PA pn pc) rfl rfl (by kernel_rfl) (by kernel_rfl) ?_
  refine Wk.rPure 1 (some 11) (.int .i64 ((pn : Nat) : Int)) rfl rfl (by kernel_rfl) (by kernel_rfl) ?_
  refine Wk.rPure 2 (some 12) (.int .i64 0) rfl rfl (by kernel_rfl) (by kernel_rfl) ?_
  refine Wk.rEnd 3 rfl ?_
  refine Wk.nxt ?_
  refine wp_block ?_
  have hOw5 : Own8 W2 W1.heap.size 5 (some ⟨W1.heap.size, 0, none⟩) 1 1 [t] := Mur.own8_lit hb2 (Nat.le_refl _) rfl (by omega)
  refine Wk.loop (fun m_ a wr => ∃ (k : Nat) (A1 : Option Addr) (N : Nat) (c1 : Nat), m_ = pn - k ∧ a = ShP_F1 a.tmps (.pointer (some ⟨w.heap.size, 0, none⟩)) (.slice A1 N c1) (.slice PA pn pc) (.int .i64 ((pn : Nat) : Int)) (.int .i64 ((k : Nat) : Int)) ∧ k ≤ pn ∧ Own8 wr W1.heap.size 5 A1 N c1 (t :: flat (L.take k)) ∧ N = 1 + (flat (L.take k)).length ∧ wr.heap[w.heap.size]? = some (.cells #[.int .u8 0, .int .u8 0, .int .u8 0, .int .u8 0, .int .u8 0, .int .u8 0, .int .u8 0, .int .u8 0, .int .u8 0, .int .u8 0, .int .u8 0, .int .u8 0, .int .u8 0, .int .u8 0, .int .u8 0, .int .u8 0, .int .u8 0, .int .u8 0, .int .u8 0, .int .u8 0, .int .u8 0, .int .u8 0, .int .u8 0, .int .u8 0, .int .u8 0, .int .u8 0, .int .u8 0, .int .u8 0, .int .u8 0, .int .u8 0, .int .u8 0, .int .u8 0] 30 (0, 0)) ∧ Wk.Chg [] w wr ∧ W1.heap.size ≤ wr.heap.size) (pn - 0) ?_ ?_
  · have kk1 : Wk.Chg [] w W1 := Wk.Chg.step ((Wk.Chg.refl _).more (by simp)) ch1 trivial
    have kk2 := Wk.Chg.step kk1 ch2 trivial
    refine ⟨0, some ⟨W1.heap.size, 0, none⟩, 1, 1, rfl, by kernel_rfl, by omega, (by rw [List.take_zero]; exact hOw5), by rw [List.take_zero]; rfl, (Wk.Chg.hp ch2 hb1 trivial), kk2, (by omega)⟩
  · rintro mm1 aa1 W3 ⟨k, A1, N, c1, hmm1, hF1, hi, hO, hN, hZ, HB, hbs⟩
    generalize aa1.tmps = bb1 at hF1
    subst hF1
    have hqn := hO.nc
    have hqm := hO.cm
    unfold Go.maxLen at hqm
    have hzl_ := (Array.getElem?_eq_some_iff.1 hZ).1
    by_cases hlt : k < pn
    · obtain ⟨g, off, As, ns, cs, ls, rfl, hg, hcell, hby, hsn, hsc, hsnil, hfl, hfle⟩ := HL.out.at hlt
      refine wp_seq ?_
      refine Wk.reg ?_
      refine Wk.rPure 0 (some 13) (.bool true) rfl rfl (by kernel_rfl) (Wk.boolT (b := decide (((k : Nat) : Int) < ((pn : Nat) : Int))) (decide_eq_true (by omega)) (by kernel_rfl)) ?_
      refine Wk.rEnd 1 rfl ?_
      refine Wk.nxt ?_
      refine wp_seq ?_
      refine wp_cond_true (by kernel_rfl) ?_
      refine wp_skip ?_
      refine Wk.nxt ?_
      refine wp_seq ?_
      refine wp_block ?_
      refine wp_seq ?_
      refine Wk.reg ?_
      refine Wk.rPure 0 (some 14) (.pointer (some ⟨g, off + k * 1, none⟩)) rfl rfl (by kernel_rfl) (Wk.index_sl 83 38 (.tmp 10) (.tmp 12) rfl Tryd.underlying83 1 (by kernel_rfl) g off pn pc k .i64 (by kernel_rfl) (by kernel_rfl) (by omega)) ?_
      refine Wk.rPure 1 (some 15) (.slice As ns cs) rfl rfl (by kernel_rfl) (Wk.load1 38 (.tmp 14) rfl (by kernel_rfl) ⟨g, off + k * 1, none⟩ (by kernel_rfl) (.slice As ns cs) (Wk.Chg.cell HB hcell trivial)) ?_
      refine Wk.rPure 2 (some 7) (.slice As ns cs) rfl rfl (by kernel_rfl) (by kernel_rfl) ?_
      refine Wk.rEnd 3 rfl ?_
      refine Wk.nxt ?_
      refine Wk.reg ?_
      refine Wk.rPure 0 (some 16) (.slice A1 N c1) rfl rfl (by kernel_rfl) (by kernel_rfl) ?_
      refine Wk.rPure 1 (some 17) (.slice As ns cs) rfl rfl (by kernel_rfl) (by kernel_rfl) ?_
      refine Wk.rEx 2 (some 18) _ rfl rfl (by kernel_rfl) (Mur.append8 (.tmp 16) (.tmp 17) 38 5 rfl Tryd.underlying38 (by kernel_rfl) W1.heap.size A1 N c1 (t :: flat (L.take k)) As ns cs ls (by kernel_rfl) (by kernel_rfl) hO.own (Mur.byt_chg hby HB (fun g off e hl => trivial)) hsnil (by omega) (by omega) (N + ns) (by omega) ((t :: flat (L.take k)) ++ ls) rfl) ?_
      rintro _ W4 ⟨AA1, nn1, rfl, ow1, ch3, ha1⟩
      have zz3 := ch3.size
      have hq1 := ow1.nc
      have hq2 := ow1.cm
      refine Wk.rPure 3 (some 5) (.slice AA1 (N + ns) nn1) rfl rfl (by kernel_rfl) (by kernel_rfl) ?_
      refine Wk.rEnd 4 rfl ?_
      refine Wk.inN ?_
      refine Wk.nxt ?_
      refine Wk.reg ?_
      refine Wk.rPure 0 (some 19) (.int .i64 ((k + 1 : Nat) : Int)) rfl rfl (by kernel_rfl) (Wk.int64 (n := ((k : Nat) : Int) + 1) (z := ((k + 1 : Nat) : Int)) (by omega) (by omega) (by omega) (by kernel_rfl)) ?_
      refine Wk.rPure 1 (some 12) (.int .i64 ((k + 1 : Nat) : Int)) rfl rfl (by kernel_rfl) (by kernel_rfl) ?_
      refine Wk.rEnd 2 rfl ?_
      refine Wk.nxt ?_
      have kk3 := Wk.Chg.step HB ch3 (Wk.newOr_blk (fun g hg => by have := hO.lt g hg; omega))
      refine ⟨_, ?_, k + 1, AA1, N + ns, nn1, rfl, by kernel_rfl, (by omega), (by rw [hfl]; exact ow1), (by rw [hfl, List.length_append]; have := hby.1; omega), (Wk.Chg.hp ch3 hZ (Wk.off_blk (fun gz hgz => by have := hO.lt gz hgz; omega))), kk3, (by omega)⟩
      · omega
    · have hfa : flat (L.take k) = flat L := by rw [show k = pn by omega]; exact Mur.flat_all HL.out.len
      have hfl := congrArg List.length hfa
      refine wp_seq ?_
      refine Wk.reg ?_
      refine Wk.rPure 0 (some 13) (.bool false) rfl rfl (by kernel_rfl) (Wk.boolF (b := decide (((k : Nat) : Int) < ((pn : Nat) : Int))) (decide_eq_false (by omega)) (by kernel_rfl)) ?_
      refine Wk.rEnd 1 rfl ?_
      refine Wk.nxt ?_
      refine wp_seq ?_
      refine wp_cond_false (by kernel_rfl) ?_
      refine wp_exit ?_
      refine Wk.thX ?_
      refine Wk.thX ?_
      refine Wk.inX ?_
      refine Wk.nxt ?_
      refine wp_seq ?_
      refine Wk.reg ?_
      refine Wk.rPure 0 (some 20) (.slice A1 N c1) rfl rfl (by kernel_rfl) (by kernel_rfl) ?_
      refine Wk.rCall 1 (some 21) 66 [.tmp 20] #[38] [.slice A1 N c1] rfl rfl (by kernel_rfl) rfl (by kernel_rfl) (by kernel_rfl) ?_
      refine (sum_var (t :: flat (L.take k)) A1 N c1 W3 (HV.out.below (Wk.Chg.below0 HB)) hO.byt (by omega) hO.nil (by omega)).mono ?_
      rintro _ W5 ⟨dd1, hd1, hdl1, rfl, hB1⟩
      have ch4 := Wk.Chg.ofBelow hB1
      have zz4 := ch4.size
      refine ⟨_, rfl, ?_⟩
      refine Wk.rExS 2 none _ rfl rfl (by kernel_rfl) (Mur.storeAll 30 (.tmp 4) (.tmp 21) rfl w.heap.size (by kernel_rfl) dd1 32 hdl1 (by kernel_rfl) (by kernel_rfl) 30 #[.int .u8 0, .int .u8 0, .int .u8 0, .int .u8 0, .int .u8 0, .int .u8 0, .int .u8 0, .int .u8 0, .int .u8 0, .int .u8 0, .int .u8 0, .int .u8 0, .int .u8 0, .int .u8 0, .int .u8 0, .int .u8 0, .int .u8 0, .int .u8 0, .int .u8 0, .int .u8 0, .int .u8 0, .int .u8 0, .int .u8 0, .int .u8 0, .int .u8 0, .int .u8 0, .int .u8 0, .int .u8 0, .int .u8 0, .int .u8 0, .int .u8 0, .int .u8 0] (Wk.Chg.hp ch4 hZ trivial) rfl) ?_
      rintro W6 ⟨hb3, ch5⟩
      have zz5 := ch5.size
      refine Wk.rEnd 3 rfl ?_
      refine Wk.nxt ?_
      refine wp_ret ?_
      have kk4 := Wk.Chg.step HB ch4 trivial
      have kk5 := Wk.Chg.step kk4 ch5 ⟨.inr (by omega), trivial⟩
      refine Wk.ret (.agg (b8s dd1).toArray) rfl (results_cell_row rfl _ _ w.heap.size 30 (b8s dd1).toArray (0, 0) _ (by kernel_rfl) hb3 Tryd.underlying30 rfl (by rw [List.size_toArray, Mur.b8s_length, hdl1]; kernel_rfl)) ?_
      exact ⟨_, Go.Lib.hid (by rw [hd1.out, hfa]), hdl1, rfl, kk5⟩
theorem Sum_any (lo : Nat) (L : List Att) (g : Nat) (F : List Nat) (p : List UInt8) (PA : Option Addr) (pn pc : Nat) (w : World) (hv : ShaVars w) (h : Mur.SetF 32 57 lo w g L F) (hb : Byt w PA pn p) (hn : pn ≤ 9223372036854775807) : Calls Tryd.prog 16 #[.pointer (some ⟨g, 0, none⟩), .slice PA pn pc] w fun e w' => ∃ d, Hid (d = Mur.sumL p L) ∧ d.length = 32 ∧ e = .returned (.tuple #[.agg (b8s d).toArray, .int .i64 (((Mur.belowL p L).length : Nat) : Int)]) ∧ Wk.Chg [] w w' := by
  have HV := Go.Lib.hid hv
  clear hv
  have hM_ := Mur.SetF.mem h
  have hS_ := Mur.SetF.len h
  have hMay_ := Mur.SetF.ok h
  refine Wk.calls_of_wpM Tryd.func16 rfl ?_
  refine Wk.noP ?_
  refine wp_seq ?_
  refine Wk.reg ?_
  refine Wk.rEx 0 (some 4) _ rfl rfl (by kernel_rfl) (Wk.new_ex (.pointer (some ⟨w.heap.size, 0, none⟩)) #[.int .u8 0, .int .u8 0, .int .u8 0, .int .u8 0, .int .u8 0, .int .u8 0, .int .u8 0, .int .u8 0, .int .u8 0, .int .u8 0, .int .u8 0, .int .u8 0, .int .u8 0, .int .u8 0, .int .u8 0, .int .u8 0, .int .u8 0, .int .u8 0, .int .u8 0, .int .u8 0, .int .u8 0, .int .u8 0, .int .u8 0, .int .u8 0, .int .u8 0, .int .u8 0, .int .u8 0, .int .u8 0, .int .u8 0, .int .u8 0, .int .u8 0, .int .u8 0] 30 (by kernel_rfl)) ?_
  rintro _ W1 ⟨rfl, hb1, ch1, sz1⟩
  have zz1 := ch1.size
  refine Wk.rPure 1 (some 5) (.int .i64 0) rfl rfl (by kernel_rfl) (by kernel_rfl) ?_
  refine Wk.rEnd 2 rfl ?_
  refine Wk.nxt ?_
  refine wp_seq ?_
  refine wp_seq ?_
  refine Wk.reg ?_
  refine Wk.rPure 0 (some 10) (.pointer (some ⟨g, 0, none⟩)) rfl rfl (by kernel_rfl) (by kernel_rfl) ?_
  refine Wk.rPure 1 (some 11) (.bool false) rfl rfl (by kernel_rfl) (by kernel_rfl) ?_
  refine Wk.rPure 2 (some 12) (.bool false) rfl rfl (by kernel_rfl) (by kernel_rfl) ?_
  refine Wk.rPure 3 (some 13) (.slice PA pn pc) rfl rfl (by kernel_rfl) (by kernel_rfl) ?_
  refine Wk.rCall 4 (some 14) 19 [.tmp 13] #[38] [.slice PA pn pc] rfl rfl (by kernel_rfl) rfl (by kernel_rfl) (by kernel_rfl) ?_
  have kk1 : Wk.Chg [] w W1 := Wk.Chg.step ((Wk.Chg.refl _).more (by simp)) ch1 trivial
  refine (IsPrefix_any p PA pn pc W1 (Mur.byt_chg hb kk1 (fun g off e hl => trivial)) (by omega)).mono ?_
  cases hpre1 : Mur.isPre p
  · rintro _ _ ⟨rfl, rfl⟩
    refine ⟨_, rfl, ?_⟩
    refine Wk.rPure 5 (some 15) (.bool true) rfl rfl (by kernel_rfl) (by kernel_rfl) ?_
    refine Wk.rPure 6 (some 16) (.bool true) rfl rfl (by kernel_rfl) (by kernel_rfl) ?_
    refine Wk.rEnd 7 rfl ?_
    refine Wk.nxt ?_
    refine wp_cond_true (by kernel_rfl) ?_
    refine wp_seq ?_
    refine Wk.reg ?_
    refine Wk.rPure 0 (some 17) (.agg ((b8s [0, 0, 0, 0, 0, 0, 0, 0, 0, 0, 0, 0, 0, 0, 0, 0, 0, 0, 0, 0, 0, 0, 0, 0, 0, 0, 0, 0, 0, 0, 0, 0]).toArray)) rfl rfl (by kernel_rfl) (by kernel_rfl) ?_
    refine Wk.rExS 1 none _ rfl rfl (by kernel_rfl) (Mur.storeAll 30 (.tmp 4) (.tmp 17) rfl w.heap.size (by kernel_rfl) ([0, 0, 0, 0, 0, 0, 0, 0, 0, 0, 0, 0, 0, 0, 0, 0, 0, 0, 0, 0, 0, 0, 0, 0, 0, 0, 0, 0, 0, 0, 0, 0]) 32 rfl (by kernel_rfl) (by kernel_rfl) 30 #[.int .u8 0, .int .u8 0, .int .u8 0, .int .u8 0, .int .u8 0, .int .u8 0, .int .u8 0, .int .u8 0, .int .u8 0, .int .u8 0, .int .u8 0, .int .u8 0, .int .u8 0, .int .u8 0, .int .u8 0, .int .u8 0, .int .u8 0, .int .u8 0, .int .u8 0, .int .u8 0, .int .u8 0, .int .u8 0, .int .u8 0, .int .u8 0, .int .u8 0, .int .u8 0, .int .u8 0, .int .u8 0, .int .u8 0, .int .u8 0, .int .u8 0, .int .u8 0] hb1 rfl) ?_
    rintro W2 ⟨hb2, ch2⟩
    have zz2 := ch2.size
    refine Wk.rPure 2 (some 5) (.int .i64 0) rfl rfl (by kernel_rfl) (by kernel_rfl) ?_
    refine Wk.rEnd 3 rfl ?_
    refine Wk.nxt ?_
    refine wp_ret ?_
    refine Wk.thR ?_
    refine Wk.npR ?_
    refine Wk.retM0 (.tuple #[.agg (b8s Mur.z32).toArray, .int .i64 0]) rfl (Mur.results_dig rfl _ _ w.heap.size 30 _ (0, 0) _ (.int .i64 0) (by kernel_rfl) hb2 Tryd.underlying30 rfl (by kernel_rfl) (by kernel_rfl)) ?_
    have kk2 := Wk.Chg.step kk1 ch2 ⟨.inr (by omega), trivial⟩
    exact ⟨Mur.z32, Go.Lib.hid (Mur.sumL_no hpre1).symm, rfl, by rw [Mur.belowL_no hpre1]; rfl, kk2⟩
  · rintro _ _ ⟨rfl, rfl⟩
    refine ⟨_, rfl, ?_⟩
    refine Wk.rPure 5 (some 15) (.bool false) rfl rfl (by kernel_rfl) (by kernel_rfl) ?_
    refine Wk.rPure 6 (some 16) (.bool false) rfl rfl (by kernel_rfl) (by kernel_rfl) ?_
    refine Wk.rEnd 7 rfl ?_
    refine Wk.nxt ?_
    refine wp_cond_false (by kernel_rfl) ?_
    refine wp_skip ?_
    refine Wk.nxt ?_
    refine wp_seq ?_
    refine Wk.reg ?_
    refine Wk.rEx 0 (some 6) _ rfl rfl (by kernel_rfl) (Wk.new_ex (.pointer (some ⟨W1.heap.size, 0, none⟩)) #[.slice none 0 0] 83 (by kernel_rfl)) ?_
    rintro _ W3 ⟨rfl, hb3, ch3, sz2⟩
    have zz3 := ch3.size
    refine Wk.rEnd 1 rfl ?_
    refine Wk.nxt ?_
    refine wp_seq ?_
    refine wp_seq ?_
    refine Wk.reg ?_
    refine Wk.rPure 0 (some 18) (.pointer (some ⟨g, 0, none⟩)) rfl rfl (by kernel_rfl) (by kernel_rfl) ?_
    refine Wk.rPure 1 (some 19) (.slice PA pn pc) rfl rfl (by kernel_rfl) (by kernel_rfl) ?_
    refine Wk.rCall 2 (some 20) 42 [.tmp 18, .tmp 19] #[24, 38] [.pointer (some ⟨g, 0, none⟩), .slice PA pn pc] rfl rfl (by kernel_rfl) rfl (by kernel_rfl) (by kernel_rfl) ?_
    refine (below_any g PA pn pc W3).mono ?_
    rintro _ W4 ⟨bq1, bq2, rfl, hbq1, hbq2, hzq1, hzq2, hzq3, ch4⟩
    have zz4 := ch4.size
    refine ⟨_, rfl, ?_⟩
    refine Wk.rEnd 3 rfl ?_
    refine Wk.nxt ?_
    refine wp_block ?_
    have kk3 := Wk.Chg.step kk1 ch3 trivial
    have kk4 := Wk.Chg.step kk3 ch4 trivial
    have hD1 := Mur.SetF.chg h ch1 (fun s hs => trivial)
    have hD2 := Mur.SetF.chg hD1 ch3 (fun s hs => trivial)
    have hD3 := Mur.SetF.chg hD2 ch4 (fun s hs => trivial)
    have hseq1 := below_seq lo L g F p PA pn pc bq1 bq2 W4 hD3 (Mur.byt_chg hb kk4 (fun g off e hl => trivial)) (by omega) hbq1 hbq2
    have hok_ : ∀ y_, y_ ∈ Mur.belowL p L → Mur.may y_.n := fun y_ hy_ => hMay_ y_ (Mur.belowL_sub hy_)
    have hbll_ := Mur.belowL_len p L
    have hFw := hseq1.1
    have hFb_ : ∀ k_, k_ ∈ (bq1 :: bq2 :: (F ++ Mur.pblk PA pn)) → k_ ≠ W1.heap.size := fun k_ hk_ => by
      simp only [List.mem_cons, List.mem_append] at hk_
      rcases hk_ with rfl | rfl | hk_ | hk_
      · omega
      · omega
      · have := hM_ k_ hk_; omega
      · have := Mur.pblk_lt hb k_ hk_; omega
    refine Wk.range (hseq1) (by kernel_rfl) (fun _ _ => by kernel_rfl) (fun x => rfl) (fun pre W' => ∃ A n c, W'.heap[W1.heap.size]? = some (.cells #[.slice A n c] 83 (0, 0)) ∧ Mur.PartsA W' W4.heap.size W4.heap.size 38 A n c pre ∧ Wk.Chg [W1.heap.size] W4 W' ∧ W'.heap[w.heap.size]? = some (.cells #[.int .u8 0, .int .u8 0, .int .u8 0, .int .u8 0, .int .u8 0, .int .u8 0, .int .u8 0, .int .u8 0, .int .u8 0, .int .u8 0, .int .u8 0, .int .u8 0, .int .u8 0, .int .u8 0, .int .u8 0, .int .u8 0, .int .u8 0, .int .u8 0, .int .u8 0, .int .u8 0, .int .u8 0, .int .u8 0, .int .u8 0, .int .u8 0, .int .u8 0, .int .u8 0, .int .u8 0, .int .u8 0, .int .u8 0, .int .u8 0, .int .u8 0, .int .u8 0] 30 (0, 0))) ?_ ?_ ?_ ?_ ?_
    · rintro pre A1_ A2_ ⟨A, n, c, h1, h2, h3, hE0⟩ hc
      exact ⟨A, n, c, hc.hp h1 trivial, h2.chg hc (Nat.le_refl _) (fun _ _ _ _ => trivial), h3.step hc trivial, hc.hp hE0 trivial⟩
    · rintro pre A1_ A2_ r_ o_ ⟨A, n, c, h1, h2, h3, hE0⟩ hr ho hoc hc
      exact ⟨A, n, c, hc.hp h1 ⟨Mur.cells_ne h1 ho hoc, trivial⟩, h2.chg hc (Nat.le_refl _) (fun q _ _ k_ => ⟨Mur.off_noncells ho hoc k_, trivial⟩), h3.step hc ⟨.inr hr, trivial⟩, hc.hp hE0 ⟨Mur.cells_ne hE0 ho hoc, trivial⟩⟩
    · exact ⟨none, 0, 0, (Wk.Chg.hp ch4 hb3 trivial), Mur.partsA_nil _ _ _ _, (Wk.Chg.refl _).more (by simp), (Wk.Chg.hp ch4 (Wk.Chg.hp ch3 hb1 trivial) trivial)⟩
    · intro lz pre x post A1 hsp hI hwl hlA hlz
      obtain ⟨A, n, c, hIp, hIo, hIc, hE0⟩ := hI
      have hlhE0_ := (Array.getElem?_eq_some_iff.1 hE0).1
      have hzI_ := hIc.size
      have hIlen := hIo.len
      have hInc := hIo.nc
      have hbl_ := (Array.getElem?_eq_some_iff.1 hIp).1
      have hbz := Mur.cells_ne' hIp hlz
      have hpl_ : pre.length + 1 ≤ 200 := by have := congrArg List.length hsp; simp at this; omega
      have hbzhE0 := Mur.cells_ne' hE0 hlz
      have hmx_ : Mur.may x.n := hok_ x (by rw [hsp]; simp)
      refine Wk.regI ?_
      refine Wk.iEx 0 (some 7) _ rfl rfl rfl (by kernel_rfl) (Wk.new_ex (.pointer (some ⟨A1.heap.size, 0, none⟩)) #[.int .u8 0, .int .u8 0, .int .u8 0, .int .u8 0, .int .u8 0, .int .u8 0, .int .u8 0, .int .u8 0, .int .u8 0, .int .u8 0, .int .u8 0, .int .u8 0, .int .u8 0, .int .u8 0, .int .u8 0, .int .u8 0, .int .u8 0, .int .u8 0, .int .u8 0, .int .u8 0, .int .u8 0, .int .u8 0, .int .u8 0, .int .u8 0, .int .u8 0, .int .u8 0, .int .u8 0, .int .u8 0, .int .u8 0, .int .u8 0, .int .u8 0, .int .u8 0, .int .u8 0, .int .u8 0, .int .u8 0, .int .u8 0, .int .u8 0, .int .u8 0, .int .u8 0, .int .u8 0, .int .u8 0, .int .u8 0, .int .u8 0, .int .u8 0, .int .u8 0, .int .u8 0, .int .u8 0, .int .u8 0, .int .u8 0, .int .u8 0, .int .u8 0, .int .u8 0, .int .u8 0, .int .u8 0, .int .u8 0, .int .u8 0, .int .u8 0, .int .u8 0, .int .u8 0, .int .u8 0, .int .u8 0, .int .u8 0, .int .u8 0, .int .u8 0, .int .i64 0, .int .u8 0, .int .u8 0, .int .u8 0, .int .u8 0, .int .u8 0, .int .u8 0, .int .u8 0, .int .u8 0, .int .u8 0, .int .u8 0, .int .u8 0, .int .u8 0, .int .u8 0, .int .u8 0, .int .u8 0, .int .u8 0, .int .u8 0, .int .u8 0, .int .u8 0, .int .u8 0, .int .u8 0, .int .u8 0, .int .u8 0, .int .u8 0, .int .u8 0, .int .u8 0, .int .u8 0, .int .u8 0, .int .u8 0, .int .u8 0, .int .u8 0, .int .u8 0] 32 (by kernel_rfl)) ?_
      rintro _ W5 ⟨rfl, hb4, ch5, sz3⟩
      have zz5 := ch5.size
      rw [← Mur.attC_zero] at hb4
      refine Wk.iExS 1 none _ rfl rfl rfl (by kernel_rfl) (Mur.storeArr 32 (.tmp 7) (.tmp 21) rfl A1.heap.size (by kernel_rfl) (Mur.attC x.k x.r x.n x.t).toArray 97 (Mur.attC_size x.hk x.hr x.ht) Mur.attC_all (by kernel_rfl) (by kernel_rfl) 32 ((Mur.attC Mur.z32 Mur.z32 0 Mur.z32).toArray) hb4 (Mur.attC_size rfl rfl rfl)) ?_
      rintro W6 ⟨hb5, ch6⟩
      have zz6 := ch6.size
      refine Wk.iEnd 2 rfl ?_
      refine Wk.nxt ?_
      have kk5 : Wk.Chg [] A1 W5 := Wk.Chg.step ((Wk.Chg.refl _).more (by simp)) ch5 trivial
      have kk6 := Wk.Chg.step kk5 ch6 ⟨.inr (by omega), trivial⟩
      refine ⟨kk6, ?_⟩
      have hlz2_ := hlz.imp (fun _ h_ => Wk.Chg.hp kk6 h_ trivial)
      intro A2 hch2
      have zz7 := hch2.size
      refine wpIn_block ?_
      refine wpIn_seq ?_
      refine Wk.regI ?_
      refine Wk.iPure 0 (some 23) (.agg ((Mur.attC x.k x.r x.n x.t).toArray)) rfl rfl rfl (by kernel_rfl) (Mur.loadArr 32 (.tmp 7) rfl _ Tryd.underlying32 rfl A1.heap.size (by kernel_rfl) (Mur.attC x.k x.r x.n x.t).toArray 97 (Mur.attC_size x.hk x.hr x.ht) (by kernel_rfl) 32 (0, 0) (Wk.Chg.hp hch2 hb5 ⟨by omega, trivial⟩)) ?_
      refine Wk.iCall 1 (some 24) 38 [.tmp 23] #[32] [.agg ((Mur.attC x.k x.r x.n x.t).toArray)] rfl rfl rfl (by kernel_rfl) rfl (by kernel_rfl) (by kernel_rfl) ?_
      refine (Bytes_ok x.k x.r x.t x.n x.hk x.hr x.ht A2 hmx_).mono ?_
      rintro _ W7 ⟨qr1, cr1, RB1, hRB1, rfl, hbr1, hq1, hq2, ch7⟩
      have zz8 := ch7.size
      have hBt1 : ∀ g off, (some ⟨qr1, 0, none⟩ : Option Addr) = some ⟨g, off, none⟩ → A2.heap.size ≤ g ∧ g < W7.heap.size := fun g off e => by cases e; exact hq1
      refine ⟨_, rfl, ?_⟩
      refine Wk.iPure 2 (some 22) (.tuple #[.slice (some ⟨qr1, 0, none⟩) 104 cr1, .int .i64 0]) rfl rfl rfl (by kernel_rfl) (by kernel_rfl) ?_
      refine Wk.iPure 3 (some 25) (.slice (some ⟨qr1, 0, none⟩) 104 cr1) rfl rfl rfl (by kernel_rfl) (by kernel_rfl) ?_
      refine Wk.iPure 4 (some 26) (.int .i64 0) rfl rfl rfl (by kernel_rfl) (by kernel_rfl) ?_
      refine Wk.iPure 5 (some 8) (.slice (some ⟨qr1, 0, none⟩) 104 cr1) rfl rfl rfl (by kernel_rfl) (by kernel_rfl) ?_
      refine Wk.iPure 6 (some 9) (.int .i64 0) rfl rfl rfl (by kernel_rfl) (by kernel_rfl) ?_
      refine Wk.iEnd 7 rfl ?_
      refine Wk.nxt ?_
      refine Wk.regI ?_
      refine Wk.iPure 0 (some 27) (.slice A n c) rfl rfl rfl (by kernel_rfl) (Wk.load1 83 (.tmp 6) rfl (by kernel_rfl) ⟨W1.heap.size, 0, none⟩ (by kernel_rfl) (.slice A n c) ((cell_of_row _ _ 0 _ _ _ (Wk.Chg.hp ch7 (Wk.Chg.hp hch2 (Wk.Chg.hp ch6 (Wk.Chg.hp ch5 hIp trivial) ⟨by omega, trivial⟩) ⟨by omega, trivial⟩) trivial)).trans rfl)) ?_
      refine Wk.iPure 1 (some 28) (.slice (some ⟨qr1, 0, none⟩) 104 cr1) rfl rfl rfl (by kernel_rfl) (by kernel_rfl) ?_
      refine Wk.iEx 2 (some 29) _ rfl rfl rfl (by kernel_rfl) (Wk.new_ex (.slice (some ⟨W7.heap.size, 0, none⟩) 1 1) #[.slice (some ⟨qr1, 0, none⟩) 104 cr1] 38 (by kernel_rfl)) ?_
      rintro _ W8 ⟨rfl, hb6, ch8, sz4⟩
      have zz9 := ch8.size
      have ow1 := (Mur.PartsA.chg hIo kk6 (Nat.le_refl _) (fun _ _ _ _ => trivial))
      have ow2 := (Mur.PartsA.chg ow1 hch2 (Nat.le_refl _) (fun q_ _ _ k_ => ⟨Mur.off_loop hlz2_ k_, trivial⟩))
      have ow3 := (Mur.PartsA.chg ow2 ch7 (Nat.le_refl _) (fun _ _ _ _ => trivial))
      have ow4 := (Mur.PartsA.chg ow3 ch8 (Nat.le_refl _) (fun _ _ _ _ => trivial))
      refine Wk.iEx 3 (some 30) _ rfl rfl rfl (by kernel_rfl) (Mur.appendP (.tmp 27) (.tmp 29) 83 38 rfl Tryd.underlying83 slI W4.heap.size W4.heap.size A n c pre W7.heap.size qr1 cr1 x (0, 0) 38 (by kernel_rfl) (by kernel_rfl) ow4 hb6 (by rw [show x.raw = RB1 from hRB1.out.symm]; exact (Mur.byt_chg hbr1 ch8 (fun g off e hl => trivial))) ⟨by omega, by omega⟩ (by omega) (by unfold Go.maxLen; omega) (fun e_ => by have := hIo.lt _ e_; omega) (by omega) (by omega)) ?_
      rintro _ W9 ⟨AA1, nn1, rfl, ow5, ch9⟩
      have zz10 := ch9.size
      refine Wk.iExS 4 none _ rfl rfl rfl (by kernel_rfl) (Wk.store1 83 (.tmp 6) (.tmp 30) rfl (by kernel_rfl) W1.heap.size 0 (by kernel_rfl) (.slice AA1 (n + 1) nn1) (by kernel_rfl) rfl 83 #[.slice A n c] (Wk.Chg.hp ch9 (Wk.Chg.hp ch8 (Wk.Chg.hp ch7 (Wk.Chg.hp hch2 (Wk.Chg.hp ch6 (Wk.Chg.hp ch5 hIp trivial) ⟨by omega, trivial⟩) ⟨by omega, trivial⟩) trivial) trivial) (Wk.off_blk (fun gz hgz => by have := hIo.lt gz hgz; omega))) (by simp)) ?_
      rintro W10 ⟨hb7, ch10⟩
      replace hb7 : W10.heap[W1.heap.size]? = some (.cells #[.slice AA1 (n + 1) nn1] 83 (0, 0)) := hb7
      have zz11 := ch10.size
      refine Wk.iEnd 5 rfl ?_
      refine Wk.inN ?_
      have kk7 : Wk.Chg ([W1.heap.size] ++ Wk.blk (.slice A n c)) A2 W7 := Wk.Chg.step ((Wk.Chg.refl _).more (by simp)) ch7 trivial
      have kk8 := Wk.Chg.step kk7 ch8 trivial
      have kk9 := Wk.Chg.step kk8 ch9 (Mur.newOr_iff.2 (fun t ht => .inl (List.mem_append_right _ ht)))
      have kk10 := Wk.Chg.step kk9 ch10 ⟨.inl (by simp), trivial⟩
      have kk11 := Wk.Chg.step hIc ch5 trivial
      have kk12 := Wk.Chg.step kk11 ch6 ⟨.inr (by omega), trivial⟩
      have kk13 := Wk.Chg.step kk12 hch2 ⟨.inr (by omega), trivial⟩
      have kk14 := Wk.Chg.step kk13 ch7 trivial
      have kk15 := Wk.Chg.step kk14 ch8 trivial
      have kk16 := Wk.Chg.step kk15 ch9 (Wk.newOr_blk (fun g hg => by have := hIo.lt g hg; omega))
      have kk17 := Wk.Chg.step kk16 ch10 ⟨.inl (by simp), trivial⟩
      have ow6 := (Mur.PartsA.chg ow5 ch10 (Nat.le_refl _) (fun q_ k1_ _ _ => ⟨by omega, trivial⟩))
      refine Wk.roundN _ kk10 (fun s_ hs_ hlt_ => ?_) (fun k_ hk_ => ⟨hFb_ k_ hk_, Wk.off_blk (fun q hq => by have := hIo.lt q hq; have := hFw k_ hk_; omega)⟩) ⟨_, _, _, hb7, ow6, kk17, (Wk.Chg.hp ch10 (Wk.Chg.hp ch9 (Wk.Chg.hp ch8 (Wk.Chg.hp ch7 (Wk.Chg.hp hch2 (Wk.Chg.hp ch6 (Wk.Chg.hp ch5 hE0 trivial) ⟨by omega, trivial⟩) ⟨by omega, trivial⟩) trivial) trivial) (Wk.off_blk (fun gz hgz => by have := hIo.lt gz hgz; omega))) ⟨by omega, trivial⟩)⟩
      rcases List.mem_cons.1 hs_ with rfl | hs_
      · exact ⟨_, (hch2.hp (ch6.hp (ch5.hp hIp trivial) ⟨by omega, trivial⟩) ⟨hbz, trivial⟩), rfl⟩
      · exact Mur.PartsA.cells (Mur.PartsA.chg (Mur.PartsA.chg hIo kk6 (Nat.le_refl _) (fun _ _ _ _ => trivial)) hch2 (Nat.le_refl _) (fun q_ _ _ k_ => ⟨Mur.off_loop hlz2_ k_, trivial⟩)) (Mur.blk_mem hs_)
    · intro D W9 hI hwD hKD
      obtain ⟨A, n, c, hIp, hIo, hIc, hE0⟩ := hI
      have hlhE0_ := (Array.getElem?_eq_some_iff.1 hE0).1
      have hzI_ := hIc.size
      have hIlen := hIo.len
      have hInc := hIo.nc
      have hbl_ := (Array.getElem?_eq_some_iff.1 hIp).1
      have hbD := Mur.cells_ne hIp hKD rfl
      have hDl := (Array.getElem?_eq_some_iff.1 hKD).1
      have hbDhE0 := Mur.cells_ne hE0 hKD rfl
      have hW9 : Wk.Chg [] w W9 := Wk.Chg.step kk4 hIc ⟨.inr (by omega), trivial⟩
      refine Wk.inN ?_
      refine Wk.nxt ?_
      refine wp_seq ?_
      refine Wk.dReg ([w.heap.size]) (by kernel_rfl) ?_
      intro W11 ch11 sz5
      have zz12 := ch11.size
      have sS1 : Wk.Chg ([w.heap.size]) W11 W11 := (Wk.Chg.refl _).more (by simp)
      refine Wk.dVal 0 (some 31) (.slice A n c) rfl rfl (by kernel_rfl) (by kernel_rfl) (by kernel_rfl) (fun _ _ _ h => h) (by kernel_rfl) (fun w' hw' => (Wk.load1 83 (.tmp 6) rfl (by kernel_rfl) ⟨W1.heap.size, 0, none⟩ (by kernel_rfl) (.slice A n c) ((cell_of_row _ _ 0 _ _ _ (Wk.Chg.hp hw' (Wk.Chg.hp ch11 hIp trivial) ⟨by omega, trivial⟩)).trans rfl))) sS1 ?_
      refine Wk.dVal 2 (some 33) (.slice A n c) rfl rfl (by kernel_rfl) (by kernel_rfl) (by kernel_rfl) (fun _ _ _ h => h) (by kernel_rfl) (fun w' hw' => (Wk.load1 83 (.tmp 6) rfl (by kernel_rfl) ⟨W1.heap.size, 0, none⟩ (by kernel_rfl) (.slice A n c) ((cell_of_row _ _ 0 _ _ _ (Wk.Chg.hp hw' (Wk.Chg.hp ch11 hIp trivial) ⟨by omega, trivial⟩)).trans rfl))) sS1 ?_
      refine Wk.dVal 3 (some 34) (.int .i64 ((n : Nat) : Int)) rfl rfl (by kernel_rfl) (by kernel_rfl) (by kernel_rfl) (fun _ _ _ h => h) (by kernel_rfl) (fun w' hw' => by kernel_rfl) sS1 ?_
      refine Wk.dOp 1 (by kernel_rfl) ?_
      refine Wk.oCall (some 32) 43 [.const (.int .u8 32), .tmp 31] #[5, 83] [.int .u8 32, .slice A n c] rfl rfl (by kernel_rfl) rfl (by kernel_rfl) (by kernel_rfl) ?_
      have ow7 := (Mur.PartsA.chg hIo ch11 (Nat.le_refl _) (fun _ _ _ _ => trivial))
      obtain ⟨Sg1, hSg1, hSf1⟩ := Mur.PartsA.segs ow7
      have hSf1l : (Mur.flat Sg1).length ≤ 200 * 104 := by rw [hSf1, Mur.raws_length]; have := ow7.len; omega
      have kk18 := Wk.Chg.step hW9 ch11 trivial
      refine (Parts_any 32 Sg1 A n c W11 (HV.out.below (Wk.Chg.below0 kk18)) hSg1 (by omega) (by omega)).mono ?_
      rintro _ W12 ⟨dd1, hd1, hdl1, rfl, ch12⟩
      have zz13 := ch12.size
      have sS2 := Wk.Chg.step sS1 ch12 trivial
      refine ⟨_, rfl, sS2, ?_⟩
      refine Wk.dOp 4 (by kernel_rfl) ?_
      refine Wk.oExS none _ rfl rfl (by kernel_rfl) (Mur.storeAll 30 (.tmp 4) (.tmp 32) rfl w.heap.size (by kernel_rfl) dd1 32 hdl1 (by kernel_rfl) (by kernel_rfl) 30 #[.int .u8 0, .int .u8 0, .int .u8 0, .int .u8 0, .int .u8 0, .int .u8 0, .int .u8 0, .int .u8 0, .int .u8 0, .int .u8 0, .int .u8 0, .int .u8 0, .int .u8 0, .int .u8 0, .int .u8 0, .int .u8 0, .int .u8 0, .int .u8 0, .int .u8 0, .int .u8 0, .int .u8 0, .int .u8 0, .int .u8 0, .int .u8 0, .int .u8 0, .int .u8 0, .int .u8 0, .int .u8 0, .int .u8 0, .int .u8 0, .int .u8 0, .int .u8 0] (Wk.Chg.hp ch12 (Wk.Chg.hp ch11 hE0 trivial) trivial) rfl) ?_
      rintro W13 ⟨hb8, ch13⟩
      have zz14 := ch13.size
      have sS3 := Wk.Chg.step sS2 ch13 ⟨.inl (by simp), trivial⟩
      refine ⟨sS3, ?_⟩
      refine Wk.dVal 5 (some 5) (.int .i64 ((n : Nat) : Int)) rfl rfl (by kernel_rfl) (by kernel_rfl) (by kernel_rfl) (fun _ _ _ h => h) (by kernel_rfl) (fun w' hw' => by kernel_rfl) sS3 ?_
      refine Wk.dEnd (by kernel_rfl) ?_
      refine Wk.nxt ?_
      refine wp_ret ?_
      refine Wk.npR ?_
      refine Wk.retM D rfl (Wk.Chg.hp ch13 (Wk.Chg.hp ch12 (Wk.Chg.hp ch11 hKD trivial) trivial) ⟨by omega, trivial⟩) ?_
      intro W14 ch14
      have zz15 := ch14.size
      have hd_ : dd1 = Mur.sumL p L := by rw [hd1.out, hSf1, Mur.sumL_ok hpre1]; rfl
      have hn_ : (Mur.belowL p L).length = n := hIlen
      have kk19 := Wk.Chg.step kk18 ch12 trivial
      have kk20 := Wk.Chg.step kk19 ch13 ⟨.inr (by omega), trivial⟩
      have kk21 := Wk.Chg.step kk20 ch14 ⟨.inr (by omega), trivial⟩
      refine ⟨.tuple #[.agg ((b8s dd1).toArray), .int .i64 ((n : Nat) : Int)], Mur.results_dig rfl _ _ w.heap.size 30 _ (0, 0) _ (.int .i64 ((n : Nat) : Int)) (by kernel_rfl) (Wk.Chg.hp ch14 hb8 ⟨by omega, trivial⟩) Tryd.underlying30 rfl (by rw [List.size_toArray, Mur.b8s_length, hdl1]; kernel_rfl) (by kernel_rfl), ⟨dd1, Go.Lib.hid hd_, hdl1, ?_, kk21⟩⟩
      rw [hn_]
theorem Sum_nil (A : Option Addr) (n c : Nat) (w : World) : Calls Tryd.prog 16 #[.pointer none, .slice A n c] w fun e w' => e = .returned (.tuple #[.agg (b8s Mur.z32).toArray, .int .i64 0]) ∧ Wk.Chg [] w w' := by
  refine Wk.calls_of_wpM Tryd.func16 rfl ?_
  refine Wk.noP ?_
  refine wp_seq ?_
  refine Wk.reg ?_
  refine Wk.rEx 0 (some 4) _ rfl rfl (by kernel_rfl) (Wk.new_ex (.pointer (some ⟨w.heap.size, 0, none⟩)) #[.int .u8 0, .int .u8 0, .int .u8 0, .int .u8 0, .int .u8 0, .int .u8 0, .int .u8 0, .int .u8 0, .int .u8 0, .int .u8 0, .int .u8 0, .int .u8 0, .int .u8 0, .int .u8 0, .int .u8 0, .int .u8 0, .int .u8 0, .int .u8 0, .int .u8 0, .int .u8 0, .int .u8 0, .int .u8 0, .int .u8 0, .int .u8 0, .int .u8 0, .int .u8 0, .int .u8 0, .int .u8 0, .int .u8 0, .int .u8 0, .int .u8 0, .int .u8 0] 30 (by kernel_rfl)) ?_
  rintro _ W1 ⟨rfl, hb1, ch1, sz1⟩
  have zz1 := ch1.size
  refine Wk.rPure 1 (some 5) (.int .i64 0) rfl rfl (by kernel_rfl) (by kernel_rfl) ?_
  refine Wk.rEnd 2 rfl ?_
  refine Wk.nxt ?_
  refine wp_seq ?_
  refine wp_seq ?_
  refine Wk.reg ?_
  refine Wk.rPure 0 (some 10) (.pointer none) rfl rfl (by kernel_rfl) (by kernel_rfl) ?_
  refine Wk.rPure 1 (some 11) (.bool true) rfl rfl (by kernel_rfl) (by kernel_rfl) ?_
  refine Wk.rPure 2 (some 12) (.bool true) rfl rfl (by kernel_rfl) (by kernel_rfl) ?_
  refine Wk.rPass 3 (some 13) rfl rfl (by kernel_rfl) ?_
  refine Wk.rPass 4 (some 14) rfl rfl (by kernel_rfl) ?_
  refine Wk.rPass 5 (some 15) rfl rfl (by kernel_rfl) ?_
  refine Wk.rPure 6 (some 16) (.bool true) rfl rfl (by kernel_rfl) (by kernel_rfl) ?_
  refine Wk.rEnd 7 rfl ?_
  refine Wk.nxt ?_
  refine wp_cond_true (by kernel_rfl) ?_
  refine wp_seq ?_
  refine Wk.reg ?_
  refine Wk.rPure 0 (some 17) (.agg ((b8s [0, 0, 0, 0, 0, 0, 0, 0, 0, 0, 0, 0, 0, 0, 0, 0, 0, 0, 0, 0, 0, 0, 0, 0, 0, 0, 0, 0, 0, 0, 0, 0]).toArray)) rfl rfl (by kernel_rfl) (by kernel_rfl) ?_
  refine Wk.rExS 1 none _ rfl rfl (by kernel_rfl) (Mur.storeAll 30 (.tmp 4) (.tmp 17) rfl w.heap.size (by kernel_rfl) ([0, 0, 0, 0, 0, 0, 0, 0, 0, 0, 0, 0, 0, 0, 0, 0, 0, 0, 0, 0, 0, 0, 0, 0, 0, 0, 0, 0, 0, 0, 0, 0]) 32 rfl (by kernel_rfl) (by kernel_rfl) 30 #[.int .u8 0, .int .u8 0, .int .u8 0, .int .u8 0, .int .u8 0, .int .u8 0, .int .u8 0, .int .u8 0, .int .u8 0, .int .u8 0, .int .u8 0, .int .u8 0, .int .u8 0, .int .u8 0, .int .u8 0, .int .u8 0, .int .u8 0, .int .u8 0, .int .u8 0, .int .u8 0, .int .u8 0, .int .u8 0, .int .u8 0, .int .u8 0, .int .u8 0, .int .u8 0, .int .u8 0, .int .u8 0, .int .u8 0, .int .u8 0, .int .u8 0, .int .u8 0] hb1 rfl) ?_
  rintro W2 ⟨hb2, ch2⟩
  have zz2 := ch2.size
  refine Wk.rPure 2 (some 5) (.int .i64 0) rfl rfl (by kernel_rfl) (by kernel_rfl) ?_
  refine Wk.rEnd 3 rfl ?_
  refine Wk.nxt ?_
  refine wp_ret ?_
  refine Wk.thR ?_
  refine Wk.npR ?_
  refine Wk.retM0 (.tuple #[.agg (b8s Mur.z32).toArray, .int .i64 0]) rfl (Mur.results_dig rfl _ _ w.heap.size 30 _ (0, 0) _ (.int .i64 0) (by kernel_rfl) hb2 Tryd.underlying30 rfl (by kernel_rfl) (by kernel_rfl)) ?_
  have kk1 : Wk.Chg [] w W1 := Wk.Chg.step ((Wk.Chg.refl _).more (by simp)) ch1 trivial
  have kk2 := Wk.Chg.step kk1 ch2 ⟨.inr (by omega), trivial⟩
  exact ⟨rfl, kk2⟩
end Go.Proofs.YtfhneademopciaaDoor
namespace Mur
open Go Go.RowKit Wk
def k63 : List UInt8 := [63, 0, 0, 0, 0, 0, 0, 0, 0, 0, 0, 0, 0, 0, 0, 0, 0, 0, 0, 0, 0, 0, 0, 0, 0, 0, 0, 0, 0, 0, 0, 0]
def kA : Att := ⟨k63, z32, z32, 1, rfl, rfl, rfl, by decide⟩
theorem kA_add : addS kA [] = ([kA], 0) := by decide +kernel
theorem kA_twice : addS kA [kA] = ([kA], 7) := by decide +kernel
theorem kA_b3 : belowL [3] [kA] = [kA] := by decide +kernel
theorem kA_b315 : belowL [3, 15] [kA] = [kA] := by decide +kernel
theorem kA_b4 : belowL [4] [kA] = [] := by decide +kernel
theorem pre15 : isPre [15] = true := by decide +kernel
theorem pre16 : isPre [16] = false := by decide +kernel
theorem fill_att2 {k : List UInt8} {n : Int} (hk : k.length = 32) : Instr.fill (fun i => #[(0, 32), (32, 32), (64, 1), (65, 32)][i]?) (attC z32 z32 0 z32).toArray [(0, .agg (b8s k).toArray), (2, .int .i64 n)] = some (attC k z32 n z32).toArray := by
  have e1 : splice (attC z32 z32 0 z32) 0 (b8s k) = attC k z32 0 z32 := splice_mid (A := []) (B := b8s z32) (C := b8s z32 ++ (.int .i64 0 :: b8s z32)) (vs := b8s k) rfl (by rw [b8s_length, b8s_length, hk]; rfl)
  have e3 : splice (attC k z32 0 z32) 64 [.int .i64 n] = attC k z32 n z32 := by
    have := splice_mid (A := b8s k ++ b8s z32) (B := [Value.int .i64 0]) (C := b8s z32) (vs := [Value.int .i64 n]) (off := 64) (by rw [List.length_append, b8s_length, b8s_length, hk]; rfl) rfl
    simpa [attC] using this
  refine fill_part (off := 0) (size := 32) rfl rfl (by rw [b8s_length, hk]) (by rw [attC_length rfl rfl rfl]; omega) ?_
  rw [e1]
  refine fill_part (off := 64) (size := 1) (vs := [.int .i64 n]) rfl rfl rfl (by rw [attC_length hk rfl rfl]; omega) ?_
  rw [e3]
  rfl
theorem sameA_step {L M : List Att} {i : Nat} {x y : Att} (h : L.take i = M.take i) (hx : L[i]? = some x) (hy : M[i]? = some y) (e : x = y) : L.take (i + 1) = M.take (i + 1) := by
  obtain ⟨h1, rfl⟩ := List.getElem?_eq_some_iff.1 hx
  obtain ⟨h2, rfl⟩ := List.getElem?_eq_some_iff.1 hy
  rw [List.take_succ_eq_append_getElem h1, List.take_succ_eq_append_getElem h2, h, e]
theorem sameA_all {L M : List Att} {i n : Nat} (h : L.take i = M.take i) (hl : L.length = n) (hm : M.length = n) (hi : n ≤ i) : L = M := by
  rw [List.take_of_length_le (by omega), List.take_of_length_le (by omega)] at h
  exact h
end Mur
namespace Go.Proofs.YtfhneademopciaaDoor
open Go.RowKit Wk
open Mur (b8s attC z32)
theorem built2 {k : List UInt8} {n : Int} (hk : k.length = 32) : Program.built Tryd.prog 32 [(0, .agg (b8s k).toArray), (2, .int .i64 n)] = some (attC k z32 n z32).toArray :=
  (show Program.built Tryd.prog 32 [(0, .agg (b8s k).toArray), (2, .int .i64 n)] = Instr.fill (fun i => #[(0, 32), (32, 32), (64, 1), (65, 32)][i]?) (attC z32 z32 0 z32).toArray [(0, .agg (b8s k).toArray), (2, .int .i64 n)] from by kernel_rfl).trans (Mur.fill_att2 hk)
end Go.Proofs.YtfhneademopciaaDoor
