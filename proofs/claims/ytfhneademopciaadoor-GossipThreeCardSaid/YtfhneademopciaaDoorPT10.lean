/- What the row rests on, part 10. -/
import Derived.Test.YtfhneademopciaaDoorPT9
import Derived.Test.YtfhneademopciaaDoorPT5
namespace Go.Proofs.YtfhneademopciaaDoor
open Go.RowKit Wk
open Mur (b8s Byt Own8 Seg Segs flat cutA attC Att SlA OwnA rowA msgC)
set_option maxRecDepth 100000
set_option maxHeartbeats 4000000
theorem items_any (p : List UInt8) (PA : Option Addr) (pn pc : Nat) (A : Option Addr) (n0 c0 : Nat) (L : List Att) (b : Bool) (w : World) (hb : Byt w PA pn p) (hnil : PA = none → pc = 0) (hpn : pn ≤ 1000) (hl : SlA w A n0 L) (hnc : n0 ≤ c0 ∧ n0 ≤ 1000 ∧ c0 ≤ 9223372036854775807) : Calls Tryd.prog 57 #[.slice PA pn pc, .slice A n0 c0, .bool b] w fun e w' => ∃ A1 n1 c1, e = .returned (.slice A1 n1 c1) ∧ Mur.MsgA w' w.heap.size 66 A1 n1 c1 (Mur.itemsM p L b) ∧ Chg [] w w' := by
 have hlL_ := hl.len
 rcases Nat.eq_zero_or_pos n0 with h0_ | h0_
 ·subst h0_
  refine Wk.calls_of_wpM Tryd.func57 rfl ?_
  refine Wk.noP ?_
  refine wp_seq (reg ?_)
  refine rX 0 3 rfl rfl (new_ex (.pointer (some ⟨w.heap.size, 0, none⟩)) #[.slice PA pn pc] 38 (by kernel_rfl)) ?_
  rintro _ W1 ⟨rfl, hb1, ch1, sz1⟩
  have zz1 := ch1.size
  refine rX 1 5 rfl rfl (new_ex (.pointer (some ⟨W1.heap.size, 0, none⟩)) #[.bool b] 4 (by kernel_rfl)) ?_
  rintro _ W2 ⟨rfl, hb2, ch2, sz2⟩
  have zz2 := ch2.size
  refine rX 2 6 rfl rfl (new_ex (.pointer (some ⟨W2.heap.size, 0, none⟩)) #[.slice none 0 0] 67 (by kernel_rfl)) ?_
  rintro _ W3 ⟨rfl, hb3, ch3, sz3⟩
  have zz3 := ch3.size
  refine rEnd 3 rfl (nxt (wp_seq (wp_seq (reg ?_))))
  refine rP 0 8 (.slice A 0 c0) rfl rfl ?_
  refine rC 1 9 78 [.tmp 8, .const (.int .i64 8)] #[22, 3] [.slice A 0 c0, .int .i64 8] rfl rfl rfl ?_
  refine (Chunk_any A 0 c0 W3).mono ?_
  rintro _ W4 ⟨bq1, bq2, rfl, hbq1, hbq2, hzq1, hzq2, hzq3, ch4⟩
  have zz4 := ch4.size
  refine ⟨_, rfl, ?_⟩
  refine rEnd 2 rfl (nxt (wp_block ?_))
  have kk1 : Chg [] w W1 := Chg.step ((Chg.refl _).more (by simp)) ch1 trivial
  have kk2 := Chg.step kk1 ch2 trivial
  have kk3 := Chg.step kk2 ch3 trivial
  have kk4 := Chg.step kk3 ch4 trivial
  have hseq1 := chunk_seq0 A c0 bq1 bq2 W4 (Mur.encC 0 0 0) hbq1 hbq2
  have hFw := hseq1.1
  have hFb_ : ∀ k_, k_ ∈ [bq1, bq2] → k_ ≠ W2.heap.size := fun k_ hk_ => by
   simp only [List.mem_cons, List.not_mem_nil, or_false] at hk_
   rcases hk_ with rfl | rfl <;> omega
  refine Wk.range (hseq1) (by kernel_rfl) (fun _ _ => by kernel_rfl) (fun x => rfl) (fun pre W' => ∃ A n c, W'.heap[W2.heap.size]? = some (.cells #[.slice A n c] 67 (0, 0)) ∧ Mur.MsgA W' W4.heap.size 66 A n c (pre.map (Mur.chunkM p L b)) ∧ Chg [W2.heap.size] W4 W' ∧ W'.heap[w.heap.size]? = some (.cells #[.slice PA pn pc] 38 (0, 0)) ∧ W'.heap[W1.heap.size]? = some (.cells #[.bool b] 4 (0, 0))) ?_ ?_ ?_ ?_ ?_
  ·rintro pre A1_ A2_ ⟨A, n, c, h1, h2, h3, hE0, hE1⟩ hc
   exact ⟨A, n, c, hc.hp h1 trivial, h2.chg hc (fun _ _ _ _ => trivial), h3.step hc trivial, hc.hp hE0 trivial, hc.hp hE1 trivial⟩
  ·rintro pre A1_ A2_ r_ o_ ⟨A, n, c, h1, h2, h3, hE0, hE1⟩ hr ho hoc hc
   exact ⟨A, n, c, hc.hp h1 ⟨Mur.cells_ne h1 ho hoc, trivial⟩, h2.chg hc (fun q _ _ k_ => ⟨Mur.off_noncells ho hoc k_, trivial⟩), h3.step hc ⟨.inr hr, trivial⟩, hc.hp hE0 ⟨Mur.cells_ne hE0 ho hoc, trivial⟩, hc.hp hE1 ⟨Mur.cells_ne hE1 ho hoc, trivial⟩⟩
  ·exact ⟨none, 0, 0, (Chg.hp ch4 hb3 trivial), Mur.msgA_nil _ _ _, (Chg.refl _).more (by simp), (Chg.hp ch4 (Chg.hp ch3 (Chg.hp ch2 hb1 trivial) trivial) trivial), (Chg.hp ch4 (Chg.hp ch3 hb2 trivial) trivial)⟩
  ·intro lz pre x post A1 hsp hI hwl hlA hlz
   exact absurd hsp (by simp)
  intro D W9 hI hwD hKD
  obtain ⟨A, n, c, hIp, hIo, hIc, hE0, hE1⟩ := hI
  have hlhE0_ := (Array.getElem?_eq_some_iff.1 hE0).1
  have hlhE1_ := (Array.getElem?_eq_some_iff.1 hE1).1
  have hzI_ := hIc.size
  have hIlen := hIo.len
  have hInc := hIo.nc
  have hbl_ := (Array.getElem?_eq_some_iff.1 hIp).1
  have hbD := Mur.cells_ne hIp hKD rfl
  have hDl := (Array.getElem?_eq_some_iff.1 hKD).1
  have hbDhE0 := Mur.cells_ne hE0 hKD rfl
  have hbDhE1 := Mur.cells_ne hE1 hKD rfl
  have hW9 : Chg [] w W9 := Chg.step kk4 hIc ⟨.inr (by omega), trivial⟩
  refine inN (nxt (wp_seq (reg ?_)))
  refine rQ 0 20 _ rfl rfl (load1 67 (.tmp 6) rfl (by kernel_rfl) ⟨W2.heap.size, 0, none⟩ (by kernel_rfl) (.slice A n c) ((cell_of_row _ _ 0 _ _ _ hIp).trans rfl)) ?_
  refine rY 1 rfl rfl (store1 67 (.tmp 6) (.tmp 20) rfl (by kernel_rfl) W2.heap.size 0 (by kernel_rfl) (.slice A n c) (by kernel_rfl) rfl 67 #[.slice A n c] hIp (by simp)) ?_
  rintro W5 ⟨hb4, ch5⟩
  replace hb4 : W5.heap[W2.heap.size]? = some (.cells #[.slice A n c] 67 (0, 0)) := hb4
  have zz5 := ch5.size
  refine rEnd 2 rfl (nxt (wp_ret (npR ?_)))
  refine retM D rfl (Chg.hp ch5 hKD ⟨by omega, trivial⟩) ?_
  intro W6 ch6
  have zz6 := ch6.size
  have ow1 := (Mur.MsgA.chg hIo ch5 (fun q_ k1_ k2_ _ => ⟨by omega, trivial⟩))
  have ow2 := (Mur.MsgA.chg ow1 ch6 (fun q_ _ _ k_ => ⟨Mur.off_noncells (Chg.hp ch5 hKD ⟨by omega, trivial⟩) rfl k_, trivial⟩))
  have kk5 := Chg.step hW9 ch5 ⟨.inr (by omega), trivial⟩
  have kk6 := Chg.step kk5 ch6 ⟨.inr (by omega), trivial⟩
  refine ⟨.slice A n c, Mur.results_sl rfl _ _ W2.heap.size 67 (.slice A n c) (0, 0) (by kernel_rfl) (Chg.hp ch6 hb4 ⟨by omega, trivial⟩) (by kernel_rfl), ⟨_, _, _, rfl, ?_, kk6⟩⟩
  exact Mur.MsgA.low (by rw [← Mur.chunkM_all, hlL_]; exact ow2) (by omega)
 obtain ⟨q, off, hA_, hr_⟩ := hl.ex h0_
 subst hA_
 have hql_ := hl.lt h0_
 refine Wk.calls_of_wpM Tryd.func57 rfl ?_
 refine Wk.noP ?_
 refine wp_seq (reg ?_)
 refine rX 0 3 rfl rfl (new_ex (.pointer (some ⟨w.heap.size, 0, none⟩)) #[.slice PA pn pc] 38 (by kernel_rfl)) ?_
 rintro _ W7 ⟨rfl, hb5, ch7, sz4⟩
 have zz7 := ch7.size
 refine rX 1 5 rfl rfl (new_ex (.pointer (some ⟨W7.heap.size, 0, none⟩)) #[.bool b] 4 (by kernel_rfl)) ?_
 rintro _ W8 ⟨rfl, hb6, ch8, sz5⟩
 have zz8 := ch8.size
 refine rX 2 6 rfl rfl (new_ex (.pointer (some ⟨W8.heap.size, 0, none⟩)) #[.slice none 0 0] 67 (by kernel_rfl)) ?_
 rintro _ W10 ⟨rfl, hb7, ch9, sz6⟩
 have zz9 := ch9.size
 refine rEnd 3 rfl (nxt (wp_seq (wp_seq (reg ?_))))
 refine rP 0 8 (.slice (some ⟨q, off, none⟩) n0 c0) rfl rfl ?_
 refine rC 1 9 78 [.tmp 8, .const (.int .i64 8)] #[22, 3] [.slice (some ⟨q, off, none⟩) n0 c0, .int .i64 8] rfl rfl rfl ?_
 refine (Chunk_any (some ⟨q, off, none⟩) n0 c0 W10).mono ?_
 rintro _ W11 ⟨bq3, bq4, rfl, hbq3, hbq4, hzq4, hzq5, hzq6, ch10⟩
 have zz10 := ch10.size
 refine ⟨_, rfl, ?_⟩
 refine rEnd 2 rfl (nxt (wp_block ?_))
 have kk7 : Chg [] w W7 := Chg.step ((Chg.refl _).more (by simp)) ch7 trivial
 have kk8 := Chg.step kk7 ch8 trivial
 have kk9 := Chg.step kk8 ch9 trivial
 have kk10 := Chg.step kk9 ch10 trivial
 have hseq2 := chunk_seq q off n0 c0 bq3 bq4 W11 (by omega) hbq3 hbq4
 have hFw := hseq2.1
 have hFb_ : ∀ k_, k_ ∈ [bq3, bq4] → k_ ≠ W8.heap.size := fun k_ hk_ => by
  simp only [List.mem_cons, List.not_mem_nil, or_false] at hk_
  rcases hk_ with rfl | rfl <;> omega
 refine Wk.range (hseq2) (by kernel_rfl) (fun _ _ => by kernel_rfl) (fun x => rfl) (fun pre W' => ∃ A n c, W'.heap[W8.heap.size]? = some (.cells #[.slice A n c] 67 (0, 0)) ∧ Mur.MsgA W' W11.heap.size 66 A n c (pre.map (Mur.chunkM p L b)) ∧ Chg [W8.heap.size] W11 W' ∧ W'.heap[w.heap.size]? = some (.cells #[.slice PA pn pc] 38 (0, 0)) ∧ W'.heap[W7.heap.size]? = some (.cells #[.bool b] 4 (0, 0))) ?_ ?_ ?_ ?_ ?_
 ·rintro pre A1_ A2_ ⟨A, n, c, h1, h2, h3, hE0, hE1⟩ hc
  exact ⟨A, n, c, hc.hp h1 trivial, h2.chg hc (fun _ _ _ _ => trivial), h3.step hc trivial, hc.hp hE0 trivial, hc.hp hE1 trivial⟩
 ·rintro pre A1_ A2_ r_ o_ ⟨A, n, c, h1, h2, h3, hE0, hE1⟩ hr ho hoc hc
  exact ⟨A, n, c, hc.hp h1 ⟨Mur.cells_ne h1 ho hoc, trivial⟩, h2.chg hc (fun q _ _ k_ => ⟨Mur.off_noncells ho hoc k_, trivial⟩), h3.step hc ⟨.inr hr, trivial⟩, hc.hp hE0 ⟨Mur.cells_ne hE0 ho hoc, trivial⟩, hc.hp hE1 ⟨Mur.cells_ne hE1 ho hoc, trivial⟩⟩
 ·exact ⟨none, 0, 0, (Chg.hp ch10 hb7 trivial), Mur.msgA_nil _ _ _, (Chg.refl _).more (by simp), (Chg.hp ch10 (Chg.hp ch9 (Chg.hp ch8 hb5 trivial) trivial) trivial), (Chg.hp ch10 (Chg.hp ch9 hb6 trivial) trivial)⟩
 ·intro lz pre x post A1 hsp hI hwl hlA hlz
  obtain ⟨A, n, c, hIp, hIo, hIc, hE0, hE1⟩ := hI
  have hlhE0_ := (Array.getElem?_eq_some_iff.1 hE0).1
  have hlhE1_ := (Array.getElem?_eq_some_iff.1 hE1).1
  have hzI_ := hIc.size
  have hIlen := hIo.len
  have hInc := hIo.nc
  have hbl_ := (Array.getElem?_eq_some_iff.1 hIp).1
  have hbz := Mur.cells_ne' hIp hlz
  have hpl_ : pre.length + 1 ≤ (n0 + 7) / 8 := by have := congrArg List.length hsp; simp at this; omega
  have hpl2_ : (pre.map (Mur.chunkM p L b)).length = pre.length := List.length_map _
  have hbzhE0 := Mur.cells_ne' hE0 hlz
  have hbzhE1 := Mur.cells_ne' hE1 hlz
  have hIw_ : Chg [W8.heap.size] w A1 := Chg.step (kk10.more (by simp)) hIc ⟨.inl (by simp), trivial⟩
  have hxs_ : SlA w (some ⟨q, off + 8 * x * 97, none⟩) (min 8 (n0 - 8 * x)) ((L.drop (8 * x)).take 8) := hl.chunk x
  have hxlt_ : ∀ g_ off_, some (⟨q, off + 8 * x * 97, none⟩ : Addr) = some ⟨g_, off_, none⟩ → g_ < w.heap.size := fun g_ off_ e_ => by cases e_; exact hql_
  have hPlt_ : ∀ g_ off_, PA = some ⟨g_, off_, none⟩ → 0 < pn → g_ < w.heap.size := fun g_ off_ e_ hn_ => Mur.pblk_lt hb g_ (Mur.pblk_mem e_ hn_)
  refine Wk.regI ?_
  refine Wk.iPure 0 (some 7) (.slice (some ⟨q, off + 8 * x * 97, none⟩) (min 8 (n0 - 8 * x)) (min 8 (n0 - 8 * x))) rfl rfl rfl (by kernel_rfl) (by kernel_rfl) ?_
  refine Wk.iEnd 1 rfl (nxt ?_)
  refine ⟨(Chg.refl _), ?_⟩
  have hlz2_ := hlz.imp (fun _ h_ => Chg.hp (Chg.refl _) h_ trivial)
  intro A2 hch2
  have zz11 := hch2.size
  refine wpIn_block ?_
  refine Wk.dRegI (([W8.heap.size] ++ Wk.blk (.slice A n c))) (by kernel_rfl) (by kernel_rfl) ?_
  intro W12 ch11 sz7
  have zz12 := ch11.size
  have sS1 : Chg (([W8.heap.size] ++ Wk.blk (.slice A n c))) W12 W12 := (Chg.refl _).more (by simp)
  refine dV 1 12 (.slice PA pn pc) rfl rfl (fun w' hw' => (load1 38 (.tmp 3) rfl (by kernel_rfl) ⟨w.heap.size, 0, none⟩ (by kernel_rfl) (.slice PA pn pc) ((cell_of_row _ _ 0 _ _ _ (Chg.hp hw' (Chg.hp ch11 (Chg.hp hch2 hE0 ⟨by omega, trivial⟩) trivial) ⟨by omega, (off_blk (fun gz hgz => by have := hIo.lt gz hgz; omega))⟩)).trans rfl))) sS1 ?_
  refine dV 3 14 (.slice (some ⟨q, off + 8 * x * 97, none⟩) (min 8 (n0 - 8 * x)) (min 8 (n0 - 8 * x))) rfl rfl (fun _ _ => by kernel_rfl) sS1 ?_
  refine dV 5 16 (.bool b) rfl rfl (fun w' hw' => (load1 4 (.tmp 5) rfl (by kernel_rfl) ⟨W7.heap.size, 0, none⟩ (by kernel_rfl) (.bool b) ((cell_of_row _ _ 0 _ _ _ (Chg.hp hw' (Chg.hp ch11 (Chg.hp hch2 hE1 ⟨by omega, trivial⟩) trivial) ⟨by omega, (off_blk (fun gz hgz => by have := hIo.lt gz hgz; omega))⟩)).trans rfl))) sS1 ?_
  refine dOp2 0 2 (by kernel_rfl) ?_ ?_
  ·refine Wk.oVal (some 11) (.slice A n c) rfl rfl (by kernel_rfl) (load1 67 (.tmp 6) rfl (by kernel_rfl) ⟨W8.heap.size, 0, none⟩ (by kernel_rfl) (.slice A n c) ((cell_of_row _ _ 0 _ _ _ (Chg.hp ch11 (Chg.hp hch2 hIp ⟨by omega, trivial⟩) trivial)).trans rfl)) ?_
   refine ⟨sS1, ?_⟩
   refine dOp 2 (by kernel_rfl) ?_
   refine oCall (some 13) 75 [.tmp 12] #[38] [.slice PA pn pc] rfl rfl (by kernel_rfl) rfl (by kernel_rfl) (by kernel_rfl) ?_
   have kk11 := Chg.step hIw_ hch2 ⟨.inr (by omega), trivial⟩
   have kk12 := Chg.step kk11 ch11 trivial
   refine (CloneB_any p PA pn pc W12 (Mur.byt_chg hb kk12 (fun g off e hl => ⟨by have := hPlt_ g off e; omega, trivial⟩)) hnil (by omega)).mono ?_
   rintro _ W13 ⟨AA1, nn1, nn2, rfl, ow3, ch12⟩
   have zz13 := ch12.size
   have hq1 := ow3.byt.1
   have hq2 := ow3.nc
   have hq3 := ow3.cm
   have sS2 := Chg.step sS1 ch12 trivial
   refine ⟨_, rfl, sS2, ?_⟩
   refine dOp 4 (by kernel_rfl) ?_
   refine oCall (some 15) 51 [.tmp 14] #[22] [.slice (some ⟨q, off + 8 * x * 97, none⟩) (min 8 (n0 - 8 * x)) (min 8 (n0 - 8 * x))] rfl rfl (by kernel_rfl) rfl (by kernel_rfl) (by kernel_rfl) ?_
   have kk13 := Chg.step kk12 ch12 trivial
   refine (CloneS_any q (off + 8 * x * 97) (min 8 (n0 - 8 * x)) (min 8 (n0 - 8 * x)) ((L.drop (8 * x)).take 8) W13 (Mur.SlA.chg hxs_ kk13 (fun g off e hl => ⟨by have := hxlt_ g off e; omega, trivial⟩)) (by omega)).mono ?_
   rintro _ W14 ⟨AA2, nn3, rfl, ow4, ch13⟩
   have zz14 := ch13.size
   have hq4 := ow4.nc
   have sS3 := Chg.step sS2 ch13 trivial
   refine ⟨_, rfl, sS3, ?_⟩
   refine dV 6 17 (.agg ((Mur.msgC 2 AA1 nn1 nn2 Mur.z32 0 AA2 (min 8 (n0 - 8 * x)) nn3 b).toArray)) rfl rfl (fun w' hw' => (Mur.run_built 66 _ rfl [(0, .int .u8 2), (1, .slice AA1 nn1 nn2), (4, .slice AA2 (min 8 (n0 - 8 * x)) nn3), (5, .bool b)] (by kernel_rfl) _ (built_items AA1 nn1 nn2 AA2 (min 8 (n0 - 8 * x)) nn3 b))) sS3 ?_
   refine dOp 7 (by kernel_rfl) ?_
   refine oEx (some 18) _ rfl rfl (by kernel_rfl) (Mur.buildR1 67 66 (.tmp 17) rfl Tryd.underlying67 Mur.msgZ 37 104 msgI (Mur.msgC_length rfl) (by decide) (by decide) (Mur.msgC 2 AA1 nn1 nn2 Mur.z32 0 AA2 (min 8 (n0 - 8 * x)) nn3 b) (Mur.msgC_length rfl) (by kernel_rfl)) ?_
   rintro _ W15 ⟨rfl, hb8, ch14, sz8⟩
   have zz15 := ch14.size
   have sS4 := Chg.step sS3 ch14 trivial
   refine ⟨sS4, ?_⟩
   refine dOp 8 (by kernel_rfl) ?_
   have ow5 := (Mur.MsgA.chg hIo (Chg.refl _) (fun _ _ _ _ => trivial))
   have ow6 := (Mur.MsgA.chg ow5 hch2 (fun q_ _ _ k_ => ⟨Mur.off_loop hlz2_ k_, trivial⟩))
   have ow7 := (Mur.MsgA.chg ow6 ch11 (fun _ _ _ _ => trivial))
   have ow8 := (Mur.MsgA.chg ow7 ch12 (fun _ _ _ _ => trivial))
   have ow9 := (Mur.MsgA.chg ow8 ch13 (fun _ _ _ _ => trivial))
   have ow10 := (Mur.MsgA.chg ow9 ch14 (fun _ _ _ _ => trivial))
   have ow11 := Mur.own8 (own_chg ow3.own ch13 (fun q e _ _ => trivial))
   have ow12 := Mur.own8 (own_chg ow11.own ch14 (fun q e _ _ => trivial))
   have ow13 := Mur.OwnA.chg ow4 ch14 (fun q e _ _ => trivial)
   have hsub1 := Mur.subs_own (kd := 2) (s := Mur.z32) (k := 0) (b := b) ow12 ow13 rfl
   have hlt1 := hIo.lt
   refine oEx (some 19) _ rfl rfl (by kernel_rfl) (Mur.appendM (.tmp 11) (.tmp 18) 67 66 rfl Tryd.underlying67 msgI W11.heap.size A n c (pre.map (Mur.chunkM p L b)) W14.heap.size ⟨2, AA1, nn1, nn2, Mur.z32, 0, AA2, (min 8 (n0 - 8 * x)), nn3, b, rfl⟩ (Mur.chunkM p L b x) (by kernel_rfl) (by kernel_rfl) ow10 hb8 (Mur.rawok_items ow12 ow13 b) (fun q_ hq_ => ⟨by have := hsub1 q_ hq_; omega, fun e_ => by have := hlt1 q_ e_; have := hsub1 q_ hq_; omega⟩) (by omega) (by omega)) ?_
   rintro _ W16 ⟨AA3, nn4, rfl, ow14, ch15⟩
   have zz16 := ch15.size
   have hq5 := ow14.nc
   have hq6 := ow14.cm
   have sS5 := Chg.step sS4 ch15 (Mur.newOr_iff.2 (fun t ht => .inl (List.mem_append_right _ ht)))
   refine ⟨sS5, ?_⟩
   refine dOp 9 (by kernel_rfl) ?_
   refine oExS none _ rfl rfl (by kernel_rfl) (store1 67 (.tmp 6) (.tmp 19) rfl (by kernel_rfl) W8.heap.size 0 (by kernel_rfl) (.slice AA3 (n + 1) nn4) (by kernel_rfl) rfl 67 #[.slice A n c] (Chg.hp ch15 (Chg.hp ch14 (Chg.hp ch13 (Chg.hp ch12 (Chg.hp ch11 (Chg.hp hch2 hIp ⟨by omega, trivial⟩) trivial) trivial) trivial) trivial) (off_blk (fun gz hgz => by have := hlt1 gz hgz; omega))) (by simp)) ?_
   rintro W17 ⟨hb9, ch16⟩
   replace hb9 : W17.heap[W8.heap.size]? = some (.cells #[.slice AA3 (n + 1) nn4] 67 (0, 0)) := hb9
   have zz17 := ch16.size
   have sS6 := Chg.step sS5 ch16 ⟨.inl (by simp), trivial⟩
   refine ⟨sS6, ?_⟩
   refine Wk.dEndI (by kernel_rfl) (inN ?_)
   have kk14 : Chg ([W8.heap.size] ++ Wk.blk (.slice A n c)) A2 W12 := Chg.step ((Chg.refl _).more (by simp)) ch11 trivial
   have kk15 := Chg.step kk14 ch12 trivial
   have kk16 := Chg.step kk15 ch13 trivial
   have kk17 := Chg.step kk16 ch14 trivial
   have kk18 := Chg.step kk17 ch15 (Mur.newOr_iff.2 (fun t ht => .inl (List.mem_append_right _ ht)))
   have kk19 := Chg.step kk18 ch16 ⟨.inl (by simp), trivial⟩
   have kk20 := Chg.step hIc hch2 ⟨.inr (by omega), trivial⟩
   have kk21 := Chg.step kk20 ch11 trivial
   have kk22 := Chg.step kk21 ch12 trivial
   have kk23 := Chg.step kk22 ch13 trivial
   have kk24 := Chg.step kk23 ch14 trivial
   have kk25 := Chg.step kk24 ch15 (newOr_blk (fun g hg => by have := hlt1 g hg; omega))
   have kk26 := Chg.step kk25 ch16 ⟨.inl (by simp), trivial⟩
   have ow15 := (Mur.MsgA.chg ow14 ch16 (fun q_ k1_ k2_ _ => ⟨by omega, trivial⟩))
   refine roundN _ kk19 (fun s_ hs_ hlt_ => ?_) (fun k_ hk_ => ⟨hFb_ k_ hk_, off_blk (fun q hq => by have := hIo.lt q hq; have := hFw k_ hk_; omega)⟩) ⟨_, _, _, hb9, (by rw [List.map_append]; exact ow15), kk26, (Chg.hp ch16 (Chg.hp ch15 (Chg.hp ch14 (Chg.hp ch13 (Chg.hp ch12 (Chg.hp ch11 (Chg.hp hch2 hE0 ⟨by omega, trivial⟩) trivial) trivial) trivial) trivial) (off_blk (fun gz hgz => by have := hlt1 gz hgz; omega))) ⟨by omega, trivial⟩), (Chg.hp ch16 (Chg.hp ch15 (Chg.hp ch14 (Chg.hp ch13 (Chg.hp ch12 (Chg.hp ch11 (Chg.hp hch2 hE1 ⟨by omega, trivial⟩) trivial) trivial) trivial) trivial) (off_blk (fun gz hgz => by have := hlt1 gz hgz; omega))) ⟨by omega, trivial⟩)⟩
   rcases List.mem_cons.1 hs_ with rfl | hs_
   ·exact ⟨_, (hch2.hp hIp ⟨hbz, trivial⟩), rfl⟩
   exact Mur.MsgA.cells (Mur.MsgA.chg (Mur.MsgA.chg hIo (Chg.refl _) (fun _ _ _ _ => trivial)) hch2 (fun q_ _ _ k_ => ⟨Mur.off_loop hlz2_ k_, trivial⟩)) (Mur.blk_mem hs_)
  refine oCall (some 13) 75 [.tmp 12] #[38] [.slice PA pn pc] rfl rfl (by kernel_rfl) rfl (by kernel_rfl) (by kernel_rfl) ?_
  have kk27 := Chg.step hIw_ hch2 ⟨.inr (by omega), trivial⟩
  have kk28 := Chg.step kk27 ch11 trivial
  refine (CloneB_any p PA pn pc W12 (Mur.byt_chg hb kk28 (fun g off e hl => ⟨by have := hPlt_ g off e; omega, trivial⟩)) hnil (by omega)).mono ?_
  rintro _ W18 ⟨AA4, nn5, nn6, rfl, ow16, ch17⟩
  have zz18 := ch17.size
  have hq7 := ow16.byt.1
  have hq8 := ow16.nc
  have hq9 := ow16.cm
  have sS7 := Chg.step sS1 ch17 trivial
  refine ⟨_, rfl, sS7, ?_⟩
  refine dOp2 0 4 (by kernel_rfl) ?_ ?_
  ·refine Wk.oVal (some 11) (.slice A n c) rfl rfl (by kernel_rfl) (load1 67 (.tmp 6) rfl (by kernel_rfl) ⟨W8.heap.size, 0, none⟩ (by kernel_rfl) (.slice A n c) ((cell_of_row _ _ 0 _ _ _ (Chg.hp ch17 (Chg.hp ch11 (Chg.hp hch2 hIp ⟨by omega, trivial⟩) trivial) trivial)).trans rfl)) ?_
   refine ⟨sS7, ?_⟩
   refine dOp 4 (by kernel_rfl) ?_
   refine oCall (some 15) 51 [.tmp 14] #[22] [.slice (some ⟨q, off + 8 * x * 97, none⟩) (min 8 (n0 - 8 * x)) (min 8 (n0 - 8 * x))] rfl rfl (by kernel_rfl) rfl (by kernel_rfl) (by kernel_rfl) ?_
   have kk29 := Chg.step kk28 ch17 trivial
   refine (CloneS_any q (off + 8 * x * 97) (min 8 (n0 - 8 * x)) (min 8 (n0 - 8 * x)) ((L.drop (8 * x)).take 8) W18 (Mur.SlA.chg hxs_ kk29 (fun g off e hl => ⟨by have := hxlt_ g off e; omega, trivial⟩)) (by omega)).mono ?_
   rintro _ W19 ⟨AA5, nn7, rfl, ow17, ch18⟩
   have zz19 := ch18.size
   have hq10 := ow17.nc
   have sS8 := Chg.step sS7 ch18 trivial
   refine ⟨_, rfl, sS8, ?_⟩
   refine dV 6 17 (.agg ((Mur.msgC 2 AA4 nn5 nn6 Mur.z32 0 AA5 (min 8 (n0 - 8 * x)) nn7 b).toArray)) rfl rfl (fun w' hw' => (Mur.run_built 66 _ rfl [(0, .int .u8 2), (1, .slice AA4 nn5 nn6), (4, .slice AA5 (min 8 (n0 - 8 * x)) nn7), (5, .bool b)] (by kernel_rfl) _ (built_items AA4 nn5 nn6 AA5 (min 8 (n0 - 8 * x)) nn7 b))) sS8 ?_
   refine dOp 7 (by kernel_rfl) ?_
   refine oEx (some 18) _ rfl rfl (by kernel_rfl) (Mur.buildR1 67 66 (.tmp 17) rfl Tryd.underlying67 Mur.msgZ 37 104 msgI (Mur.msgC_length rfl) (by decide) (by decide) (Mur.msgC 2 AA4 nn5 nn6 Mur.z32 0 AA5 (min 8 (n0 - 8 * x)) nn7 b) (Mur.msgC_length rfl) (by kernel_rfl)) ?_
   rintro _ W20 ⟨rfl, hb10, ch19, sz9⟩
   have zz20 := ch19.size
   have sS9 := Chg.step sS8 ch19 trivial
   refine ⟨sS9, ?_⟩
   refine dOp 8 (by kernel_rfl) ?_
   have ow18 := (Mur.MsgA.chg hIo (Chg.refl _) (fun _ _ _ _ => trivial))
   have ow19 := (Mur.MsgA.chg ow18 hch2 (fun q_ _ _ k_ => ⟨Mur.off_loop hlz2_ k_, trivial⟩))
   have ow20 := (Mur.MsgA.chg ow19 ch11 (fun _ _ _ _ => trivial))
   have ow21 := (Mur.MsgA.chg ow20 ch17 (fun _ _ _ _ => trivial))
   have ow22 := (Mur.MsgA.chg ow21 ch18 (fun _ _ _ _ => trivial))
   have ow23 := (Mur.MsgA.chg ow22 ch19 (fun _ _ _ _ => trivial))
   have ow24 := Mur.own8 (own_chg ow16.own ch18 (fun q e _ _ => trivial))
   have ow25 := Mur.own8 (own_chg ow24.own ch19 (fun q e _ _ => trivial))
   have ow26 := Mur.OwnA.chg ow17 ch19 (fun q e _ _ => trivial)
   have hsub2 := Mur.subs_own (kd := 2) (s := Mur.z32) (k := 0) (b := b) ow25 ow26 rfl
   have hlt2 := hIo.lt
   refine oEx (some 19) _ rfl rfl (by kernel_rfl) (Mur.appendM (.tmp 11) (.tmp 18) 67 66 rfl Tryd.underlying67 msgI W11.heap.size A n c (pre.map (Mur.chunkM p L b)) W19.heap.size ⟨2, AA4, nn5, nn6, Mur.z32, 0, AA5, (min 8 (n0 - 8 * x)), nn7, b, rfl⟩ (Mur.chunkM p L b x) (by kernel_rfl) (by kernel_rfl) ow23 hb10 (Mur.rawok_items ow25 ow26 b) (fun q_ hq_ => ⟨by have := hsub2 q_ hq_; omega, fun e_ => by have := hlt2 q_ e_; have := hsub2 q_ hq_; omega⟩) (by omega) (by omega)) ?_
   rintro _ W21 ⟨AA6, nn8, rfl, ow27, ch20⟩
   have zz21 := ch20.size
   have hq11 := ow27.nc
   have hq12 := ow27.cm
   have sS10 := Chg.step sS9 ch20 (Mur.newOr_iff.2 (fun t ht => .inl (List.mem_append_right _ ht)))
   refine ⟨sS10, ?_⟩
   refine dOp 9 (by kernel_rfl) ?_
   refine oExS none _ rfl rfl (by kernel_rfl) (store1 67 (.tmp 6) (.tmp 19) rfl (by kernel_rfl) W8.heap.size 0 (by kernel_rfl) (.slice AA6 (n + 1) nn8) (by kernel_rfl) rfl 67 #[.slice A n c] (Chg.hp ch20 (Chg.hp ch19 (Chg.hp ch18 (Chg.hp ch17 (Chg.hp ch11 (Chg.hp hch2 hIp ⟨by omega, trivial⟩) trivial) trivial) trivial) trivial) (off_blk (fun gz hgz => by have := hlt2 gz hgz; omega))) (by simp)) ?_
   rintro W22 ⟨hb11, ch21⟩
   replace hb11 : W22.heap[W8.heap.size]? = some (.cells #[.slice AA6 (n + 1) nn8] 67 (0, 0)) := hb11
   have zz22 := ch21.size
   have sS11 := Chg.step sS10 ch21 ⟨.inl (by simp), trivial⟩
   refine ⟨sS11, ?_⟩
   refine Wk.dEndI (by kernel_rfl) (inN ?_)
   have kk30 : Chg ([W8.heap.size] ++ Wk.blk (.slice A n c)) A2 W12 := Chg.step ((Chg.refl _).more (by simp)) ch11 trivial
   have kk31 := Chg.step kk30 ch17 trivial
   have kk32 := Chg.step kk31 ch18 trivial
   have kk33 := Chg.step kk32 ch19 trivial
   have kk34 := Chg.step kk33 ch20 (Mur.newOr_iff.2 (fun t ht => .inl (List.mem_append_right _ ht)))
   have kk35 := Chg.step kk34 ch21 ⟨.inl (by simp), trivial⟩
   have kk36 := Chg.step hIc hch2 ⟨.inr (by omega), trivial⟩
   have kk37 := Chg.step kk36 ch11 trivial
   have kk38 := Chg.step kk37 ch17 trivial
   have kk39 := Chg.step kk38 ch18 trivial
   have kk40 := Chg.step kk39 ch19 trivial
   have kk41 := Chg.step kk40 ch20 (newOr_blk (fun g hg => by have := hlt2 g hg; omega))
   have kk42 := Chg.step kk41 ch21 ⟨.inl (by simp), trivial⟩
   have ow28 := (Mur.MsgA.chg ow27 ch21 (fun q_ k1_ k2_ _ => ⟨by omega, trivial⟩))
   refine roundN _ kk35 (fun s_ hs_ hlt_ => ?_) (fun k_ hk_ => ⟨hFb_ k_ hk_, off_blk (fun q hq => by have := hIo.lt q hq; have := hFw k_ hk_; omega)⟩) ⟨_, _, _, hb11, (by rw [List.map_append]; exact ow28), kk42, (Chg.hp ch21 (Chg.hp ch20 (Chg.hp ch19 (Chg.hp ch18 (Chg.hp ch17 (Chg.hp ch11 (Chg.hp hch2 hE0 ⟨by omega, trivial⟩) trivial) trivial) trivial) trivial) (off_blk (fun gz hgz => by have := hlt2 gz hgz; omega))) ⟨by omega, trivial⟩), (Chg.hp ch21 (Chg.hp ch20 (Chg.hp ch19 (Chg.hp ch18 (Chg.hp ch17 (Chg.hp ch11 (Chg.hp hch2 hE1 ⟨by omega, trivial⟩) trivial) trivial) trivial) trivial) (off_blk (fun gz hgz => by have := hlt2 gz hgz; omega))) ⟨by omega, trivial⟩)⟩
   rcases List.mem_cons.1 hs_ with rfl | hs_
   ·exact ⟨_, (hch2.hp hIp ⟨hbz, trivial⟩), rfl⟩
   exact Mur.MsgA.cells (Mur.MsgA.chg (Mur.MsgA.chg hIo (Chg.refl _) (fun _ _ _ _ => trivial)) hch2 (fun q_ _ _ k_ => ⟨Mur.off_loop hlz2_ k_, trivial⟩)) (Mur.blk_mem hs_)
  refine oCall (some 15) 51 [.tmp 14] #[22] [.slice (some ⟨q, off + 8 * x * 97, none⟩) (min 8 (n0 - 8 * x)) (min 8 (n0 - 8 * x))] rfl rfl (by kernel_rfl) rfl (by kernel_rfl) (by kernel_rfl) ?_
  have kk43 := Chg.step kk28 ch17 trivial
  refine (CloneS_any q (off + 8 * x * 97) (min 8 (n0 - 8 * x)) (min 8 (n0 - 8 * x)) ((L.drop (8 * x)).take 8) W18 (Mur.SlA.chg hxs_ kk43 (fun g off e hl => ⟨by have := hxlt_ g off e; omega, trivial⟩)) (by omega)).mono ?_
  rintro _ W23 ⟨AA7, nn9, rfl, ow29, ch22⟩
  have zz23 := ch22.size
  have hq13 := ow29.nc
  have sS12 := Chg.step sS7 ch22 trivial
  refine ⟨_, rfl, sS12, ?_⟩
  refine dV 6 17 (.agg ((Mur.msgC 2 AA4 nn5 nn6 Mur.z32 0 AA7 (min 8 (n0 - 8 * x)) nn9 b).toArray)) rfl rfl (fun w' hw' => (Mur.run_built 66 _ rfl [(0, .int .u8 2), (1, .slice AA4 nn5 nn6), (4, .slice AA7 (min 8 (n0 - 8 * x)) nn9), (5, .bool b)] (by kernel_rfl) _ (built_items AA4 nn5 nn6 AA7 (min 8 (n0 - 8 * x)) nn9 b))) sS12 ?_
  refine dOp2 0 7 (by kernel_rfl) ?_ ?_
  ·refine Wk.oVal (some 11) (.slice A n c) rfl rfl (by kernel_rfl) (load1 67 (.tmp 6) rfl (by kernel_rfl) ⟨W8.heap.size, 0, none⟩ (by kernel_rfl) (.slice A n c) ((cell_of_row _ _ 0 _ _ _ (Chg.hp ch22 (Chg.hp ch17 (Chg.hp ch11 (Chg.hp hch2 hIp ⟨by omega, trivial⟩) trivial) trivial) trivial)).trans rfl)) ?_
   refine ⟨sS12, ?_⟩
   refine dOp 7 (by kernel_rfl) ?_
   refine oEx (some 18) _ rfl rfl (by kernel_rfl) (Mur.buildR1 67 66 (.tmp 17) rfl Tryd.underlying67 Mur.msgZ 37 104 msgI (Mur.msgC_length rfl) (by decide) (by decide) (Mur.msgC 2 AA4 nn5 nn6 Mur.z32 0 AA7 (min 8 (n0 - 8 * x)) nn9 b) (Mur.msgC_length rfl) (by kernel_rfl)) ?_
   rintro _ W24 ⟨rfl, hb12, ch23, sz10⟩
   have zz24 := ch23.size
   have sS13 := Chg.step sS12 ch23 trivial
   refine ⟨sS13, ?_⟩
   refine dOp 8 (by kernel_rfl) ?_
   have ow30 := (Mur.MsgA.chg hIo (Chg.refl _) (fun _ _ _ _ => trivial))
   have ow31 := (Mur.MsgA.chg ow30 hch2 (fun q_ _ _ k_ => ⟨Mur.off_loop hlz2_ k_, trivial⟩))
   have ow32 := (Mur.MsgA.chg ow31 ch11 (fun _ _ _ _ => trivial))
   have ow33 := (Mur.MsgA.chg ow32 ch17 (fun _ _ _ _ => trivial))
   have ow34 := (Mur.MsgA.chg ow33 ch22 (fun _ _ _ _ => trivial))
   have ow35 := (Mur.MsgA.chg ow34 ch23 (fun _ _ _ _ => trivial))
   have ow36 := Mur.own8 (own_chg ow16.own ch22 (fun q e _ _ => trivial))
   have ow37 := Mur.own8 (own_chg ow36.own ch23 (fun q e _ _ => trivial))
   have ow38 := Mur.OwnA.chg ow29 ch23 (fun q e _ _ => trivial)
   have hsub3 := Mur.subs_own (kd := 2) (s := Mur.z32) (k := 0) (b := b) ow37 ow38 rfl
   have hlt3 := hIo.lt
   refine oEx (some 19) _ rfl rfl (by kernel_rfl) (Mur.appendM (.tmp 11) (.tmp 18) 67 66 rfl Tryd.underlying67 msgI W11.heap.size A n c (pre.map (Mur.chunkM p L b)) W23.heap.size ⟨2, AA4, nn5, nn6, Mur.z32, 0, AA7, (min 8 (n0 - 8 * x)), nn9, b, rfl⟩ (Mur.chunkM p L b x) (by kernel_rfl) (by kernel_rfl) ow35 hb12 (Mur.rawok_items ow37 ow38 b) (fun q_ hq_ => ⟨by have := hsub3 q_ hq_; omega, fun e_ => by have := hlt3 q_ e_; have := hsub3 q_ hq_; omega⟩) (by omega) (by omega)) ?_
   rintro _ W25 ⟨AA8, nn10, rfl, ow39, ch24⟩
   have zz25 := ch24.size
   have hq14 := ow39.nc
   have hq15 := ow39.cm
   have sS14 := Chg.step sS13 ch24 (Mur.newOr_iff.2 (fun t ht => .inl (List.mem_append_right _ ht)))
   refine ⟨sS14, ?_⟩
   refine dOp 9 (by kernel_rfl) ?_
   refine oExS none _ rfl rfl (by kernel_rfl) (store1 67 (.tmp 6) (.tmp 19) rfl (by kernel_rfl) W8.heap.size 0 (by kernel_rfl) (.slice AA8 (n + 1) nn10) (by kernel_rfl) rfl 67 #[.slice A n c] (Chg.hp ch24 (Chg.hp ch23 (Chg.hp ch22 (Chg.hp ch17 (Chg.hp ch11 (Chg.hp hch2 hIp ⟨by omega, trivial⟩) trivial) trivial) trivial) trivial) (off_blk (fun gz hgz => by have := hlt3 gz hgz; omega))) (by simp)) ?_
   rintro W26 ⟨hb13, ch25⟩
   replace hb13 : W26.heap[W8.heap.size]? = some (.cells #[.slice AA8 (n + 1) nn10] 67 (0, 0)) := hb13
   have zz26 := ch25.size
   have sS15 := Chg.step sS14 ch25 ⟨.inl (by simp), trivial⟩
   refine ⟨sS15, ?_⟩
   refine Wk.dEndI (by kernel_rfl) (inN ?_)
   have kk44 : Chg ([W8.heap.size] ++ Wk.blk (.slice A n c)) A2 W12 := Chg.step ((Chg.refl _).more (by simp)) ch11 trivial
   have kk45 := Chg.step kk44 ch17 trivial
   have kk46 := Chg.step kk45 ch22 trivial
   have kk47 := Chg.step kk46 ch23 trivial
   have kk48 := Chg.step kk47 ch24 (Mur.newOr_iff.2 (fun t ht => .inl (List.mem_append_right _ ht)))
   have kk49 := Chg.step kk48 ch25 ⟨.inl (by simp), trivial⟩
   have kk50 := Chg.step hIc hch2 ⟨.inr (by omega), trivial⟩
   have kk51 := Chg.step kk50 ch11 trivial
   have kk52 := Chg.step kk51 ch17 trivial
   have kk53 := Chg.step kk52 ch22 trivial
   have kk54 := Chg.step kk53 ch23 trivial
   have kk55 := Chg.step kk54 ch24 (newOr_blk (fun g hg => by have := hlt3 g hg; omega))
   have kk56 := Chg.step kk55 ch25 ⟨.inl (by simp), trivial⟩
   have ow40 := (Mur.MsgA.chg ow39 ch25 (fun q_ k1_ k2_ _ => ⟨by omega, trivial⟩))
   refine roundN _ kk49 (fun s_ hs_ hlt_ => ?_) (fun k_ hk_ => ⟨hFb_ k_ hk_, off_blk (fun q hq => by have := hIo.lt q hq; have := hFw k_ hk_; omega)⟩) ⟨_, _, _, hb13, (by rw [List.map_append]; exact ow40), kk56, (Chg.hp ch25 (Chg.hp ch24 (Chg.hp ch23 (Chg.hp ch22 (Chg.hp ch17 (Chg.hp ch11 (Chg.hp hch2 hE0 ⟨by omega, trivial⟩) trivial) trivial) trivial) trivial) (off_blk (fun gz hgz => by have := hlt3 gz hgz; omega))) ⟨by omega, trivial⟩), (Chg.hp ch25 (Chg.hp ch24 (Chg.hp ch23 (Chg.hp ch22 (Chg.hp ch17 (Chg.hp ch11 (Chg.hp hch2 hE1 ⟨by omega, trivial⟩) trivial) trivial) trivial) trivial) (off_blk (fun gz hgz => by have := hlt3 gz hgz; omega))) ⟨by omega, trivial⟩)⟩
   rcases List.mem_cons.1 hs_ with rfl | hs_
   ·exact ⟨_, (hch2.hp hIp ⟨hbz, trivial⟩), rfl⟩
   exact Mur.MsgA.cells (Mur.MsgA.chg (Mur.MsgA.chg hIo (Chg.refl _) (fun _ _ _ _ => trivial)) hch2 (fun q_ _ _ k_ => ⟨Mur.off_loop hlz2_ k_, trivial⟩)) (Mur.blk_mem hs_)
  refine oEx (some 18) _ rfl rfl (by kernel_rfl) (Mur.buildR1 67 66 (.tmp 17) rfl Tryd.underlying67 Mur.msgZ 37 104 msgI (Mur.msgC_length rfl) (by decide) (by decide) (Mur.msgC 2 AA4 nn5 nn6 Mur.z32 0 AA7 (min 8 (n0 - 8 * x)) nn9 b) (Mur.msgC_length rfl) (by kernel_rfl)) ?_
  rintro _ W27 ⟨rfl, hb14, ch26, sz11⟩
  have zz27 := ch26.size
  have sS16 := Chg.step sS12 ch26 trivial
  refine ⟨sS16, ?_⟩
  refine dOp 0 (by kernel_rfl) ?_
  refine Wk.oVal (some 11) (.slice A n c) rfl rfl (by kernel_rfl) (load1 67 (.tmp 6) rfl (by kernel_rfl) ⟨W8.heap.size, 0, none⟩ (by kernel_rfl) (.slice A n c) ((cell_of_row _ _ 0 _ _ _ (Chg.hp ch26 (Chg.hp ch22 (Chg.hp ch17 (Chg.hp ch11 (Chg.hp hch2 hIp ⟨by omega, trivial⟩) trivial) trivial) trivial) trivial)).trans rfl)) ?_
  refine ⟨sS16, ?_⟩
  refine dOp 8 (by kernel_rfl) ?_
  have ow41 := (Mur.MsgA.chg hIo (Chg.refl _) (fun _ _ _ _ => trivial))
  have ow42 := (Mur.MsgA.chg ow41 hch2 (fun q_ _ _ k_ => ⟨Mur.off_loop hlz2_ k_, trivial⟩))
  have ow43 := (Mur.MsgA.chg ow42 ch11 (fun _ _ _ _ => trivial))
  have ow44 := (Mur.MsgA.chg ow43 ch17 (fun _ _ _ _ => trivial))
  have ow45 := (Mur.MsgA.chg ow44 ch22 (fun _ _ _ _ => trivial))
  have ow46 := (Mur.MsgA.chg ow45 ch26 (fun _ _ _ _ => trivial))
  have ow47 := Mur.own8 (own_chg ow16.own ch22 (fun q e _ _ => trivial))
  have ow48 := Mur.own8 (own_chg ow47.own ch26 (fun q e _ _ => trivial))
  have ow49 := Mur.OwnA.chg ow29 ch26 (fun q e _ _ => trivial)
  have hsub4 := Mur.subs_own (kd := 2) (s := Mur.z32) (k := 0) (b := b) ow48 ow49 rfl
  have hlt4 := hIo.lt
  refine oEx (some 19) _ rfl rfl (by kernel_rfl) (Mur.appendM (.tmp 11) (.tmp 18) 67 66 rfl Tryd.underlying67 msgI W11.heap.size A n c (pre.map (Mur.chunkM p L b)) W23.heap.size ⟨2, AA4, nn5, nn6, Mur.z32, 0, AA7, (min 8 (n0 - 8 * x)), nn9, b, rfl⟩ (Mur.chunkM p L b x) (by kernel_rfl) (by kernel_rfl) ow46 hb14 (Mur.rawok_items ow48 ow49 b) (fun q_ hq_ => ⟨by have := hsub4 q_ hq_; omega, fun e_ => by have := hlt4 q_ e_; have := hsub4 q_ hq_; omega⟩) (by omega) (by omega)) ?_
  rintro _ W28 ⟨AA9, nn11, rfl, ow50, ch27⟩
  have zz28 := ch27.size
  have hq16 := ow50.nc
  have hq17 := ow50.cm
  have sS17 := Chg.step sS16 ch27 (Mur.newOr_iff.2 (fun t ht => .inl (List.mem_append_right _ ht)))
  refine ⟨sS17, ?_⟩
  refine dOp 9 (by kernel_rfl) ?_
  refine oExS none _ rfl rfl (by kernel_rfl) (store1 67 (.tmp 6) (.tmp 19) rfl (by kernel_rfl) W8.heap.size 0 (by kernel_rfl) (.slice AA9 (n + 1) nn11) (by kernel_rfl) rfl 67 #[.slice A n c] (Chg.hp ch27 (Chg.hp ch26 (Chg.hp ch22 (Chg.hp ch17 (Chg.hp ch11 (Chg.hp hch2 hIp ⟨by omega, trivial⟩) trivial) trivial) trivial) trivial) (off_blk (fun gz hgz => by have := hlt4 gz hgz; omega))) (by simp)) ?_
  rintro W29 ⟨hb15, ch28⟩
  replace hb15 : W29.heap[W8.heap.size]? = some (.cells #[.slice AA9 (n + 1) nn11] 67 (0, 0)) := hb15
  have zz29 := ch28.size
  have sS18 := Chg.step sS17 ch28 ⟨.inl (by simp), trivial⟩
  refine ⟨sS18, ?_⟩
  refine Wk.dEndI (by kernel_rfl) (inN ?_)
  have kk57 : Chg ([W8.heap.size] ++ Wk.blk (.slice A n c)) A2 W12 := Chg.step ((Chg.refl _).more (by simp)) ch11 trivial
  have kk58 := Chg.step kk57 ch17 trivial
  have kk59 := Chg.step kk58 ch22 trivial
  have kk60 := Chg.step kk59 ch26 trivial
  have kk61 := Chg.step kk60 ch27 (Mur.newOr_iff.2 (fun t ht => .inl (List.mem_append_right _ ht)))
  have kk62 := Chg.step kk61 ch28 ⟨.inl (by simp), trivial⟩
  have kk63 := Chg.step hIc hch2 ⟨.inr (by omega), trivial⟩
  have kk64 := Chg.step kk63 ch11 trivial
  have kk65 := Chg.step kk64 ch17 trivial
  have kk66 := Chg.step kk65 ch22 trivial
  have kk67 := Chg.step kk66 ch26 trivial
  have kk68 := Chg.step kk67 ch27 (newOr_blk (fun g hg => by have := hlt4 g hg; omega))
  have kk69 := Chg.step kk68 ch28 ⟨.inl (by simp), trivial⟩
  have ow51 := (Mur.MsgA.chg ow50 ch28 (fun q_ k1_ k2_ _ => ⟨by omega, trivial⟩))
  refine roundN _ kk62 (fun s_ hs_ hlt_ => ?_) (fun k_ hk_ => ⟨hFb_ k_ hk_, off_blk (fun q hq => by have := hIo.lt q hq; have := hFw k_ hk_; omega)⟩) ⟨_, _, _, hb15, (by rw [List.map_append]; exact ow51), kk69, (Chg.hp ch28 (Chg.hp ch27 (Chg.hp ch26 (Chg.hp ch22 (Chg.hp ch17 (Chg.hp ch11 (Chg.hp hch2 hE0 ⟨by omega, trivial⟩) trivial) trivial) trivial) trivial) (off_blk (fun gz hgz => by have := hlt4 gz hgz; omega))) ⟨by omega, trivial⟩), (Chg.hp ch28 (Chg.hp ch27 (Chg.hp ch26 (Chg.hp ch22 (Chg.hp ch17 (Chg.hp ch11 (Chg.hp hch2 hE1 ⟨by omega, trivial⟩) trivial) trivial) trivial) trivial) (off_blk (fun gz hgz => by have := hlt4 gz hgz; omega))) ⟨by omega, trivial⟩)⟩
  rcases List.mem_cons.1 hs_ with rfl | hs_
  ·exact ⟨_, (hch2.hp hIp ⟨hbz, trivial⟩), rfl⟩
  exact Mur.MsgA.cells (Mur.MsgA.chg (Mur.MsgA.chg hIo (Chg.refl _) (fun _ _ _ _ => trivial)) hch2 (fun q_ _ _ k_ => ⟨Mur.off_loop hlz2_ k_, trivial⟩)) (Mur.blk_mem hs_)
 intro D W9 hI hwD hKD
 obtain ⟨A, n, c, hIp, hIo, hIc, hE0, hE1⟩ := hI
 have hlhE0_ := (Array.getElem?_eq_some_iff.1 hE0).1
 have hlhE1_ := (Array.getElem?_eq_some_iff.1 hE1).1
 have hzI_ := hIc.size
 have hIlen := hIo.len
 have hInc := hIo.nc
 have hbl_ := (Array.getElem?_eq_some_iff.1 hIp).1
 have hbD := Mur.cells_ne hIp hKD rfl
 have hDl := (Array.getElem?_eq_some_iff.1 hKD).1
 have hbDhE0 := Mur.cells_ne hE0 hKD rfl
 have hbDhE1 := Mur.cells_ne hE1 hKD rfl
 have hW9 : Chg [] w W9 := Chg.step kk10 hIc ⟨.inr (by omega), trivial⟩
 refine inN (nxt (wp_seq (reg ?_)))
 refine rQ 0 20 _ rfl rfl (load1 67 (.tmp 6) rfl (by kernel_rfl) ⟨W8.heap.size, 0, none⟩ (by kernel_rfl) (.slice A n c) ((cell_of_row _ _ 0 _ _ _ hIp).trans rfl)) ?_
 refine rY 1 rfl rfl (store1 67 (.tmp 6) (.tmp 20) rfl (by kernel_rfl) W8.heap.size 0 (by kernel_rfl) (.slice A n c) (by kernel_rfl) rfl 67 #[.slice A n c] hIp (by simp)) ?_
 rintro W30 ⟨hb16, ch29⟩
 replace hb16 : W30.heap[W8.heap.size]? = some (.cells #[.slice A n c] 67 (0, 0)) := hb16
 have zz30 := ch29.size
 refine rEnd 2 rfl (nxt (wp_ret (npR ?_)))
 refine retM D rfl (Chg.hp ch29 hKD ⟨by omega, trivial⟩) ?_
 intro W31 ch30
 have zz31 := ch30.size
 have ow52 := (Mur.MsgA.chg hIo ch29 (fun q_ k1_ k2_ _ => ⟨by omega, trivial⟩))
 have ow53 := (Mur.MsgA.chg ow52 ch30 (fun q_ _ _ k_ => ⟨Mur.off_noncells (Chg.hp ch29 hKD ⟨by omega, trivial⟩) rfl k_, trivial⟩))
 have kk70 := Chg.step hW9 ch29 ⟨.inr (by omega), trivial⟩
 have kk71 := Chg.step kk70 ch30 ⟨.inr (by omega), trivial⟩
 refine ⟨.slice A n c, Mur.results_sl rfl _ _ W8.heap.size 67 (.slice A n c) (0, 0) (by kernel_rfl) (Chg.hp ch30 hb16 ⟨by omega, trivial⟩) (by kernel_rfl), ⟨_, _, _, rfl, ?_, kk71⟩⟩
 exact Mur.MsgA.low (by rw [← Mur.chunkM_all, hlL_]; exact ow53) (by omega)
end Go.Proofs.YtfhneademopciaaDoor
namespace Go.Proofs.YtfhneademopciaaDoor
open Go.RowKit Wk
open Mur (b8s Byt Own8 Seg Segs flat cutA attC Att SlA OwnA rowA)
set_option maxRecDepth 100000
set_option maxHeartbeats 4000000
def Radd_F1 (b : Array Value) (u0 : Value) (u3 : Value) (u6 : Value) (u7 : Value) (u8 : Value) : Act := ⟨#[u0, gd b 1, gd b 2, u3, gd b 4, gd b 5, u6, u7, u8, gd b 9, gd b 10, gd b 11, gd b 12, gd b 13, gd b 14, gd b 15, gd b 16, gd b 17, gd b 18, gd b 19, gd b 20, gd b 21, gd b 22, gd b 23, gd b 24, gd b 25, gd b 26, gd b 27, gd b 28, gd b 29, gd b 30, gd b 31, gd b 32, gd b 33, gd b 34, gd b 35, gd b 36, gd b 37, gd b 38, gd b 39, gd b 40, gd b 41, gd b 42, gd b 43, gd b 44, gd b 45, gd b 46, gd b 47, gd b 48, gd b 49, gd b 50, gd b 51, gd b 52, gd b 53, gd b 54, gd b 55, gd b 56, gd b 57, gd b 58, gd b 59, gd b 60, gd b 61, gd b 62, gd b 63, gd b 64], []⟩
theorem Radd_any (A : Option Addr) (n c : Nat) (L : List Att) (x : Att) (w : World) (hA_ : SlA w A n L) (hs : Mur.Sorted L) (hlen : L.length ≤ 200) (hnc : n ≤ c ∧ c ≤ 9223372036854775807) : Calls Tryd.prog 26 #[.slice A n c, .agg (attC x.k x.r x.n x.t).toArray] w fun e w' => ∃ A2 n2 c2, e = .returned (.tuple #[.slice A2 n2 c2, .int .i64 (Mur.addS x L).2]) ∧ SlA w' A2 n2 (Mur.addS x L).1 ∧ (A2 = A ∨ ∀ g off, A2 = some ⟨g, off, none⟩ → w.heap.size ≤ g ∧ g < w'.heap.size) ∧ (n2 ≤ c2 ∧ c2 ≤ 9223372036854775807) ∧ Chg [] w w' := by
 have hLl0 := hA_.len
 refine calls_of_wp Tryd.func26 rfl ?_
 refine wp_seq (reg ?_)
 refine rX 0 3 rfl rfl (new_ex (.pointer (some ⟨w.heap.size, 0, none⟩)) ((Mur.attC x.k x.r x.n x.t).toArray) 32 (by kernel_rfl)) ?_
 rintro _ W1 ⟨rfl, hb1, ch1, sz1⟩
 have zz1 := ch1.size
 refine rP 1 4 (.slice none 0 0) rfl rfl ?_
 refine rP 2 5 (.int .i64 0) rfl rfl ?_
 refine rEnd 3 rfl (nxt (wp_seq (wp_seq (reg ?_))))
 refine rQ 0 9 (.agg ((Mur.attC x.k x.r x.n x.t).toArray)) rfl rfl (Mur.loadArr 32 (.tmp 3) rfl _ Tryd.underlying32 rfl w.heap.size (by kernel_rfl) (Mur.attC x.k x.r x.n x.t).toArray 97 (Mur.attC_size x.hk x.hr x.ht) (by kernel_rfl) 32 (0, 0) hb1) ?_
 refine rC 1 10 50 [.tmp 9] #[32] [.agg ((Mur.attC x.k x.r x.n x.t).toArray)] rfl rfl rfl ?_
 by_cases hmay1 : Mur.may x.n
 ·have hmay1u : 1 ≤ x.n ∧ x.n ≤ 5000 := hmay1
  refine (Rmay_any x.k x.r x.t x.n x.hk x.hr x.ht W1).mono ?_
  rw [decide_eq_true (hmay1 : Mur.may x.n)]
  rintro _ W2 ⟨rfl, ch2⟩
  have zz2 := ch2.size
  refine ⟨_, rfl, ?_⟩
  refine rP 2 11 (.bool false) rfl rfl ?_
  refine rEnd 3 rfl (nxt (wp_cond_false (by kernel_rfl) (wp_skip (nxt (wp_seq (reg ?_))))))
  refine rP 0 6 (.slice none 0 0) rfl rfl ?_
  refine rEnd 1 rfl (nxt (wp_seq (reg ?_)))
  refine rP 0 7 (.bool false) rfl rfl ?_
  refine rEnd 1 rfl (nxt (wp_seq (wp_seq (reg ?_))))
  refine rP 0 8 (.int .i64 0) rfl rfl ?_
  refine rEnd 1 rfl (nxt (wp_block ?_))
  refine Wk.loop (fun m_ a wr => ∃ (i : Nat) (b : Bool) (A1 : Option Addr) (N : Nat) (c1 : Nat), m_ = n - i ∧ a = Radd_F1 a.tmps (.slice A n c) (.pointer (some ⟨w.heap.size, 0, none⟩)) (.slice A1 N c1) (.bool b) (.int .i64 ((i : Nat) : Int)) ∧ i ≤ n ∧ OwnA wr (w.heap.size + 1) 32 A1 N c1 ((Mur.ins x L).take (i + b.toNat)) ∧ (b = true → Mur.pos x L < i) ∧ (b = false → i ≤ Mur.pos x L) ∧ (∀ j, j < i → L[j]? ≠ some x) ∧ wr.heap[w.heap.size]? = some (.cells (Mur.attC x.k x.r x.n x.t).toArray 32 (0, 0)) ∧ Chg [] w wr) (n - 0) ?_ ?_
  ·have kk1 : Chg [] w W1 := Chg.step ((Chg.refl _).more (by simp)) ch1 trivial
   have kk2 := Chg.step kk1 ch2 trivial
   refine ⟨0, false, none, 0, 0, rfl, by kernel_rfl, (by omega), (by exact Mur.ownA_nil _ _ _), (fun e_ => by cases e_), (fun _ => Nat.zero_le _), (fun j hj => by omega), (Chg.hp ch2 hb1 trivial), kk2⟩
  rintro mm1 aa1 W3 ⟨i, b, A1, N, c1, hmm1, hF1, hi, hO, hb1, hb0, hnew, hX, HB⟩
  generalize aa1.tmps = bb1 at hF1
  subst hF1
  have hzB := HB.size
  have hxl_ := (Array.getElem?_eq_some_iff.1 hX).1
  have hLl := hA_.len
  have hOl := hO.sl.len
  have hOn := hO.nc
  have hil_ := Mur.ins_length x L
  rw [List.length_take] at hOl
  by_cases hlt : i < n
  ·obtain ⟨g_y, o_y, rfl, _⟩ := hA_.ex (by omega)
   obtain ⟨y, hy⟩ : ∃ x, L[i]? = some x := ⟨_, List.getElem?_eq_getElem (by have := hA_.len; omega)⟩
   cases b
   ·simp only [Bool.toNat_false, Nat.add_zero] at hO hOl
    refine wp_seq (wp_seq (reg ?_))
    refine rP 0 13 (.int .i64 ((i : Nat) : Int)) rfl rfl ?_
    refine rP 1 14 (.slice (some ⟨g_y, o_y, none⟩) n c) rfl rfl ?_
    refine rP 2 15 (.int .i64 ((n : Nat) : Int)) rfl rfl ?_
    refine rQ 3 16 _ rfl rfl (qboolT (b := decide (((i : Nat) : Int) < ((n : Nat) : Int))) (decide_eq_true (by omega))) ?_
    refine rEnd 4 rfl (nxt (wp_cond_true (by kernel_rfl) (wp_skip (nxt (wp_seq (wp_block (wp_seq (wp_seq ?_))))))))
    refine dReg ([]) (by kernel_rfl) ?_
    intro W4 ch3 sz2
    have zz3 := ch3.size
    have sS1 : Chg ([]) W4 W4 := (Chg.refl _).more (by simp)
    refine dV 0 19 (.slice (some ⟨g_y, o_y, none⟩) n c) rfl rfl (fun _ _ => by kernel_rfl) sS1 ?_
    refine dV 1 20 (.int .i64 ((i : Nat) : Int)) rfl rfl (fun _ _ => by kernel_rfl) sS1 ?_
    refine dV 2 21 (.pointer (some ⟨g_y, o_y + i * 97, none⟩)) rfl rfl (fun w' hw' => (index_sl 50 32 (.tmp 19) (.tmp 20) rfl Tryd.underlying50 97 (by kernel_rfl) g_y o_y n c i .i64 (by kernel_rfl) (by kernel_rfl) (by omega))) sS1 ?_
    have kk3 := Chg.step HB ch3 trivial
    refine dV 3 22 (.agg ((Mur.attC y.k y.r y.n y.t).toArray)) rfl rfl (fun w' hw' => (loadR 32 (.tmp 21) rfl _ Tryd.underlying32 rfl g_y (o_y + i * 97) (by kernel_rfl) (Mur.attC y.k y.r y.n y.t) (by rw [Mur.attC_length y.hk y.hr y.ht]; kernel_rfl) ((Mur.SlA.chg (Mur.SlA.chg hA_ kk3 (fun g off e hl => trivial)) hw' (fun g off e hl => trivial)).elem hy))) sS1 ?_
    refine dV 4 23 (.agg ((Mur.attC x.k x.r x.n x.t).toArray)) rfl rfl (fun w' hw' => (Mur.loadArr 32 (.tmp 3) rfl _ Tryd.underlying32 rfl w.heap.size (by kernel_rfl) (Mur.attC x.k x.r x.n x.t).toArray 97 (Mur.attC_size x.hk x.hr x.ht) (by kernel_rfl) 32 (0, 0) (Chg.hp hw' (Chg.hp ch3 hX trivial) trivial))) sS1 ?_
    by_cases hatt1 : y.k = x.k ∧ y.r = x.r ∧ y.n = x.n ∧ y.t = x.t
    ·refine dV 5 24 (.bool true) rfl rfl (fun w' hw' => (boolT (b := decide (y.k = x.k ∧ y.r = x.r ∧ y.n = x.n ∧ y.t = x.t)) (decide_eq_true (hatt1)) (run_eql_att (.tmp 22) (.tmp 23) 32 rfl y.hk y.hr y.ht x.hk x.hr x.ht y.hn x.hn (by kernel_rfl) (by kernel_rfl)))) sS1 ?_
     refine dEnd (by kernel_rfl) (nxt (wp_cond_true (by kernel_rfl) (wp_seq (reg ?_))))
     refine rP 0 25 (.slice (some ⟨g_y, o_y, none⟩) n c) rfl rfl ?_
     refine rP 1 4 (.slice (some ⟨g_y, o_y, none⟩) n c) rfl rfl ?_
     refine rP 2 5 (.int .i64 7) rfl rfl ?_
     refine rEnd 3 rfl (nxt (wp_ret (thR (inR (thR (thR (inR (thR ?_))))))))
     rw [Mur.addS_twice hmay1 (by have q_ := (Mur.Att.eq_iff y x).2 hatt1; rw [← q_]; exact List.mem_of_getElem? hy)]
     refine Wk.ret (.tuple #[.slice (some ⟨g_y, o_y, none⟩) n c, .int .i64 7]) rfl (by kernel_rfl) ?_
     exact ⟨_, _, _, rfl, (Mur.SlA.chg hA_ kk3 (fun g off e hl => trivial)), .inl rfl, by omega, kk3⟩
    refine dV 5 24 (.bool false) rfl rfl (fun w' hw' => (boolF (b := decide (y.k = x.k ∧ y.r = x.r ∧ y.n = x.n ∧ y.t = x.t)) (decide_eq_false (hatt1)) (run_eql_att (.tmp 22) (.tmp 23) 32 rfl y.hk y.hr y.ht x.hk x.hr x.ht y.hn x.hn (by kernel_rfl) (by kernel_rfl)))) sS1 ?_
    refine dEnd (by kernel_rfl) (nxt (wp_cond_false (by kernel_rfl) (wp_skip (nxt (wp_seq (wp_seq ?_))))))
    refine dReg ([]) (by kernel_rfl) ?_
    intro W5 ch4 sz3
    have zz4 := ch4.size
    have sS2 : Chg ([]) W5 W5 := (Chg.refl _).more (by simp)
    refine dV 0 26 (.bool false) rfl rfl (fun _ _ => by kernel_rfl) sS2 ?_
    refine dV 1 27 (.bool true) rfl rfl (fun _ _ => by kernel_rfl) sS2 ?_
    refine dV 2 28 (.bool true) rfl rfl (fun _ _ => by kernel_rfl) sS2 ?_
    refine dV 3 29 (.agg ((Mur.attC x.k x.r x.n x.t).toArray)) rfl rfl (fun w' hw' => (Mur.loadArr 32 (.tmp 3) rfl _ Tryd.underlying32 rfl w.heap.size (by kernel_rfl) (Mur.attC x.k x.r x.n x.t).toArray 97 (Mur.attC_size x.hk x.hr x.ht) (by kernel_rfl) 32 (0, 0) (Chg.hp hw' (Chg.hp ch4 (Chg.hp ch3 hX trivial) trivial) trivial))) sS2 ?_
    refine dV 4 30 (.slice (some ⟨g_y, o_y, none⟩) n c) rfl rfl (fun _ _ => by kernel_rfl) sS2 ?_
    refine dV 5 31 (.int .i64 ((i : Nat) : Int)) rfl rfl (fun _ _ => by kernel_rfl) sS2 ?_
    refine dV 6 32 (.pointer (some ⟨g_y, o_y + i * 97, none⟩)) rfl rfl (fun w' hw' => (index_sl 50 32 (.tmp 30) (.tmp 31) rfl Tryd.underlying50 97 (by kernel_rfl) g_y o_y n c i .i64 (by kernel_rfl) (by kernel_rfl) (by omega))) sS2 ?_
    have kk4 := Chg.step kk3 ch4 trivial
    refine dV 7 33 (.agg ((Mur.attC y.k y.r y.n y.t).toArray)) rfl rfl (fun w' hw' => (loadR 32 (.tmp 32) rfl _ Tryd.underlying32 rfl g_y (o_y + i * 97) (by kernel_rfl) (Mur.attC y.k y.r y.n y.t) (by rw [Mur.attC_length y.hk y.hr y.ht]; kernel_rfl) ((Mur.SlA.chg (Mur.SlA.chg hA_ kk4 (fun g off e hl => trivial)) hw' (fun g off e hl => trivial)).elem hy))) sS2 ?_
    refine dOp 8 (by kernel_rfl) ?_
    refine oCall (some 34) 25 [.tmp 29, .tmp 33] #[32, 32] [.agg ((Mur.attC x.k x.r x.n x.t).toArray), .agg ((Mur.attC y.k y.r y.n y.t).toArray)] rfl rfl (by kernel_rfl) rfl (by kernel_rfl) (by kernel_rfl) ?_
    refine (Less20_any x y W5).mono ?_
    by_cases hls1 : x.lt y
    ·rw [decide_eq_true (hls1 : x.lt y)]
     rintro _ W6 ⟨rfl, ch5⟩
     have zz5 := ch5.size
     have sS3 := Chg.step sS2 ch5 trivial
     refine ⟨_, rfl, sS3, ?_⟩
     refine dV 9 35 (.bool true) rfl rfl (fun _ _ => by kernel_rfl) sS3 ?_
     refine dEnd (by kernel_rfl) (nxt (wp_cond_true (by kernel_rfl) (wp_seq (reg ?_))))
     refine rP 0 36 (.slice A1 N c1) rfl rfl ?_
     refine rQ 1 37 (.agg ((Mur.attC x.k x.r x.n x.t).toArray)) rfl rfl (Mur.loadArr 32 (.tmp 3) rfl _ Tryd.underlying32 rfl w.heap.size (by kernel_rfl) (Mur.attC x.k x.r x.n x.t).toArray 97 (Mur.attC_size x.hk x.hr x.ht) (by kernel_rfl) 32 (0, 0) (Chg.hp ch5 (Chg.hp ch4 (Chg.hp ch3 hX trivial) trivial) trivial)) ?_
     refine rX 2 38 rfl rfl (Mur.build1 50 32 (.tmp 37) rfl Tryd.underlying50 attI x.k x.r x.t x.n x.hk x.hr x.ht (by kernel_rfl)) ?_
     rintro _ W7 ⟨rfl, hb2, ch6, sz4⟩
     have zz6 := ch6.size
     have ow1 := Mur.OwnA.chg hO ch3 (fun q e _ _ => trivial)
     have ow2 := Mur.OwnA.chg ow1 ch4 (fun q e _ _ => trivial)
     have ow3 := Mur.OwnA.chg ow2 ch5 (fun q e _ _ => trivial)
     have ow4 := Mur.OwnA.chg ow3 ch6 (fun q e _ _ => trivial)
     refine rX 3 39 rfl rfl (Mur.appendA (.tmp 36) (.tmp 38) 50 32 rfl Tryd.underlying50 attI (w.heap.size + 1) A1 N c1 ((Mur.ins x L).take i) (some ⟨W6.heap.size, 0, none⟩) 1 1 ([x]) (by kernel_rfl) (by kernel_rfl) ow4 (Mur.slA_box x hb2) (fun h => by cases h) (by omega) (by omega) (N + 1) (by omega) (((Mur.ins x L).take i) ++ ([x])) rfl) ?_
     rintro _ W8 ⟨AA1, nn1, rfl, ow5, ch7, ha1⟩
     have zz7 := ch7.size
     have hq1 := ow5.nc
     have hq2 := ow5.cm
     refine rP 4 6 (.slice AA1 (N + 1) nn1) rfl rfl ?_
     refine rEnd 5 rfl (nxt (reg ?_))
     refine rP 0 7 (.bool true) rfl rfl ?_
     refine rEnd 1 rfl (nxt (reg ?_))
     refine rP 0 40 (.slice AA1 (N + 1) nn1) rfl rfl ?_
     refine rP 1 41 (.slice (some ⟨g_y, o_y, none⟩) n c) rfl rfl ?_
     refine rP 2 42 (.int .i64 ((i : Nat) : Int)) rfl rfl ?_
     refine rQ 3 43 (.pointer (some ⟨g_y, o_y + i * 97, none⟩)) rfl rfl (index_sl 50 32 (.tmp 41) (.tmp 42) rfl Tryd.underlying50 97 (by kernel_rfl) g_y o_y n c i .i64 (by kernel_rfl) (by kernel_rfl) (by omega)) ?_
     have kk5 := Chg.step kk4 ch5 trivial
     have kk6 := Chg.step kk5 ch6 trivial
     have kk7 := Chg.step kk6 ch7 (newOr_blk (fun g hg => by have := hO.lt g hg; omega))
     refine rQ 4 44 (.agg ((Mur.attC y.k y.r y.n y.t).toArray)) rfl rfl (loadR 32 (.tmp 43) rfl _ Tryd.underlying32 rfl g_y (o_y + i * 97) (by kernel_rfl) (Mur.attC y.k y.r y.n y.t) (by rw [Mur.attC_length y.hk y.hr y.ht]; kernel_rfl) ((Mur.SlA.chg hA_ kk7 (fun g off e hl => trivial)).elem hy)) ?_
     refine rX 5 45 rfl rfl (Mur.build1 50 32 (.tmp 44) rfl Tryd.underlying50 attI y.k y.r y.t y.n y.hk y.hr y.ht (by kernel_rfl)) ?_
     rintro _ W10 ⟨rfl, hb3, ch8, sz5⟩
     have zz8 := ch8.size
     have ow6 := Mur.OwnA.chg ow5 ch8 (fun q e _ _ => trivial)
     refine rX 6 46 rfl rfl (Mur.appendA (.tmp 40) (.tmp 45) 50 32 rfl Tryd.underlying50 attI (w.heap.size + 1) AA1 (N + 1) nn1 (((Mur.ins x L).take i) ++ ([x])) (some ⟨W8.heap.size, 0, none⟩) 1 1 ([y]) (by kernel_rfl) (by kernel_rfl) ow6 (Mur.slA_box y hb3) (fun h => by cases h) (by omega) (by omega) (N + 1 + 1) (by omega) ((((Mur.ins x L).take i) ++ ([x])) ++ ([y])) rfl) ?_
     rintro _ W11 ⟨AA2, nn2, rfl, ow7, ch9, ha2⟩
     have zz9 := ch9.size
     have hq3 := ow7.nc
     have hq4 := ow7.cm
     refine rP 7 6 (.slice AA2 (N + 1 + 1) nn2) rfl rfl ?_
     refine rEnd 8 rfl (inN (nxt (reg ?_)))
     refine rP 0 17 (.int .i64 ((i : Nat) : Int)) rfl rfl ?_
     refine rQ 1 18 _ rfl rfl (qint64 (n := ((i : Nat) : Int) + 1) (z := ((i + 1 : Nat) : Int)) (by omega) (by omega) (by omega)) ?_
     refine rP 2 8 (.int .i64 ((i + 1 : Nat) : Int)) rfl rfl ?_
     refine rEnd 3 rfl (nxt ?_)
     have kk8 := Chg.step kk7 ch8 trivial
     have kk9 := Chg.step kk8 ch9 (newOr_blk (fun g hg => by have := ow5.lt g hg; omega))
     refine ⟨_, ?_, i + 1, true, AA2, N + 1 + 1, nn2, rfl, by kernel_rfl, (by omega), (by rw [show i + 1 + true.toNat = i + 2 from rfl, (Mur.radd_at hs hy (hb0 rfl) hls1).2]; exact ow7), (fun _ => by have := (Mur.radd_at hs hy (hb0 rfl) hls1).1; omega), (fun e_ => by cases e_), (fun j hj => by rcases Nat.lt_or_ge j i with h1_ | h1_ <;> first | exact hnew j h1_ | (obtain rfl : j = i := (by omega); rw [hy]; exact fun q_ => (fun q_ => hatt1 ((Mur.Att.eq_iff y x).1 q_)) (Option.some.inj q_))), (Chg.hp ch9 (Chg.hp ch8 (Chg.hp ch7 (Chg.hp ch6 (Chg.hp ch5 (Chg.hp ch4 (Chg.hp ch3 hX trivial) trivial) trivial) trivial) (off_blk (fun gz hgz => by have := hO.lt gz hgz; omega))) trivial) (off_blk (fun gz hgz => by have := ow5.lt gz hgz; omega))), kk9⟩
     omega
    rw [decide_eq_false (hls1 : ¬ x.lt y)]
    rintro _ W6 ⟨rfl, ch5⟩
    have zz10 := ch5.size
    have sS4 := Chg.step sS2 ch5 trivial
    refine ⟨_, rfl, sS4, ?_⟩
    refine dV 9 35 (.bool false) rfl rfl (fun _ _ => by kernel_rfl) sS4 ?_
    refine dEnd (by kernel_rfl) (nxt (wp_cond_false (by kernel_rfl) (wp_skip (nxt (reg ?_)))))
    refine rP 0 40 (.slice A1 N c1) rfl rfl ?_
    refine rP 1 41 (.slice (some ⟨g_y, o_y, none⟩) n c) rfl rfl ?_
    refine rP 2 42 (.int .i64 ((i : Nat) : Int)) rfl rfl ?_
    refine rQ 3 43 (.pointer (some ⟨g_y, o_y + i * 97, none⟩)) rfl rfl (index_sl 50 32 (.tmp 41) (.tmp 42) rfl Tryd.underlying50 97 (by kernel_rfl) g_y o_y n c i .i64 (by kernel_rfl) (by kernel_rfl) (by omega)) ?_
    have kk10 := Chg.step kk4 ch5 trivial
    refine rQ 4 44 (.agg ((Mur.attC y.k y.r y.n y.t).toArray)) rfl rfl (loadR 32 (.tmp 43) rfl _ Tryd.underlying32 rfl g_y (o_y + i * 97) (by kernel_rfl) (Mur.attC y.k y.r y.n y.t) (by rw [Mur.attC_length y.hk y.hr y.ht]; kernel_rfl) ((Mur.SlA.chg hA_ kk10 (fun g off e hl => trivial)).elem hy)) ?_
    refine rX 5 45 rfl rfl (Mur.build1 50 32 (.tmp 44) rfl Tryd.underlying50 attI y.k y.r y.t y.n y.hk y.hr y.ht (by kernel_rfl)) ?_
    rintro _ W12 ⟨rfl, hb4, ch10, sz6⟩
    have zz11 := ch10.size
    have ow8 := Mur.OwnA.chg hO ch3 (fun q e _ _ => trivial)
    have ow9 := Mur.OwnA.chg ow8 ch4 (fun q e _ _ => trivial)
    have ow10 := Mur.OwnA.chg ow9 ch5 (fun q e _ _ => trivial)
    have ow11 := Mur.OwnA.chg ow10 ch10 (fun q e _ _ => trivial)
    refine rX 6 46 rfl rfl (Mur.appendA (.tmp 40) (.tmp 45) 50 32 rfl Tryd.underlying50 attI (w.heap.size + 1) A1 N c1 ((Mur.ins x L).take i) (some ⟨W6.heap.size, 0, none⟩) 1 1 ([y]) (by kernel_rfl) (by kernel_rfl) ow11 (Mur.slA_box y hb4) (fun h => by cases h) (by omega) (by omega) (N + 1) (by omega) (((Mur.ins x L).take i) ++ ([y])) rfl) ?_
    rintro _ W13 ⟨AA3, nn3, rfl, ow12, ch11, ha3⟩
    have zz12 := ch11.size
    have hq5 := ow12.nc
    have hq6 := ow12.cm
    refine rP 7 6 (.slice AA3 (N + 1) nn3) rfl rfl ?_
    refine rEnd 8 rfl (inN (nxt (reg ?_)))
    refine rP 0 17 (.int .i64 ((i : Nat) : Int)) rfl rfl ?_
    refine rQ 1 18 _ rfl rfl (qint64 (n := ((i : Nat) : Int) + 1) (z := ((i + 1 : Nat) : Int)) (by omega) (by omega) (by omega)) ?_
    refine rP 2 8 (.int .i64 ((i + 1 : Nat) : Int)) rfl rfl ?_
    refine rEnd 3 rfl (nxt ?_)
    have kk11 := Chg.step kk10 ch10 trivial
    have kk12 := Chg.step kk11 ch11 (newOr_blk (fun g hg => by have := hO.lt g hg; omega))
    refine ⟨_, ?_, i + 1, false, AA3, N + 1, nn3, rfl, by kernel_rfl, (by omega), (by rw [show i + 1 + false.toNat = i + 1 from rfl, (Mur.radd_lt hs hy (fun q_ => hatt1 ((Mur.Att.eq_iff y x).1 q_)) hls1).2]; exact ow12), (fun e_ => by cases e_), (fun _ => by have := (Mur.radd_lt hs hy (fun q_ => hatt1 ((Mur.Att.eq_iff y x).1 q_)) hls1).1; omega), (fun j hj => by rcases Nat.lt_or_ge j i with h1_ | h1_ <;> first | exact hnew j h1_ | (obtain rfl : j = i := (by omega); rw [hy]; exact fun q_ => (fun q_ => hatt1 ((Mur.Att.eq_iff y x).1 q_)) (Option.some.inj q_))), (Chg.hp ch11 (Chg.hp ch10 (Chg.hp ch5 (Chg.hp ch4 (Chg.hp ch3 hX trivial) trivial) trivial) trivial) (off_blk (fun gz hgz => by have := hO.lt gz hgz; omega))), kk12⟩
    omega
   simp only [Bool.toNat_true] at hO hOl
   refine wp_seq (wp_seq (reg ?_))
   refine rP 0 13 (.int .i64 ((i : Nat) : Int)) rfl rfl ?_
   refine rP 1 14 (.slice (some ⟨g_y, o_y, none⟩) n c) rfl rfl ?_
   refine rP 2 15 (.int .i64 ((n : Nat) : Int)) rfl rfl ?_
   refine rQ 3 16 _ rfl rfl (qboolT (b := decide (((i : Nat) : Int) < ((n : Nat) : Int))) (decide_eq_true (by omega))) ?_
   refine rEnd 4 rfl (nxt (wp_cond_true (by kernel_rfl) (wp_skip (nxt (wp_seq (wp_block (wp_seq (wp_seq ?_))))))))
   refine dReg ([]) (by kernel_rfl) ?_
   intro W14 ch12 sz7
   have zz13 := ch12.size
   have sS5 : Chg ([]) W14 W14 := (Chg.refl _).more (by simp)
   refine dV 0 19 (.slice (some ⟨g_y, o_y, none⟩) n c) rfl rfl (fun _ _ => by kernel_rfl) sS5 ?_
   refine dV 1 20 (.int .i64 ((i : Nat) : Int)) rfl rfl (fun _ _ => by kernel_rfl) sS5 ?_
   refine dV 2 21 (.pointer (some ⟨g_y, o_y + i * 97, none⟩)) rfl rfl (fun w' hw' => (index_sl 50 32 (.tmp 19) (.tmp 20) rfl Tryd.underlying50 97 (by kernel_rfl) g_y o_y n c i .i64 (by kernel_rfl) (by kernel_rfl) (by omega))) sS5 ?_
   have kk13 := Chg.step HB ch12 trivial
   refine dV 3 22 (.agg ((Mur.attC y.k y.r y.n y.t).toArray)) rfl rfl (fun w' hw' => (loadR 32 (.tmp 21) rfl _ Tryd.underlying32 rfl g_y (o_y + i * 97) (by kernel_rfl) (Mur.attC y.k y.r y.n y.t) (by rw [Mur.attC_length y.hk y.hr y.ht]; kernel_rfl) ((Mur.SlA.chg (Mur.SlA.chg hA_ kk13 (fun g off e hl => trivial)) hw' (fun g off e hl => trivial)).elem hy))) sS5 ?_
   refine dV 4 23 (.agg ((Mur.attC x.k x.r x.n x.t).toArray)) rfl rfl (fun w' hw' => (Mur.loadArr 32 (.tmp 3) rfl _ Tryd.underlying32 rfl w.heap.size (by kernel_rfl) (Mur.attC x.k x.r x.n x.t).toArray 97 (Mur.attC_size x.hk x.hr x.ht) (by kernel_rfl) 32 (0, 0) (Chg.hp hw' (Chg.hp ch12 hX trivial) trivial))) sS5 ?_
   by_cases hatt2 : y.k = x.k ∧ y.r = x.r ∧ y.n = x.n ∧ y.t = x.t
   ·refine dV 5 24 (.bool true) rfl rfl (fun w' hw' => (boolT (b := decide (y.k = x.k ∧ y.r = x.r ∧ y.n = x.n ∧ y.t = x.t)) (decide_eq_true (hatt2)) (run_eql_att (.tmp 22) (.tmp 23) 32 rfl y.hk y.hr y.ht x.hk x.hr x.ht y.hn x.hn (by kernel_rfl) (by kernel_rfl)))) sS5 ?_
    refine dEnd (by kernel_rfl) (nxt (wp_cond_true (by kernel_rfl) (wp_seq (reg ?_))))
    refine rP 0 25 (.slice (some ⟨g_y, o_y, none⟩) n c) rfl rfl ?_
    refine rP 1 4 (.slice (some ⟨g_y, o_y, none⟩) n c) rfl rfl ?_
    refine rP 2 5 (.int .i64 7) rfl rfl ?_
    refine rEnd 3 rfl (nxt (wp_ret (thR (inR (thR (thR (inR (thR ?_))))))))
    rw [Mur.addS_twice hmay1 (by have q_ := (Mur.Att.eq_iff y x).2 hatt2; rw [← q_]; exact List.mem_of_getElem? hy)]
    refine Wk.ret (.tuple #[.slice (some ⟨g_y, o_y, none⟩) n c, .int .i64 7]) rfl (by kernel_rfl) ?_
    exact ⟨_, _, _, rfl, (Mur.SlA.chg hA_ kk13 (fun g off e hl => trivial)), .inl rfl, by omega, kk13⟩
   refine dV 5 24 (.bool false) rfl rfl (fun w' hw' => (boolF (b := decide (y.k = x.k ∧ y.r = x.r ∧ y.n = x.n ∧ y.t = x.t)) (decide_eq_false (hatt2)) (run_eql_att (.tmp 22) (.tmp 23) 32 rfl y.hk y.hr y.ht x.hk x.hr x.ht y.hn x.hn (by kernel_rfl) (by kernel_rfl)))) sS5 ?_
   refine dEnd (by kernel_rfl) (nxt (wp_cond_false (by kernel_rfl) (wp_skip (nxt (wp_seq (wp_seq ?_))))))
   refine dReg ([]) (by kernel_rfl) ?_
   intro W15 ch13 sz8
   have zz14 := ch13.size
   have sS6 : Chg ([]) W15 W15 := (Chg.refl _).more (by simp)
   refine dV 0 26 (.bool true) rfl rfl (fun _ _ => by kernel_rfl) sS6 ?_
   refine dV 1 27 (.bool false) rfl rfl (fun _ _ => by kernel_rfl) sS6 ?_
   refine dV 2 28 (.bool false) rfl rfl (fun _ _ => by kernel_rfl) sS6 ?_
   refine Wk.dPass 3 (some 29) rfl rfl (by kernel_rfl) (by kernel_rfl) (by kernel_rfl) (fun _ _ _ h => h) (by kernel_rfl) sS6 ?_
   refine Wk.dPass 4 (some 30) rfl rfl (by kernel_rfl) (by kernel_rfl) (by kernel_rfl) (fun _ _ _ h => h) (by kernel_rfl) sS6 ?_
   refine Wk.dPass 5 (some 31) rfl rfl (by kernel_rfl) (by kernel_rfl) (by kernel_rfl) (fun _ _ _ h => h) (by kernel_rfl) sS6 ?_
   refine Wk.dPass 6 (some 32) rfl rfl (by kernel_rfl) (by kernel_rfl) (by kernel_rfl) (fun _ _ _ h => h) (by kernel_rfl) sS6 ?_
   refine Wk.dPass 7 (some 33) rfl rfl (by kernel_rfl) (by kernel_rfl) (by kernel_rfl) (fun _ _ _ h => h) (by kernel_rfl) sS6 ?_
   refine Wk.dPass 8 (some 34) rfl rfl (by kernel_rfl) (by kernel_rfl) (by kernel_rfl) (fun _ _ _ h => h) (by kernel_rfl) sS6 ?_
   refine dV 9 35 (.bool false) rfl rfl (fun _ _ => by kernel_rfl) sS6 ?_
   refine dEnd (by kernel_rfl) (nxt (wp_cond_false (by kernel_rfl) (wp_skip (nxt (reg ?_)))))
   refine rP 0 40 (.slice A1 N c1) rfl rfl ?_
   refine rP 1 41 (.slice (some ⟨g_y, o_y, none⟩) n c) rfl rfl ?_
   refine rP 2 42 (.int .i64 ((i : Nat) : Int)) rfl rfl ?_
   refine rQ 3 43 (.pointer (some ⟨g_y, o_y + i * 97, none⟩)) rfl rfl (index_sl 50 32 (.tmp 41) (.tmp 42) rfl Tryd.underlying50 97 (by kernel_rfl) g_y o_y n c i .i64 (by kernel_rfl) (by kernel_rfl) (by omega)) ?_
   have kk14 := Chg.step kk13 ch13 trivial
   refine rQ 4 44 (.agg ((Mur.attC y.k y.r y.n y.t).toArray)) rfl rfl (loadR 32 (.tmp 43) rfl _ Tryd.underlying32 rfl g_y (o_y + i * 97) (by kernel_rfl) (Mur.attC y.k y.r y.n y.t) (by rw [Mur.attC_length y.hk y.hr y.ht]; kernel_rfl) ((Mur.SlA.chg hA_ kk14 (fun g off e hl => trivial)).elem hy)) ?_
   refine rX 5 45 rfl rfl (Mur.build1 50 32 (.tmp 44) rfl Tryd.underlying50 attI y.k y.r y.t y.n y.hk y.hr y.ht (by kernel_rfl)) ?_
   rintro _ W16 ⟨rfl, hb5, ch14, sz9⟩
   have zz15 := ch14.size
   have ow13 := Mur.OwnA.chg hO ch12 (fun q e _ _ => trivial)
   have ow14 := Mur.OwnA.chg ow13 ch13 (fun q e _ _ => trivial)
   have ow15 := Mur.OwnA.chg ow14 ch14 (fun q e _ _ => trivial)
   refine rX 6 46 rfl rfl (Mur.appendA (.tmp 40) (.tmp 45) 50 32 rfl Tryd.underlying50 attI (w.heap.size + 1) A1 N c1 ((Mur.ins x L).take (i + 1)) (some ⟨W15.heap.size, 0, none⟩) 1 1 ([y]) (by kernel_rfl) (by kernel_rfl) ow15 (Mur.slA_box y hb5) (fun h => by cases h) (by omega) (by omega) (N + 1) (by omega) (((Mur.ins x L).take (i + 1)) ++ ([y])) rfl) ?_
   rintro _ W17 ⟨AA4, nn4, rfl, ow16, ch15, ha4⟩
   have zz16 := ch15.size
   have hq7 := ow16.nc
   have hq8 := ow16.cm
   refine rP 7 6 (.slice AA4 (N + 1) nn4) rfl rfl ?_
   refine rEnd 8 rfl (inN (nxt (reg ?_)))
   refine rP 0 17 (.int .i64 ((i : Nat) : Int)) rfl rfl ?_
   refine rQ 1 18 _ rfl rfl (qint64 (n := ((i : Nat) : Int) + 1) (z := ((i + 1 : Nat) : Int)) (by omega) (by omega) (by omega)) ?_
   refine rP 2 8 (.int .i64 ((i + 1 : Nat) : Int)) rfl rfl ?_
   refine rEnd 3 rfl (nxt ?_)
   have kk15 := Chg.step kk14 ch14 trivial
   have kk16 := Chg.step kk15 ch15 (newOr_blk (fun g hg => by have := hO.lt g hg; omega))
   refine ⟨_, ?_, i + 1, true, AA4, N + 1, nn4, rfl, by kernel_rfl, (by omega), (by rw [show i + 1 + true.toNat = i + 2 from rfl, Mur.radd_gt hy (hb1 rfl)]; exact ow16), (fun _ => by have := hb1 rfl; omega), (fun e_ => by cases e_), (fun j hj => by rcases Nat.lt_or_ge j i with h1_ | h1_ <;> first | exact hnew j h1_ | (obtain rfl : j = i := (by omega); rw [hy]; exact fun q_ => (fun q_ => hatt2 ((Mur.Att.eq_iff y x).1 q_)) (Option.some.inj q_))), (Chg.hp ch15 (Chg.hp ch14 (Chg.hp ch13 (Chg.hp ch12 hX trivial) trivial) trivial) (off_blk (fun gz hgz => by have := hO.lt gz hgz; omega))), kk16⟩
   omega
  have hnotin := Mur.radd_new hLl (fun j hj => hnew j (by omega))
  cases b
  ·simp only [Bool.toNat_false, Nat.add_zero] at hO hOl
   obtain ⟨hpn, hall_⟩ := Mur.radd_end (x := x) hLl (show n ≤ Mur.pos x L from by have := hb0 rfl; omega)
   refine wp_seq (wp_seq (reg ?_))
   refine rP 0 13 (.int .i64 ((i : Nat) : Int)) rfl rfl ?_
   refine rP 1 14 (.slice A n c) rfl rfl ?_
   refine rP 2 15 (.int .i64 ((n : Nat) : Int)) rfl rfl ?_
   refine rQ 3 16 _ rfl rfl (qboolF (b := decide (((i : Nat) : Int) < ((n : Nat) : Int))) (decide_eq_false (by omega))) ?_
   refine rEnd 4 rfl (nxt (wp_cond_false (by kernel_rfl) (wp_exit (thX (thX (inX (nxt (wp_seq (wp_seq (reg ?_))))))))))
   refine rP 0 47 (.bool false) rfl rfl ?_
   refine rP 1 48 (.bool true) rfl rfl ?_
   refine rEnd 2 rfl (nxt (wp_cond_true (by kernel_rfl) (reg ?_)))
   refine rP 0 49 (.slice A1 N c1) rfl rfl ?_
   refine rQ 1 50 (.agg ((Mur.attC x.k x.r x.n x.t).toArray)) rfl rfl (Mur.loadArr 32 (.tmp 3) rfl _ Tryd.underlying32 rfl w.heap.size (by kernel_rfl) (Mur.attC x.k x.r x.n x.t).toArray 97 (Mur.attC_size x.hk x.hr x.ht) (by kernel_rfl) 32 (0, 0) hX) ?_
   refine rX 2 51 rfl rfl (Mur.build1 50 32 (.tmp 50) rfl Tryd.underlying50 attI x.k x.r x.t x.n x.hk x.hr x.ht (by kernel_rfl)) ?_
   rintro _ W18 ⟨rfl, hb6, ch16, sz10⟩
   have zz17 := ch16.size
   have ow17 := Mur.OwnA.chg hO ch16 (fun q e _ _ => trivial)
   refine rX 3 52 rfl rfl (Mur.appendA (.tmp 49) (.tmp 51) 50 32 rfl Tryd.underlying50 attI (w.heap.size + 1) A1 N c1 ((Mur.ins x L).take i) (some ⟨W3.heap.size, 0, none⟩) 1 1 ([x]) (by kernel_rfl) (by kernel_rfl) ow17 (Mur.slA_box x hb6) (fun h => by cases h) (by omega) (by omega) (N + 1) (by omega) (((Mur.ins x L).take i) ++ ([x])) rfl) ?_
   rintro _ W19 ⟨AA5, nn5, rfl, ow18, ch17, ha5⟩
   have zz18 := ch17.size
   have hq9 := ow18.nc
   have hq10 := ow18.cm
   rw [show i = n by omega, hall_] at ow18
   have hN1 := ow18.sl.len
   rw [hil_] at hN1
   refine rP 4 6 (.slice AA5 (N + 1) nn5) rfl rfl ?_
   refine rEnd 5 rfl (nxt (wp_seq (wp_seq (reg ?_))))
   refine rP 0 53 (.slice AA5 (N + 1) nn5) rfl rfl ?_
   refine rP 1 54 (.int .i64 ((N + 1 : Nat) : Int)) rfl rfl ?_
   by_cases hx1 : ((N + 1 : Nat) : Int) > (200 : Int)
   ·refine rQ 2 55 _ rfl rfl (qboolT (b := decide (((N + 1 : Nat) : Int) > (200 : Int))) (decide_eq_true (by first | exact hx1 | omega))) ?_
    refine rEnd 3 rfl (nxt (wp_cond_true (by kernel_rfl) (wp_seq (wp_seq ?_))))
    refine dReg ([]) (by kernel_rfl) ?_
    intro W20 ch18 sz11
    have zz19 := ch18.size
    have sS7 : Chg ([]) W20 W20 := (Chg.refl _).more (by simp)
    have ow19 := Mur.OwnA.chg ow18 ch18 (fun q e _ _ => trivial)
    obtain ⟨g_z, rfl, _, _⟩ := ow19.ex (by omega)
    obtain ⟨z, hz⟩ : ∃ z, (Mur.ins x L)[200]? = some z := ⟨_, List.getElem?_eq_getElem (by omega)⟩
    refine dV 0 56 (.slice (some ⟨g_z, 0, none⟩) (N + 1) nn5) rfl rfl (fun _ _ => by kernel_rfl) sS7 ?_
    refine dV 1 57 (.pointer (some ⟨g_z, 19400, none⟩)) rfl rfl (fun w' hw' => (index_sl 50 32 (.tmp 56) (.const (.int .i64 200)) rfl Tryd.underlying50 97 (by kernel_rfl) g_z 0 (N + 1) nn5 200 .i64 (by kernel_rfl) (by kernel_rfl) (by omega))) sS7 ?_
    refine dV 2 58 (.agg ((Mur.attC z.k z.r z.n z.t).toArray)) rfl rfl (fun w' hw' => (loadR 32 (.tmp 57) rfl _ Tryd.underlying32 rfl g_z 19400 (by kernel_rfl) (Mur.attC z.k z.r z.n z.t) (by rw [Mur.attC_length z.hk z.hr z.ht]; kernel_rfl) ((Mur.SlA.chg ow19.sl hw' (fun g off e hl => trivial)).elem hz))) sS7 ?_
    refine dV 3 59 (.agg ((Mur.attC x.k x.r x.n x.t).toArray)) rfl rfl (fun w' hw' => (Mur.loadArr 32 (.tmp 3) rfl _ Tryd.underlying32 rfl w.heap.size (by kernel_rfl) (Mur.attC x.k x.r x.n x.t).toArray 97 (Mur.attC_size x.hk x.hr x.ht) (by kernel_rfl) 32 (0, 0) (Chg.hp hw' (Chg.hp ch18 (Chg.hp ch17 (Chg.hp ch16 hX trivial) (off_blk (fun gz hgz => by have := hO.lt gz hgz; omega))) trivial) trivial))) sS7 ?_
    by_cases hatt3 : z.k = x.k ∧ z.r = x.r ∧ z.n = x.n ∧ z.t = x.t
    ·refine dV 4 60 (.bool true) rfl rfl (fun w' hw' => (boolT (b := decide (z.k = x.k ∧ z.r = x.r ∧ z.n = x.n ∧ z.t = x.t)) (decide_eq_true (hatt3)) (run_eql_att (.tmp 58) (.tmp 59) 32 rfl z.hk z.hr z.ht x.hk x.hr x.ht z.hn x.hn (by kernel_rfl) (by kernel_rfl)))) sS7 ?_
     refine dEnd (by kernel_rfl) (nxt (wp_cond_true (by kernel_rfl) (wp_seq (reg ?_))))
     refine rP 0 61 (.slice A n c) rfl rfl ?_
     refine rP 1 4 (.slice A n c) rfl rfl ?_
     refine rP 2 5 (.int .i64 8) rfl rfl ?_
     refine rEnd 3 rfl (nxt (wp_ret (thR (thR ?_))))
     have kk17 := Chg.step HB ch16 trivial
     have kk18 := Chg.step kk17 ch17 (newOr_blk (fun g hg => by have := hO.lt g hg; omega))
     have kk19 := Chg.step kk18 ch18 trivial
     rw [Mur.addS_full hmay1 hnotin ((Mur.radd_full (by omega) hnotin hz).1 ((Mur.Att.eq_iff z x).2 hatt3))]
     refine Wk.ret (.tuple #[.slice A n c, .int .i64 8]) rfl (by kernel_rfl) ?_
     exact ⟨_, _, _, rfl, (Mur.SlA.chg hA_ kk19 (fun g off e hl => trivial)), .inl rfl, by omega, kk19⟩
    refine dV 4 60 (.bool false) rfl rfl (fun w' hw' => (boolF (b := decide (z.k = x.k ∧ z.r = x.r ∧ z.n = x.n ∧ z.t = x.t)) (decide_eq_false (hatt3)) (run_eql_att (.tmp 58) (.tmp 59) 32 rfl z.hk z.hr z.ht x.hk x.hr x.ht z.hn x.hn (by kernel_rfl) (by kernel_rfl)))) sS7 ?_
    refine dEnd (by kernel_rfl) (nxt (wp_cond_false (by kernel_rfl) (wp_skip (nxt (reg ?_)))))
    refine rP 0 62 (.slice (some ⟨g_z, 0, none⟩) (N + 1) nn5) rfl rfl ?_
    refine rQ 1 63 (.slice (some ⟨g_z, 0, none⟩) 200 nn5) rfl rfl (Mur.run_toK 50 (.tmp 62) (.const (.int .i64 200)) rfl 32 Tryd.underlying50 97 (by kernel_rfl) (some ⟨g_z, 0, none⟩) (N + 1) nn5 200 (.inr (by obtain ⟨q_, e_, _⟩ := ow19.ex (by omega); exact ⟨q_, 0, e_⟩)) (by kernel_rfl) (by kernel_rfl) (by omega)) ?_
    refine rP 2 6 (.slice (some ⟨g_z, 0, none⟩) 200 nn5) rfl rfl ?_
    refine rEnd 3 rfl (nxt (wp_seq (reg ?_)))
    refine rP 0 64 (.slice (some ⟨g_z, 0, none⟩) 200 nn5) rfl rfl ?_
    refine rP 1 4 (.slice (some ⟨g_z, 0, none⟩) 200 nn5) rfl rfl ?_
    refine rP 2 5 (.int .i64 0) rfl rfl ?_
    refine rEnd 3 rfl (nxt (wp_ret ?_))
    have kk20 := Chg.step HB ch16 trivial
    have kk21 := Chg.step kk20 ch17 (newOr_blk (fun g hg => by have := hO.lt g hg; omega))
    have kk22 := Chg.step kk21 ch18 trivial
    rw [Mur.addS_ok hmay1 hnotin (fun q_ => hatt3 ((Mur.Att.eq_iff z x).1 ((Mur.radd_full (by omega) hnotin hz).2 q_)))]
    have hcut := ow19.cut (k := 200) (by omega)
    refine Wk.ret (.tuple #[.slice (some ⟨g_z, 0, none⟩) 200 nn5, .int .i64 0]) rfl (by kernel_rfl) ?_
    exact ⟨_, _, _, rfl, hcut.sl, .inr (fun g off e_ => by have := hcut.lt g (by rw [e_]; rfl); omega), by have := hcut.nc; have h_ := hcut.cm; unfold Go.maxLen at h_; omega, kk22⟩
   refine rQ 2 55 _ rfl rfl (qboolF (b := decide (((N + 1 : Nat) : Int) > (200 : Int))) (decide_eq_false (by first | exact hx1 | omega))) ?_
   refine rEnd 3 rfl (nxt (wp_cond_false (by kernel_rfl) (wp_skip (nxt (wp_seq (reg ?_))))))
   refine rP 0 64 (.slice AA5 (N + 1) nn5) rfl rfl ?_
   refine rP 1 4 (.slice AA5 (N + 1) nn5) rfl rfl ?_
   refine rP 2 5 (.int .i64 0) rfl rfl ?_
   refine rEnd 3 rfl (nxt (wp_ret ?_))
   have kk23 := Chg.step HB ch16 trivial
   have kk24 := Chg.step kk23 ch17 (newOr_blk (fun g hg => by have := hO.lt g hg; omega))
   rw [Mur.addS_ok hmay1 hnotin (by have := Mur.pos_le x L; omega)]
   have hcut := ow18
   rw [← Mur.radd_all (x := x) (k := 200) hLl (by omega)] at hcut
   refine Wk.ret (.tuple #[.slice AA5 (N + 1) nn5, .int .i64 0]) rfl (by kernel_rfl) ?_
   exact ⟨_, _, _, rfl, hcut.sl, .inr (fun g off e_ => by have := hcut.lt g (by rw [e_]; rfl); omega), by have := hcut.nc; have h_ := hcut.cm; unfold Go.maxLen at h_; omega, kk24⟩
  simp only [Bool.toNat_true] at hO hOl
  rw [Mur.radd_all (n := n) hLl (by omega)] at hO
  have hN1 := hO.sl.len
  rw [hil_] at hN1
  refine wp_seq (wp_seq (reg ?_))
  refine rP 0 13 (.int .i64 ((i : Nat) : Int)) rfl rfl ?_
  refine rP 1 14 (.slice A n c) rfl rfl ?_
  refine rP 2 15 (.int .i64 ((n : Nat) : Int)) rfl rfl ?_
  refine rQ 3 16 _ rfl rfl (qboolF (b := decide (((i : Nat) : Int) < ((n : Nat) : Int))) (decide_eq_false (by omega))) ?_
  refine rEnd 4 rfl (nxt (wp_cond_false (by kernel_rfl) (wp_exit (thX (thX (inX (nxt (wp_seq (wp_seq (reg ?_))))))))))
  refine rP 0 47 (.bool true) rfl rfl ?_
  refine rP 1 48 (.bool false) rfl rfl ?_
  refine rEnd 2 rfl (nxt (wp_cond_false (by kernel_rfl) (wp_skip (nxt (wp_seq (wp_seq (reg ?_)))))))
  refine rP 0 53 (.slice A1 N c1) rfl rfl ?_
  refine rP 1 54 (.int .i64 ((N : Nat) : Int)) rfl rfl ?_
  by_cases hx2 : ((N : Nat) : Int) > (200 : Int)
  ·refine rQ 2 55 _ rfl rfl (qboolT (b := decide (((N : Nat) : Int) > (200 : Int))) (decide_eq_true (by first | exact hx2 | omega))) ?_
   refine rEnd 3 rfl (nxt (wp_cond_true (by kernel_rfl) (wp_seq (wp_seq ?_))))
   refine dReg ([]) (by kernel_rfl) ?_
   intro W21 ch19 sz12
   have zz20 := ch19.size
   have sS8 : Chg ([]) W21 W21 := (Chg.refl _).more (by simp)
   have ow20 := Mur.OwnA.chg hO ch19 (fun q e _ _ => trivial)
   obtain ⟨g_z, rfl, _, _⟩ := ow20.ex (by omega)
   obtain ⟨z, hz⟩ : ∃ z, (Mur.ins x L)[200]? = some z := ⟨_, List.getElem?_eq_getElem (by omega)⟩
   refine dV 0 56 (.slice (some ⟨g_z, 0, none⟩) N c1) rfl rfl (fun _ _ => by kernel_rfl) sS8 ?_
   refine dV 1 57 (.pointer (some ⟨g_z, 19400, none⟩)) rfl rfl (fun w' hw' => (index_sl 50 32 (.tmp 56) (.const (.int .i64 200)) rfl Tryd.underlying50 97 (by kernel_rfl) g_z 0 N c1 200 .i64 (by kernel_rfl) (by kernel_rfl) (by omega))) sS8 ?_
   refine dV 2 58 (.agg ((Mur.attC z.k z.r z.n z.t).toArray)) rfl rfl (fun w' hw' => (loadR 32 (.tmp 57) rfl _ Tryd.underlying32 rfl g_z 19400 (by kernel_rfl) (Mur.attC z.k z.r z.n z.t) (by rw [Mur.attC_length z.hk z.hr z.ht]; kernel_rfl) ((Mur.SlA.chg ow20.sl hw' (fun g off e hl => trivial)).elem hz))) sS8 ?_
   refine dV 3 59 (.agg ((Mur.attC x.k x.r x.n x.t).toArray)) rfl rfl (fun w' hw' => (Mur.loadArr 32 (.tmp 3) rfl _ Tryd.underlying32 rfl w.heap.size (by kernel_rfl) (Mur.attC x.k x.r x.n x.t).toArray 97 (Mur.attC_size x.hk x.hr x.ht) (by kernel_rfl) 32 (0, 0) (Chg.hp hw' (Chg.hp ch19 hX trivial) trivial))) sS8 ?_
   by_cases hatt4 : z.k = x.k ∧ z.r = x.r ∧ z.n = x.n ∧ z.t = x.t
   ·refine dV 4 60 (.bool true) rfl rfl (fun w' hw' => (boolT (b := decide (z.k = x.k ∧ z.r = x.r ∧ z.n = x.n ∧ z.t = x.t)) (decide_eq_true (hatt4)) (run_eql_att (.tmp 58) (.tmp 59) 32 rfl z.hk z.hr z.ht x.hk x.hr x.ht z.hn x.hn (by kernel_rfl) (by kernel_rfl)))) sS8 ?_
    refine dEnd (by kernel_rfl) (nxt (wp_cond_true (by kernel_rfl) (wp_seq (reg ?_))))
    refine rP 0 61 (.slice A n c) rfl rfl ?_
    refine rP 1 4 (.slice A n c) rfl rfl ?_
    refine rP 2 5 (.int .i64 8) rfl rfl ?_
    refine rEnd 3 rfl (nxt (wp_ret (thR (thR ?_))))
    have kk25 := Chg.step HB ch19 trivial
    rw [Mur.addS_full hmay1 hnotin ((Mur.radd_full (by omega) hnotin hz).1 ((Mur.Att.eq_iff z x).2 hatt4))]
    refine Wk.ret (.tuple #[.slice A n c, .int .i64 8]) rfl (by kernel_rfl) ?_
    exact ⟨_, _, _, rfl, (Mur.SlA.chg hA_ kk25 (fun g off e hl => trivial)), .inl rfl, by omega, kk25⟩
   refine dV 4 60 (.bool false) rfl rfl (fun w' hw' => (boolF (b := decide (z.k = x.k ∧ z.r = x.r ∧ z.n = x.n ∧ z.t = x.t)) (decide_eq_false (hatt4)) (run_eql_att (.tmp 58) (.tmp 59) 32 rfl z.hk z.hr z.ht x.hk x.hr x.ht z.hn x.hn (by kernel_rfl) (by kernel_rfl)))) sS8 ?_
   refine dEnd (by kernel_rfl) (nxt (wp_cond_false (by kernel_rfl) (wp_skip (nxt (reg ?_)))))
   refine rP 0 62 (.slice (some ⟨g_z, 0, none⟩) N c1) rfl rfl ?_
   refine rQ 1 63 (.slice (some ⟨g_z, 0, none⟩) 200 c1) rfl rfl (Mur.run_toK 50 (.tmp 62) (.const (.int .i64 200)) rfl 32 Tryd.underlying50 97 (by kernel_rfl) (some ⟨g_z, 0, none⟩) N c1 200 (.inr (by obtain ⟨q_, e_, _⟩ := ow20.ex (by omega); exact ⟨q_, 0, e_⟩)) (by kernel_rfl) (by kernel_rfl) (by omega)) ?_
   refine rP 2 6 (.slice (some ⟨g_z, 0, none⟩) 200 c1) rfl rfl ?_
   refine rEnd 3 rfl (nxt (wp_seq (reg ?_)))
   refine rP 0 64 (.slice (some ⟨g_z, 0, none⟩) 200 c1) rfl rfl ?_
   refine rP 1 4 (.slice (some ⟨g_z, 0, none⟩) 200 c1) rfl rfl ?_
   refine rP 2 5 (.int .i64 0) rfl rfl ?_
   refine rEnd 3 rfl (nxt (wp_ret ?_))
   have kk26 := Chg.step HB ch19 trivial
   rw [Mur.addS_ok hmay1 hnotin (fun q_ => hatt4 ((Mur.Att.eq_iff z x).1 ((Mur.radd_full (by omega) hnotin hz).2 q_)))]
   have hcut := ow20.cut (k := 200) (by omega)
   refine Wk.ret (.tuple #[.slice (some ⟨g_z, 0, none⟩) 200 c1, .int .i64 0]) rfl (by kernel_rfl) ?_
   exact ⟨_, _, _, rfl, hcut.sl, .inr (fun g off e_ => by have := hcut.lt g (by rw [e_]; rfl); omega), by have := hcut.nc; have h_ := hcut.cm; unfold Go.maxLen at h_; omega, kk26⟩
  refine rQ 2 55 _ rfl rfl (qboolF (b := decide (((N : Nat) : Int) > (200 : Int))) (decide_eq_false (by first | exact hx2 | omega))) ?_
  refine rEnd 3 rfl (nxt (wp_cond_false (by kernel_rfl) (wp_skip (nxt (wp_seq (reg ?_))))))
  refine rP 0 64 (.slice A1 N c1) rfl rfl ?_
  refine rP 1 4 (.slice A1 N c1) rfl rfl ?_
  refine rP 2 5 (.int .i64 0) rfl rfl ?_
  refine rEnd 3 rfl (nxt (wp_ret ?_))
  rw [Mur.addS_ok hmay1 hnotin (by have := Mur.pos_le x L; omega)]
  have hcut := hO
  rw [← Mur.radd_all (x := x) (k := 200) hLl (by omega)] at hcut
  refine Wk.ret (.tuple #[.slice A1 N c1, .int .i64 0]) rfl (by kernel_rfl) ?_
  exact ⟨_, _, _, rfl, hcut.sl, .inr (fun g off e_ => by have := hcut.lt g (by rw [e_]; rfl); omega), by have := hcut.nc; have h_ := hcut.cm; unfold Go.maxLen at h_; omega, HB⟩
 have hmay1u : ¬ (1 ≤ x.n ∧ x.n ≤ 5000) := hmay1
 refine (Rmay_any x.k x.r x.t x.n x.hk x.hr x.ht W1).mono ?_
 rw [decide_eq_false (hmay1 : ¬ Mur.may x.n)]
 rintro _ W2 ⟨rfl, ch2⟩
 have zz21 := ch2.size
 refine ⟨_, rfl, ?_⟩
 refine rP 2 11 (.bool true) rfl rfl ?_
 refine rEnd 3 rfl (nxt (wp_cond_true (by kernel_rfl) (wp_seq (reg ?_))))
 refine rP 0 12 (.slice A n c) rfl rfl ?_
 refine rP 1 4 (.slice A n c) rfl rfl ?_
 refine rP 2 5 (.int .i64 2) rfl rfl ?_
 refine rEnd 3 rfl (nxt (wp_ret (thR ?_)))
 have kk27 : Chg [] w W1 := Chg.step ((Chg.refl _).more (by simp)) ch1 trivial
 have kk28 := Chg.step kk27 ch2 trivial
 rw [Mur.addS_may hmay1]
 refine Wk.ret (.tuple #[.slice A n c, .int .i64 2]) rfl (by kernel_rfl) ?_
 exact ⟨_, _, _, rfl, (Mur.SlA.chg hA_ kk28 (fun g off e hl => trivial)), .inl rfl, by omega, kk28⟩
end Go.Proofs.YtfhneademopciaaDoor
