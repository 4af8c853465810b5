/- ShaParts, walked: it answers true. -/
import Derived.Test.YtidhohnhhhooaaaDoorParts
import Derived.Test.YtidhohnhhhooaaaDoorPair
import Derived.Test.YtidhohnhhhooaaaDoorWkM
namespace Go.Proofs.YtidhohnhhhooaaaDoor
open Go.RowKit
open Mur (St w32 u32s cell_u32s free_row set_u32s b8s dgV Byt cutA Seg Segs flat)
theorem flat_one (A : Option Addr) (n c : Nat) (l : List UInt8) : flat [⟨A, n, c, l⟩] = l := by
  show l ++ [] = l
  rw [List.append_nil]
theorem one_seg {w : World} {A : Option Addr} {n c : Nat} {l : List UInt8} (h1 : n ≤ c) (h2 : A = none → c = 0) (h3 : Byt w A n l) : ∀ s ∈ [(⟨A, n, c, l⟩ : Seg)], Mur.SegOk w s := by
  intro s hs
  obtain rfl := List.mem_singleton.1 hs
  exact ⟨h1, h2, h3⟩
theorem one_at {w : World} {g : Nat} {s : Seg} {t : TypeId} {fr : Nat × Nat} (h : w.heap[g]? = some (.cells #[s.v] t fr)) : ∃ g' off, some (⟨g, 0, none⟩ : Addr) = some ⟨g', off, none⟩ ∧ ∀ j s', [s][j]? = some s' → w.cell? ⟨g', off + j, none⟩ = some s'.v := by
  refine ⟨g, 0, rfl, fun j s' hj => ?_⟩
  rw [cell_of_row _ _ _ _ _ _ h]
  rcases j with _ | j
  · obtain rfl := Option.some.inj hj
    rfl
  · cases hj
theorem cut_is (k : Int) (N : Nat) (h1 : 1 ≤ N) (h2 : N ≤ 100000) : ∃ m : Nat, 1 ≤ m ∧ m ≤ N ∧ wrap64 (1 + wrap64 ((IntKind.u64.wrap k).tmod (N : Int))) = (m : Int) := by
  have h0 : 0 ≤ IntKind.u64.wrap k := by
    simp only [IntKind.wrap, IntKind.signed, IntKind.bits]
    simp
    exact Int.emod_nonneg _ (by decide)
  generalize IntKind.u64.wrap k = y at h0
  have hy : y.tmod (N : Int) = y % (N : Int) := Int.tmod_eq_emod_of_nonneg h0
  have ha := Int.emod_nonneg y (show (N : Int) ≠ 0 by omega)
  have hb := Int.emod_lt_of_pos y (show (0 : Int) < (N : Int) by omega)
  rw [hy]
  generalize y % (N : Int) = z at ha hb
  obtain ⟨u, rfl⟩ : ∃ u : Nat, z = (u : Int) := ⟨z.toNat, by omega⟩
  refine ⟨1 + u, by omega, by omega, ?_⟩
  have e1 : wrap64 (u : Int) = (u : Int) := by unfold wrap64; omega
  rw [e1]
  unfold wrap64
  omega
theorem cut_nil {A : Option Addr} {c l : Nat} (h : A = none → c = 0) (hc : cutA A c l = none) : c - l = 0 := by
  rcases A with _ | a
  · rw [h rfl]
    omega
  · exact absurd hc (Mur.cutA_some _ _ _)
theorem flat_two {A B : Option Addr} {n c n' c' m : Nat} (T : List UInt8) (h : 1 ≤ m) : flat [⟨A, n, c, (T.take m).drop 1⟩, ⟨B, n', c', T.drop m⟩] = T.drop 1 := by
  show (T.take m).drop 1 ++ (T.drop m ++ []) = T.drop 1
  rw [List.append_nil]
  conv => rhs; rw [← List.take_append_drop m T]
  rcases T with _ | ⟨t, T⟩
  · simp
  · obtain ⟨k, rfl⟩ : ∃ k, m = k + 1 := ⟨m - 1, by omega⟩
    simp
theorem run_build (A B : Option Addr) (n c n' c' : Nat) (w : World) : (Instr.buildSlice 35 2 #[(0, .slice A n c), (1, .slice B n' c')]).run Tryd.prog w = .ok (.slice (some ⟨w.heap.size, 0, none⟩) 2 2) (w.alloc (.cells #[.slice A n c, .slice B n' c'] 22)) := by
  kernel_rfl
set_option maxRecDepth 100000
set_option maxHeartbeats 1000000
theorem ShaParts_any (x : UInt8) (L : List Seg) (A : Option Addr) (n c : Nat) (k : Int) (w : World) (hv : ShaVars w) (hL : Segs w A n L) (hnc : n ≤ c) (hn : n ≤ 9223372036854775807) (hs : ∀ s ∈ L, s.n ≤ 9223372036854775807) :
    Calls Tryd.prog 5 #[.int .u8 (x.toNat : Int), .slice A n c, .int .i64 k] w fun e w' => e = .returned (.bool true) ∧ Below w.heap.size w w' := by
  have HV := Go.Lib.hid hv; clear hv
  have HL := Go.Lib.hid hL; clear hL
  go_enter Tryd.func5, Tryd.ntmps5
  by_cases hlt : 60 < n
  · go_wp2_with (go_at_call 6; refine (known_any w HV.out).mono ?_; rintro e w2 ⟨rfl, hB2⟩)
    exact bodyPost_ret (v := .bool true) (by kernel_rfl) rfl ⟨rfl, hB2⟩
  · go_wp2
    go_loopw [7, 20] (fun v t wr => ∃ (i N : Nat) (T : List UInt8), i ≤ n ∧ t = .int .i64 i ∧ Hid (T = x :: flat (L.take i)) ∧ lenOf v = N ∧ Hid (N = T.length) ∧ N ≤ 1 + 300 * i ∧ wr.ownsRow w.heap.size 5 1 v N (b8s T) ∧ Below w.heap.size w wr) (fun _ t _ => n - (intOf t).toNat)
    case atStart =>
      refine ⟨0, 1, [x], by omega, rfl, Go.Lib.hid rfl, rfl, Go.Lib.hid rfl, by omega, ?_, (Below.refl _ _).alloc (Nat.le_refl _) _⟩
      exact ⟨rfl, .inr ⟨w.heap.size, 1, #[.int .u8 (x.toNat : Int)], rfl, Nat.le_refl _, Mur.hp_a1 _ _, Nat.le_refl _, by unfold maxLen; omega, rfl, rfl⟩⟩
    case round =>
      obtain ⟨i, N, T, hi, rfl, HT, hv, HN, hN, HO, HB⟩ := hrel
      obtain ⟨A3, c3, rfl, hc3, hm3, HB3⟩ := Mur.own_byt HO
      have HA3 := Go.Lib.hid (Mur.own_nil HO)
      clear hv
      by_cases hlt : i < n
      · obtain ⟨g, off, rfl, hc⟩ := HL.out.2.2 (by omega)
        have hil : i < L.length := by rw [HL.out.1]; exact hlt
        obtain ⟨s, hs0⟩ : ∃ s, L[i]? = some s := ⟨_, List.getElem?_eq_getElem hil⟩
        have hcell := hc i s hs0
        have hg : g < w.heap.size := World.block_lt_of_cell? w ⟨g, off + i, none⟩ hcell
        have hcw : wr.cell? ⟨g, off + i, none⟩ = some s.v := (HB.cell (p := ⟨g, off + i, none⟩) hg).trans hcell
        obtain ⟨h1, h2, h3⟩ := HL.out.2.1 s (List.mem_of_getElem? hs0)
        have hsn := hs s (List.mem_of_getElem? hs0)
        obtain ⟨As, ns, cs, ls⟩ := s
        simp only [Mur.Seg.v] at hcw h1 h2 h3 hsn
        have HS := Go.Lib.hid hs0; clear hs0
        have HY := Go.Lib.hid h3; clear h3
        have H2 := Go.Lib.hid h2; clear h2
        have HHS := Go.Lib.hid hs; clear hs
        clear hc hcell HA3
        by_cases hbig : 300 < ns
        · go_wp2_with (go_at_call 6; refine (known_any wr (HV.out.below HB)).mono ?_; rintro e w2 ⟨rfl, hB2⟩)
          exact bodyPost_ret (v := .bool true) (by kernel_rfl) rfl ⟨rfl, Mur.below_then HB HB.size hB2⟩
        · go_wp2_with (at_builtin; refine Mur.wpList_append_byt (w0 := wr) w.heap.size rfl (.tmp 30) (.tmp 34) 22 5 rfl Tryd.underlying22 (by kernel_rfl) (.slice A3 N c3) N T ls As ns cs rfl rfl HO (HY.out.below HB) H2.out (Below.refl _ _) HB.size (by omega) ?_; intro v4 w4 HO4 HB4 hg4 hat4)
          refine ⟨⟨i + 1, N + ns, T ++ ls, by omega, by go_num, Go.Lib.hid ?_, ?_, Go.Lib.hid ?_, by omega, HO4, HB.trans HB4⟩, by simp [intOf]; omega⟩
          · rw [HT.out, Mur.flat_take HS.out]
            rfl
          · obtain ⟨_, _, rfl, _⟩ := Mur.own_byt HO4
            rfl
          · rw [List.length_append, ← HN.out, HY.out.1]
      · obtain rfl : i = n := by omega
        have HTT : Hid (T = x :: flat L) := Go.Lib.hid (by rw [HT.out, List.take_of_length_le (by rw [HL.out.1]; exact Nat.le_refl _)])
        have hN1 : 1 ≤ N := by rw [HN.out, HTT.out, List.length_cons]; omega
        have HYT := Go.Lib.hid HB3
        have hfl : (flat L).length ≤ 140737488351000 := by
          have e1 := HN.out
          rw [HTT.out, List.length_cons] at e1
          omega
        clear HB3 HO HT hm3
        go_wp2
        obtain ⟨m, hm1, hmN, hm⟩ := cut_is k N hN1 (by omega)
        rw [hm]
        refine wp_region_held (S := fun w' => Below w.heap.size w w') (by kernel_rfl) ?_
        have hS : Below w.heap.size w wr.drew := Mur.below_drewN HB 1
        refine Mur.hTake 0 (.int .u8 (x.toNat : Int)) rfl (by kernel_rfl) (by kernel_rfl) (by kernel_rfl) (fun _ _ _ h => h) (by kernel_rfl) (fun _ _ => by kernel_rfl) hS ?_
        refine Mur.hTake 1 (.slice A i c) rfl (by kernel_rfl) (by kernel_rfl) (by kernel_rfl) (fun _ _ _ h => h) (by kernel_rfl) (fun _ _ => by kernel_rfl) hS ?_
        refine Mur.hTake 3 (.int .u8 (x.toNat : Int)) rfl (by kernel_rfl) (by kernel_rfl) (by kernel_rfl) (fun _ _ _ h => h) (by kernel_rfl) (fun _ _ => by kernel_rfl) hS ?_
        refine Mur.hTake 4 (.slice A3 N c3) rfl (by kernel_rfl) (by kernel_rfl) (by kernel_rfl) (fun _ _ _ h => h) (by kernel_rfl) (fun _ _ => by kernel_rfl) hS ?_
        refine Mur.hTake 5 (.int .i64 (m : Int)) rfl (by kernel_rfl) (by kernel_rfl) (by kernel_rfl) (fun _ _ _ h => h) (by kernel_rfl) (fun _ _ => by kernel_rfl) hS ?_
        refine Mur.hTake 6 (.slice (cutA A3 c3 1) (m - 1) (c3 - 1)) rfl (by kernel_rfl) (by kernel_rfl) (by kernel_rfl) (fun _ _ _ h => h) (by kernel_rfl) (fun w' _ => Mur.run_op_cut 22 (.tmp 49) (.const (.int .i64 1)) (.tmp 50) rfl 5 Tryd.underlying22 (by kernel_rfl) A3 N c3 1 m (by kernel_rfl) (by kernel_rfl) (by kernel_rfl) hm1 hmN hc3) hS ?_
        refine Mur.hTake 7 (.slice A3 N c3) rfl (by kernel_rfl) (by kernel_rfl) (by kernel_rfl) (fun _ _ _ h => h) (by kernel_rfl) (fun _ _ => by kernel_rfl) hS ?_
        refine Mur.hTake 8 (.int .i64 (m : Int)) rfl (by kernel_rfl) (by kernel_rfl) (by kernel_rfl) (fun _ _ _ h => h) (by kernel_rfl) (fun _ _ => by kernel_rfl) hS ?_
        refine Mur.hTake 9 (.slice (cutA A3 c3 m) (N - m) (c3 - m)) rfl (by kernel_rfl) (by kernel_rfl) (by kernel_rfl) (fun _ _ _ h => h) (by kernel_rfl) (fun w' _ => Mur.run_op_cut_from 22 (.tmp 52) (.tmp 53) rfl 5 Tryd.underlying22 (by kernel_rfl) A3 N c3 m (by kernel_rfl) (by kernel_rfl) hmN hc3) hS ?_
        obtain ⟨d, hd⟩ : ∃ d, Hid (d = Mur.sha T) := ⟨_, rfl⟩
        have HDL : Hid (d.length = 32) := Go.Lib.hid (by rw [hd.out]; exact sha_length _)
        have HDZ : Hid ((b8s d).toArray.size = 32) := Go.Lib.hid (dgV_size HDL.out)
        have HW : Hid (Below w.heap.size w wr.drew) := Go.Lib.hid hS
        have hsz0 : w.heap.size ≤ wr.drew.heap.size := HB.size
        refine Mur.pair_inv (f := 10) (W0 := wr.drew) (T := 30) (te := 22) (va := .int .u8 (x.toNat : Int)) (vb := .slice A i c)
          (s1 := .slice (cutA A3 c3 1) (m - 1) (c3 - 1)) (s2 := .slice (cutA A3 c3 m) (N - m) (c3 - m)) (D := .agg (b8s d).toArray) (z := (b8s (List.replicate 32 0)).toArray) (dc := (b8s d).toArray)
          rfl rfl rfl rfl rfl rfl rfl rfl rfl rfl rfl rfl rfl rfl rfl rfl rfl rfl rfl rfl rfl rfl rfl rfl rfl rfl
          ?_ ?_ ?_ ?_ ?_ ?_ ?_ (by kernel_rfl) (by kernel_rfl) (by kernel_rfl) (by kernel_rfl) (by kernel_rfl) (by kernel_rfl) rfl (by rw [HDZ.out]; kernel_rfl) (by rw [HDZ.out]; rfl) (Mur.b8s_all _) ?_ ?_ ?_ ?_ (by kernel_rfl) ?_ _ (by kernel_rfl) (by kernel_rfl)
        · intro a w' h1 h2
          exact Mur.run_op_build2 35 (.tmp 51) (.tmp 54) _ _ _ rfl h1 h2 (run_build _ _ _ _ _ _ w')
        · intro a w'
          kernel_rfl
        · intro a w'
          kernel_rfl
        · intro v u w'
          kernel_rfl
        · intro listed h
          exact ⟨h ⟨2, .chain⟩ (by simp) rfl, h ⟨10, .data⟩ (by simp) rfl⟩
        · intro listed h
          exact ⟨h ⟨2, .data⟩ (by simp) rfl, h ⟨11, .chain⟩ (by simp) rfl, h ⟨12, .data⟩ (by simp) rfl, h ⟨13, .phase⟩ (by simp) rfl⟩
        · intro listed h
          exact ⟨h ⟨11, .data⟩ (by simp) rfl, h ⟨13, .data⟩ (by simp) rfl, h ⟨14, .chain⟩ (by simp) rfl⟩
        · intro w' hb
          have hb' := HW.out.trans (hb.mono hsz0)
          refine (Parts_any x L A i c w' (HV.out.below hb') (HL.out.below hb') hn hfl).mono ?_
          rintro e w3 ⟨d', hd', _, rfl, hB⟩
          exact ⟨by rw [hd'.out, hd.out, HTT.out], hB⟩
        · intro w' g hb hg
          have hb' := HW.out.trans (hb.mono hsz0)
          have hYw : Byt w' A3 N T := (HYT.out.drewN 1).below hb
          refine (Parts_any x [⟨cutA A3 c3 1, m - 1, c3 - 1, (T.take m).drop 1⟩, ⟨cutA A3 c3 m, N - m, c3 - m, T.drop m⟩] (some ⟨g, 0, none⟩) 2 2 w' (HV.out.below hb') ⟨rfl, ?_, ?_⟩ (by omega) ?_).mono ?_
          · intro s hs
            rcases List.mem_cons.1 hs with rfl | hs
            · exact ⟨by show m - 1 ≤ c3 - 1; omega, cut_nil HA3.out, hYw.cut 1 m hm1 hmN hc3⟩
            · rcases List.mem_cons.1 hs with rfl | hs
              · exact ⟨by show N - m ≤ c3 - m; omega, cut_nil HA3.out, hYw.from_ m hmN hc3⟩
              · cases hs
          · intro _
            refine ⟨g, 0, rfl, fun j s hj => ?_⟩
            rw [cell_of_row _ _ _ _ _ _ hg]
            rcases j with _ | _ | j
            · obtain rfl := Option.some.inj hj
              rfl
            · obtain rfl := Option.some.inj hj
              rfl
            · cases hj
          · rw [flat_two T hm1, HTT.out]
            exact hfl
          · rintro e w3 ⟨d', hd', _, rfl, hB⟩
            exact ⟨by rw [hd'.out, hd.out, flat_two T hm1, HTT.out]; rfl, hB⟩
        · intro w' hb
          exact HW.out.trans (hb.mono hsz0)
        · decide +kernel
        · intro v10 v11 v55 w1 hB1 hR10 hR11
          obtain ⟨g10, rfl, hb10, hh10⟩ := hR10
          obtain ⟨g11, rfl, hb11, hh11⟩ := hR11
          have hWd : Wk.Chg [] wr.drew w1 := Wk.Chg.ofBelow hB1
          have hWW : Wk.Chg [] w w1 := Wk.Chg.ofBelow (HW.out.trans (hB1.mono hsz0))
          have hdl8 : (b8s d).length = 32 := by rw [Mur.b8s_length, HDL.out]
          have hs1 := hWd.size
          rename_i K9 hK9
          refine hK9 _ _ ?_
          refine wp_seq ?_
          refine Wk.dReg [] (by kernel_rfl) ?_
          intro W1 ch1 sz1
          have zz1 := ch1.size
          have sS1 : Wk.Chg [] W1 W1 := (Wk.Chg.refl _).more (by simp)
          refine Wk.dVal 0 (some 57) (.agg ((b8s d).toArray)) rfl rfl (by kernel_rfl) (by kernel_rfl) (by kernel_rfl) (fun _ _ _ h => h) (by kernel_rfl) (fun w' hw' => (Wk.loadR 30 (.tmp 10) rfl _ Tryd.underlying30 rfl g10 0 (by kernel_rfl) (b8s d) (by rw [hdl8]; kernel_rfl) (Wk.range_row (Wk.Chg.hp hw' (Wk.Chg.hp ch1 hh10 trivial) trivial)))) sS1 ?_
          refine Wk.dVal 1 (some 58) (.slice A3 N c3) rfl rfl (by kernel_rfl) (by kernel_rfl) (by kernel_rfl) (fun _ _ _ h => h) (by kernel_rfl) (fun w' hw' => by kernel_rfl) sS1 ?_
          refine Wk.dOp 2 (by kernel_rfl) ?_
          refine Wk.oCall (some 59) 8 [.tmp 58] #[22] [.slice A3 N c3] rfl rfl (by kernel_rfl) rfl (by kernel_rfl) (by kernel_rfl) ?_
          have kk1 := Wk.Chg.step hWW ch1 trivial
          have hbw : Below w.heap.size w W1 := Wk.Chg.below0 kk1
          have kk2 := Wk.Chg.step hWd ch1 trivial
          refine (Sum_var T A3 N c3 W1 (HV.out.below hbw) ((HYT.out.drewN 1).below (Wk.Chg.below0 kk2)) hc3 HA3.out (by omega)).mono ?_
          rintro _ W2 ⟨d2, hd2, hd2l, rfl, hB1⟩
          have ch2 := Wk.Chg.ofBelow hB1
          have zz2 := ch2.size
          have hdd : d = d2 := hd.out.trans hd2.out.symm
          have sS2 := Wk.Chg.step sS1 ch2 trivial
          refine ⟨_, rfl, sS2, ?_⟩
          refine Wk.dVal 3 (some 60) (.bool true) rfl rfl (by kernel_rfl) (by kernel_rfl) (by kernel_rfl) (fun _ _ _ h => h) (by kernel_rfl) (fun w' hw' => (Mur.run_eql_true digT d d2 HDL.out hdd w' (.tmp 57) (.tmp 59) 30 rfl (by kernel_rfl) (by kernel_rfl))) sS2 ?_
          refine Wk.dVal 4 (some 61) (.bool true) rfl rfl (by kernel_rfl) (by kernel_rfl) (by kernel_rfl) (fun _ _ _ h => h) (by kernel_rfl) (fun w' hw' => by kernel_rfl) sS2 ?_
          refine Wk.dVal 5 (some 62) (.agg ((b8s d).toArray)) rfl rfl (by kernel_rfl) (by kernel_rfl) (by kernel_rfl) (fun _ _ _ h => h) (by kernel_rfl) (fun w' hw' => (Wk.loadR 30 (.tmp 11) rfl _ Tryd.underlying30 rfl g11 0 (by kernel_rfl) (b8s d) (by rw [hdl8]; kernel_rfl) (Wk.range_row (Wk.Chg.hp hw' (Wk.Chg.hp ch1 hh11 trivial) trivial)))) sS2 ?_
          refine Wk.dVal 6 (some 63) (.agg ((b8s d).toArray)) rfl rfl (by kernel_rfl) (by kernel_rfl) (by kernel_rfl) (fun _ _ _ h => h) (by kernel_rfl) (fun w' hw' => (Wk.loadR 30 (.tmp 10) rfl _ Tryd.underlying30 rfl g10 0 (by kernel_rfl) (b8s d) (by rw [hdl8]; kernel_rfl) (Wk.range_row (Wk.Chg.hp hw' (Wk.Chg.hp ch1 hh10 trivial) trivial)))) sS2 ?_
          refine Wk.dVal 7 (some 64) (.bool true) rfl rfl (by kernel_rfl) (by kernel_rfl) (by kernel_rfl) (fun _ _ _ h => h) (by kernel_rfl) (fun w' hw' => (Mur.run_eql_true digT d d HDL.out rfl w' (.tmp 62) (.tmp 63) 30 rfl (by kernel_rfl) (by kernel_rfl))) sS2 ?_
          refine Wk.dVal 8 (some 65) (.bool true) rfl rfl (by kernel_rfl) (by kernel_rfl) (by kernel_rfl) (fun _ _ _ h => h) (by kernel_rfl) (fun w' hw' => by kernel_rfl) sS2 ?_
          refine Wk.dVal 9 (some 66) (.bool true) rfl rfl (by kernel_rfl) (by kernel_rfl) (by kernel_rfl) (fun _ _ _ h => h) (by kernel_rfl) (fun w' hw' => by kernel_rfl) sS2 ?_
          refine Wk.dVal 10 (some 67) (.int .u8 (x.toNat : Int)) rfl rfl (by kernel_rfl) (by kernel_rfl) (by kernel_rfl) (fun _ _ _ h => h) (by kernel_rfl) (fun w' hw' => by kernel_rfl) sS2 ?_
          refine Wk.dVal 11 (some 68) (.slice A3 N c3) rfl rfl (by kernel_rfl) (by kernel_rfl) (by kernel_rfl) (fun _ _ _ h => h) (by kernel_rfl) (fun w' hw' => by kernel_rfl) sS2 ?_
          refine Wk.dVal 12 (some 69) (.slice (Mur.cutA A3 c3 1) (N - 1) (c3 - 1)) rfl rfl (by kernel_rfl) (by kernel_rfl) (by kernel_rfl) (fun _ _ _ h => h) (by kernel_rfl) (fun w' hw' => (Mur.run_op_cut_from 22 (.tmp 68) (.const (.int .i64 1)) rfl 5 Tryd.underlying22 (by kernel_rfl) A3 N c3 1 (by kernel_rfl) (by kernel_rfl) hN1 hc3)) sS2 ?_
          refine Wk.dVal 15 (some 72) (.agg ((b8s d).toArray)) rfl rfl (by kernel_rfl) (by kernel_rfl) (by kernel_rfl) (fun _ _ _ h => h) (by kernel_rfl) (fun w' hw' => (Wk.loadR 30 (.tmp 10) rfl _ Tryd.underlying30 rfl g10 0 (by kernel_rfl) (b8s d) (by rw [hdl8]; kernel_rfl) (Wk.range_row (Wk.Chg.hp hw' (Wk.Chg.hp ch1 hh10 trivial) trivial)))) sS2 ?_
          refine Wk.dOp 13 (by kernel_rfl) ?_
          refine Wk.oEx (some 70) _ rfl rfl (by kernel_rfl) (Wk.new_ex (.slice (some ⟨W2.heap.size, 0, none⟩) 1 1) #[.slice (Mur.cutA A3 c3 1) (N - 1) (c3 - 1)] 22 (by kernel_rfl)) ?_
          rintro _ W3 ⟨rfl, hb1, ch3, sz2⟩
          have zz3 := ch3.size
          have sS3 := Wk.Chg.step sS2 ch3 trivial
          refine ⟨sS3, ?_⟩
          refine Wk.dOp 14 (by kernel_rfl) ?_
          refine Wk.oCall (some 71) 10 [.tmp 67, .tmp 70] #[5, 35] [.int .u8 (x.toNat : Int), .slice (some ⟨W2.heap.size, 0, none⟩) 1 1] rfl rfl (by kernel_rfl) rfl (by kernel_rfl) (by kernel_rfl) ?_
          have kk3 := Wk.Chg.step kk1 ch2 trivial
          have kk4 := Wk.Chg.step kk3 ch3 trivial
          have hbw2 : Below w.heap.size w W3 := Wk.Chg.below0 kk4
          have kk5 := Wk.Chg.step kk2 ch2 trivial
          have kk6 := Wk.Chg.step kk5 ch3 trivial
          refine (Parts_any x [⟨cutA A3 c3 1, N - 1, c3 - 1, T.drop 1⟩] (some ⟨W2.heap.size, 0, none⟩) 1 1 W3 (HV.out.below hbw2) ⟨rfl, one_seg (by omega) (cut_nil HA3.out) (((HYT.out.drewN 1).below (Wk.Chg.below0 kk6)).from_ 1 hN1 hc3), fun _ => one_at hb1⟩ (by omega) (by rw [flat_one, HTT.out]; exact hfl)).mono ?_
          rintro _ W4 ⟨d3, hd3, hd3l, rfl, hB2⟩
          have ch4 := Wk.Chg.ofBelow hB2
          have zz4 := ch4.size
          have eT : x :: T.drop 1 = T := by rw [HTT.out]; rfl
          have hdd3 : d3 = d := by rw [hd3.out, flat_one, eT, hd.out]
          have sS4 := Wk.Chg.step sS3 ch4 trivial
          refine ⟨_, rfl, sS4, ?_⟩
          refine Wk.dVal 16 (some 73) (.bool true) rfl rfl (by kernel_rfl) (by kernel_rfl) (by kernel_rfl) (fun _ _ _ h => h) (by kernel_rfl) (fun w' hw' => (Mur.run_eql_true digT d3 d hd3l hdd3 w' (.tmp 71) (.tmp 72) 30 rfl (by kernel_rfl) (by kernel_rfl))) sS4 ?_
          refine Wk.dVal 17 (some 74) (.bool true) rfl rfl (by kernel_rfl) (by kernel_rfl) (by kernel_rfl) (fun _ _ _ h => h) (by kernel_rfl) (fun w' hw' => by kernel_rfl) sS4 ?_
          refine Wk.dVal 18 (some 75) (.bool true) rfl rfl (by kernel_rfl) (by kernel_rfl) (by kernel_rfl) (fun _ _ _ h => h) (by kernel_rfl) (fun w' hw' => by kernel_rfl) sS4 ?_
          refine Wk.dOp 19 (by kernel_rfl) ?_
          refine Wk.oCall (some 76) 6 [] #[] [] rfl rfl (by kernel_rfl) rfl (by kernel_rfl) (by kernel_rfl) ?_
          have kk7 := Wk.Chg.step kk4 ch4 trivial
          have hbw3 : Below w.heap.size w W4 := Wk.Chg.below0 kk7
          refine (known_any W4 (HV.out.below hbw3)).mono ?_
          rintro _ W5 ⟨rfl, hB3⟩
          have ch5 := Wk.Chg.ofBelow hB3
          have zz5 := ch5.size
          have sS5 := Wk.Chg.step sS4 ch5 trivial
          refine ⟨_, rfl, sS5, ?_⟩
          refine Wk.dVal 20 (some 77) (.bool true) rfl rfl (by kernel_rfl) (by kernel_rfl) (by kernel_rfl) (fun _ _ _ h => h) (by kernel_rfl) (fun w' hw' => by kernel_rfl) sS5 ?_
          refine Wk.dVal 21 (some 6) (.bool true) rfl rfl (by kernel_rfl) (by kernel_rfl) (by kernel_rfl) (fun _ _ _ h => h) (by kernel_rfl) (fun w' hw' => by kernel_rfl) sS5 ?_
          refine Wk.dEnd (by kernel_rfl) ?_
          refine Wk.nxt ?_
          refine wp_ret ?_
          have kk8 := Wk.Chg.step kk7 ch5 trivial
          refine Wk.ret (.bool true) rfl (by kernel_rfl) ?_
          exact ⟨rfl, Wk.Chg.below0 kk8⟩
end Go.Proofs.YtidhohnhhhooaaaDoor
