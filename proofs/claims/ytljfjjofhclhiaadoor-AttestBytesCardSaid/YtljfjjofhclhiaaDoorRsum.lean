/- The reference's Sum, walked: the digest of bytes. -/
import Derived.Test.YtljfjjofhclhiaaDoorRblk
import Derived.Test.YtljfjjofhclhiaaDoorPad
namespace Mur
open Go Go.RowKit
section
variable {P : Program} {ops : Array Oper} {rest : List Oper} {o : Oper} {a : Act} {C : World → Prop} {Q : Act → Prop}
/-- A call in a quiet walk, in any class of worlds. -/
theorem wpQuiet_call (hgd : o.guard = none) (f : FuncId) (xs : Array Operand) (ts : Array TypeId) (ho : o.op = .call { callee := .value (.func f), args := xs, argTypes := ts })
    (v : Value) (vals : Array Value) (hv : xs.map a.eval = vals) (hrun : ∀ w, (callFunc f vals).run P w = .ok (.enter f vals) w) (hc : ∀ w, C w → Calls P f vals w fun e w' => e = .returned v ∧ C w')
    (h : wpQuiet P ops C Q rest (a.put o.dst v)) : wpQuiet P ops C Q (o :: rest) a := by
  obtain ⟨dst, op, ty, pos, after, guard⟩ := o
  simp only at ho hgd
  subst ho hgd
  refine BigFrame.wpQuiet_want (by simp [Region.wanted]) fun K hK => ⟨v, fun w hw => ?_, hK _ h⟩
  unfold Oper.quietAt
  rw [execOp_call_go, hv, show #[] ++ vals ++ #[] = vals by simp, hrun]
  exact ⟨rfl, hc w hw⟩
theorem wpQuiet_cut (hgd : o.guard = none) (t : TypeId) (x y z : Operand) (ho : o.op = .slice t x (some y) (some z) none) (e : TypeId) (ht : P.underlying t = some (.slice e)) (hsz : (P.info? e).map (·.size) = some 1)
    (A : Option Addr) (n c l m : Nat) (hx : a.eval x = .slice A n c) (hy : a.eval y = .int .i64 (l : Int)) (hz : a.eval z = .int .i64 (m : Int)) (hl : l ≤ m) (hm : m ≤ n) (hnc : n ≤ c)
    (h : wpQuiet P ops C Q rest (a.put o.dst (.slice (cutA A c l) (m - l) (c - l)))) : wpQuiet P ops C Q (o :: rest) a := by
  refine BigFrame.wpQuiet_want (by simp [Region.wanted, hgd]) fun K hK => ⟨_, fun w hw => ?_, hK _ h⟩
  unfold Oper.quietAt execOp
  simp only [ho, hx, hy, hz, Option.map_some, Option.map_none, Sem.run_bind, run_cut t e ht hsz A n c l m hl hm hnc, Result.andThen_ok, Sem.run_pure]
  exact ⟨rfl, rfl⟩
end
end Mur
namespace Go.Proofs.YtljfjjofhclhiaaDoor
open Go.RowKit
open Mur (St w32 u32s cell_u32s free_row set_u32s b8s dgV Byt cutA)
def L12 (w : World) (s : St) (wr : World) : Prop :=
  Below w.heap.size w wr ∧ w.heap.size + 3 ≤ wr.heap.size ∧ wr.heap[w.heap.size]? = some (.cells (stCells s) 60 (0, 0)) ∧ wr.heap[w.heap.size + 1]? = some (.cells (u32s Mur.K) 61 (0, 0)) ∧
  wr.heap[w.heap.size + 1 + 1]? = some (.cells (b8s (List.replicate 32 0)).toArray 25 (0, 0))
def L13 (w : World) (s : St) (D : Nat) (d : List UInt8) (wr : World) : Prop :=
  Below w.heap.size w wr ∧ wr.heap[w.heap.size]? = some (.cells (stCells s) 60 (0, 0)) ∧ wr.heap[w.heap.size + 1 + 1]? = some (.cells (b8s (List.replicate 32 0)).toArray 25 (0, 0)) ∧
  wr.heap[D]? = some (.cells (b8s d).toArray 25 (0, 0))
theorem L13.setD {w wr : World} {s : St} {D : Nat} {d : List UInt8} (h : L13 w s D d wr) (hD : w.heap.size + 3 ≤ D) (k : Nat) (x : UInt8) : L13 w s D (d.set k x) (wr.setCell ⟨D, k, none⟩ (.int .u8 (x.toNat : Int))) :=
  ⟨h.1.setCell (by simp; omega) _, Mur.hp_set_ne h.2.1 _ _ _ (by omega), Mur.hp_set_ne h.2.2.1 _ _ _ (by omega), Mur.set_b8s h.2.2.2 x⟩
set_option maxRecDepth 100000
set_option maxHeartbeats 4000000
theorem Rsum_any (b : List UInt8) (A : Option Addr) (n c : Nat) (w : World) (hb : Byt w A n b) (hnc : n ≤ c) (hA : A = none → c = 0) (hn : n ≤ 140737488351232) :
    Calls Tryd.prog 41 #[.agg (stCells Mur.H0), .agg (u32s Mur.K), .slice A n c] w fun e w' => ∃ d, Hid (d = Mur.sha b) ∧ d.length = 32 ∧ e = .returned (.agg (b8s d).toArray) ∧ Below w.heap.size w w' := by
  have HB := Go.Lib.hid hb; clear hb
  have HA := Go.Lib.hid hA; clear hA
  obtain ⟨s0, hs0⟩ : ∃ s, s = Mur.H0 := ⟨_, rfl⟩
  rw [← hs0]
  have HS0 := Go.Lib.hid hs0; clear hs0
  go_enter Tryd.func41, Tryd.ntmps41
  have hb3 : ∀ x y z, Below w.heap.size w (((w.alloc x).alloc y).alloc z) := fun x y z => (((Below.refl _ _).alloc (Nat.le_refl _) _).alloc (by simp) _).alloc (by simp; omega) _
  have HB3 := Go.Lib.hid hb3; clear hb3
  go_wp2_with (first
    | (go_at_call 50; refine (padded_any b A n c _ (HB.out.below (HB3.out _ _ _)) hnc HA.out hn).mono ?_; rintro e w2 ⟨v, M, T, HT, rfl, HO, hB2⟩))
  have hbase : ∀ x y z, (((w.alloc x).alloc y).alloc z).heap.size = w.heap.size + 3 := fun x y z => by simp
  have HSZ := Go.Lib.hid hbase; clear hbase
  rw [HSZ.out] at HO
  have hL : L12 w s0 w2 := ⟨(HB3.out _ _ _).trans (hB2.mono (by rw [HSZ.out]; omega)), by have := hB2.size; rw [HSZ.out] at this; exact this, Mur.hp_below hB2 (Mur.hp_old (Mur.hp_old (Mur.hp_a1 _ _) _) _), Mur.hp_below hB2 (Mur.hp_old (Mur.hp_a2 _ _ _) _), Mur.hp_below hB2 ((Mur.hp_a3 _ _ _ _).trans rfl)⟩
  obtain ⟨A3, c3, rfl, hc3, hm3, HB4⟩ := Mur.own_byt HO
  have HlA : Hid (∀ a, A3 = some a → w.heap.size + 3 ≤ a.block ∧ a.block < w2.heap.size) := Go.Lib.hid (fun a ha => by subst ha; exact HO.lt _ rfl)
  clear HO
  have HTl : Hid (T.length = M) := HB4.1
  have HTm : Hid (T.length % 64 = 0) := Go.Lib.hid (by rw [HT.out]; exact Mur.padded_mod b)
  have hM : M ≤ 140737488355328 := by
    have h1 := HTl.out
    have h2 := Mur.padded_length b
    have h3 := (Mur.padZeros_spec b.length).2
    have h4 : b.length = n := HB.out.1
    rw [HT.out] at h1
    omega
  have hzK : (u32s Mur.K).size = 64 := by simp [u32s, Mur.K_length]
  have HZK := Go.Lib.hid hzK; clear hzK
  go_loopw [8] (fun t wr => ∃ (j : Nat) (s : St), t = .int .i64 ((64 * j : Nat) : Int) ∧ 64 * j ≤ M ∧ Hid (s = Mur.blocks s0 T j) ∧ L12 w s wr ∧ Hid (∀ k, w.heap.size + 3 ≤ k → k < w2.heap.size → wr.heap[k]? = w2.heap[k]?) ∧ w2.heap.size ≤ wr.heap.size)
    (fun t _ => M - (intOf t).toNat)
  case atStart => exact ⟨0, s0, rfl, by omega, rfl, hL, fun _ _ _ => rfl, Nat.le_refl _⟩
  case round =>
    clear hL hB2
    obtain ⟨j, s, rfl, hjM, hs, HL, HK, hsz⟩ := hrel
    by_cases hlt : 64 * j < M
    · have h64 : 64 * j + 64 ≤ M := by have := HTl.out; have := HTm.out; omega
      obtain ⟨g, off, hA3, hcell⟩ := (HB4.cut (c := c3) (64 * j) (64 * j + 64) (by omega) h64 hc3).2 (by omega)
      have hcell' : ∀ i, i < 64 → w2.cell? ⟨g, off + i, none⟩ = some (.int .u8 ((((T.take (64 * j + 64)).drop (64 * j)).getD i 0).toNat : Int)) := fun i hi => hcell i (by omega)
      clear hcell
      obtain ⟨L, hLL⟩ : ∃ L, L = (T.take (64 * j + 64)).drop (64 * j) := ⟨_, rfl⟩
      rw [← hLL] at hcell'
      have HLL := Go.Lib.hid hLL; clear hLL
      have HC := Go.Lib.hid hcell'; clear hcell'
      obtain ⟨a3, rfl⟩ : ∃ a, A3 = some a := by
        rcases A3 with _ | a
        · simp [cutA] at hA3
        · exact ⟨a, rfl⟩
      have hgb : g = a3.block := (Mur.cutA_block hA3)
      obtain ⟨hg1, hg2⟩ := HlA.out _ rfl
      have hg3 : g < wr.heap.size := by rw [hgb]; exact Nat.lt_of_lt_of_le hg2 hsz
      have HCr : Hid (∀ i, i < 64 → wr.cell? ⟨g, off + i, none⟩ = some (.int .u8 ((L.getD i 0).toNat : Int))) := fun i hi => (World.cell?_of_block (w := w2) (a := ⟨g, off + i, none⟩) (HK.out g (by rw [hgb]; exact hg1) (by rw [hgb]; exact hg2))).trans (HC.out i hi)
      have HA3 := Go.Lib.hid hA3; clear hA3
      obtain ⟨t, ht⟩ : ∃ t, Hid (t = Mur.block s L) := ⟨_, rfl⟩
      go_wp2
      refine Mur.wp_quiet_tail_class (C := fun w' => Below wr.heap.size wr w') 8 (by kernel_rfl) (by kernel_rfl) ⟨rfl, rfl, rfl, Nat.le_refl _, fun _ _ => rfl⟩ ?_
      simp only [List.take_succ_cons, List.take_zero, List.drop_succ_cons, List.drop_zero]
      refine Mur.wpQuiet_load_row rfl 60 (.tmp 3) rfl w.heap.size rfl 60 (stCells s) (0, 0) _ (fun w' h => (h.block _ (by have := HL.2.1; omega)).trans HL.2.2.1) Tryd.underlying60 rfl (by kernel_rfl) ?_
      refine Mur.wpQuiet_load_row rfl 61 (.tmp 4) rfl (w.heap.size + 1) rfl 61 (u32s Mur.K) (0, 0) _ (fun w' h => (h.block _ (by have := HL.2.1; omega)).trans HL.2.2.2.1) Tryd.underlying61 rfl (by rw [HZK.out]; kernel_rfl) ?_
      simp only [Act.put, List.setIfInBounds_toArray, List.set_cons_succ, List.set_cons_zero]
      go_big_quiet_step (fail)
      go_big_quiet_step (fail)
      go_big_quiet_step (fail)
      go_big_quiet_step (exact fun _ => rfl)
      refine Mur.wpQuiet_cut rfl 22 (.tmp 21) (.tmp 22) (.tmp 24) rfl 5 Tryd.underlying22 (by kernel_rfl) (some a3) M c3 (64 * j) (64 * j + 64) rfl (by go_num) (by go_num) (by omega) h64 hc3 ?_
      rw [HA3.out, show 64 * j + 64 - 64 * j = 64 by omega]
      simp only [Act.put, List.setIfInBounds_toArray, List.set_cons_succ, List.set_cons_zero]
      refine Mur.wpQuiet_call rfl 51 _ _ rfl (.agg (stCells t)) #[.agg (stCells s), .agg (u32s Mur.K), .slice (some ⟨g, off, none⟩) 64 (c3 - 64 * j)] (by simp [Act.eval]) (fun w => by kernel_rfl) ?_ ?_
      · intro w' hw'
        refine (rblock_any s L g off 64 (c3 - 64 * j) w' (fun i hi => (hw'.cell (p := ⟨g, off + i, none⟩) hg3).trans (HCr.out i hi)) (by omega) (by omega) (by have := hw'.size; omega)).mono ?_
        rintro e w3 ⟨t', ht', rfl, hB3⟩
        refine ⟨?_, Mur.below_then hw' hw'.size hB3⟩
        rw [ht'.out, ht.out]
      · refine wpQuiet_nil ?_
        intro w3 hw3
        have HL3 : L12 w s w3 := ⟨HL.1.trans (hw3.mono (by have := HL.2.1; omega)), Nat.le_trans HL.2.1 hw3.size, (hw3.block _ (by have := HL.2.1; omega)).trans HL.2.2.1, (hw3.block _ (by have := HL.2.1; omega)).trans HL.2.2.2.1, (hw3.block _ (by have := HL.2.1; omega)).trans HL.2.2.2.2⟩
        go_wp2_with (refine Mur.wpList_put rfl 60 (.tmp 3) (.tmp 26) rfl w.heap.size (stCells t) rfl rfl 60 (stCells s) HL3.2.2.1 (by kernel_rfl) (by kernel_rfl) (stCells_all t) ?_; intro w5 hp5 hw5; have hp5' := Go.Lib.hid hp5; clear hp5)
        refine ⟨⟨j + 1, t, by go_num, by omega, Go.Lib.hid ?_, ⟨HL3.1.trans (hw5.below (Nat.le_refl _)), by rw [hw5.size]; exact HL3.2.1, hp5'.out, hw5.hp (by omega) HL3.2.2.2.1, hw5.hp (by omega) HL3.2.2.2.2⟩, Go.Lib.hid (fun k h1 h2 => ?_), ?_⟩, by simp [intOf]; omega⟩
        · rw [ht.out, hs.out, HLL.out, Mur.blocks_last, List.drop_take, show 64 * j + 64 - 64 * j = 64 by omega]
        · rw [hw5.block k (by omega), hw3.block k (by omega)]
          exact HK.out k h1 h2
        · rw [hw5.size]
          exact Nat.le_trans hsz hw3.size
    · have HD : Hid (Mur.dig s = Mur.sha b) := Go.Lib.hid (by
        rw [hs.out, HS0.out, Mur.sha, ← HT.out]
        have h1 := HTl.out
        rw [show T.length / 64 = j by omega])
      have hsz3 := HL.2.1
      clear HTl HTm HK hs HB4 HlA
      go_wp2
      obtain ⟨wt, rfl⟩ : ∃ wt : World, wt = wr := ⟨_, rfl⟩
      go_loopw [10] (fun t wq => ∃ i : Nat, i ≤ 32 ∧ t = .int .i64 i ∧ L13 w s wt.heap.size (digTo s i) wq) (fun t _ => 32 - (intOf t).toNat)
      case atStart => exact ⟨0, by omega, rfl, ⟨HL.1.alloc (by omega) _, Mur.hp_old HL.2.2.1 _, Mur.hp_old HL.2.2.2.2 _, (Mur.hp_a1 _ _).trans rfl⟩⟩
      case round =>
        obtain ⟨q, hq, rfl, HL⟩ := hrel
        by_cases hlt : q < 32
        · have cs := cell_u32s (l := s.toList) (i := q / 4) HL.2.1 (by show q / 4 < 8; omega)
          have cd := Mur.cell_b8s (i := q) HL.2.2.2 (by rw [digTo_length]; exact hlt)
          have fd := free_row (i := q) HL.2.2.2
          go_wp2
          refine ⟨⟨q + 1, by omega, by go_num, ?_⟩, by simp [intOf]; omega⟩
          rw [dig_shape, digTo_succ s q hlt]
          exact HL.setD hsz3 _ _
        · obtain rfl : q = 32 := by omega
          have hz : (b8s (digTo s 32)).toArray.size = 32 := by rw [List.size_toArray, Mur.b8s_length, digTo_length]
          have hz0 : (b8s (List.replicate 32 0)).toArray.size = 32 := by rw [List.size_toArray, Mur.b8s_length, List.length_replicate]
          have hd : digTo s 32 = Mur.dig s := digTo_all s
          have HZ := Go.Lib.hid hz; clear hz
          have HZ0 := Go.Lib.hid hz0; clear hz0
          have HDD := Go.Lib.hid hd; clear hd
          go_wp2_with (first
            | (refine wpList_load_row rfl 25 (.tmp 9) rfl wt.heap.size rfl 25 (b8s (digTo s 32)).toArray (0, 0) _ HL.2.2.2 Tryd.underlying25 rfl (by rw [HZ.out]; kernel_rfl) ?_)
            | (refine Mur.wpList_put rfl 25 (.tmp 6) (.tmp 44) rfl (w.heap.size + 1 + 1) (b8s (digTo s 32)).toArray rfl rfl 25 (b8s (List.replicate 32 0)).toArray HL.2.2.1 (by rw [HZ.out]; kernel_rfl) (by rw [HZ.out, HZ0.out]) (Mur.b8s_all _) ?_; intro w5 hp5 hw5; have hp5' := Go.Lib.hid hp5; clear hp5))
          refine bodyPost_ret (v := .agg (b8s (digTo s 32)).toArray) (results_cell_row rfl _ _ (w.heap.size + 1 + 1) 25 (b8s (digTo s 32)).toArray (0, 0) _ rfl hp5'.out Tryd.underlying25 rfl (by rw [HZ.out]; kernel_rfl)) rfl ⟨digTo s 32, Go.Lib.hid (HDD.out.trans HD.out), digTo_length s 32, rfl, HL.1.trans (hw5.below (by omega))⟩
end Go.Proofs.YtljfjjofhclhiaaDoor
