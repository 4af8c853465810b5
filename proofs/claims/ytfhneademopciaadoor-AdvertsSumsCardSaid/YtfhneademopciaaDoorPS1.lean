/- Digests told apart; rows of results; the document's hash. No program in sight but for one value that is built. adverts' document: a row of bytes; the hash. -/
import Derived.Test.YtfhneademopciaaDoorPO10
import Derived.Test.YtfhneademopciaaDoorPO4
import Derived.Test.YtfhneademopciaaDoorPO11
namespace Mur
open Go Go.RowKit Wk
section
variable {P : Program}
theorem neq_dig {T e : TypeId} (h : DigT P T e) (d d' : List UInt8) (hd : d.length = 32) (hd' : d'.length = 32) (w : World) (x y : Operand) (ty : TypeId) {a : Act} {o : Oper} (ho : o.op = .binOp .neq T x y ty)
    (hx : a.eval x = .agg (b8s d).toArray) (hy : a.eval y = .agg (b8s d').toArray) : (execOp a.eval o).run P w = .ok (.value (.bool (decide (d ≠ d')))) w := by
  have hf : ∀ x : List UInt8, x.length = 32 → (Value.agg (b8s x).toArray).formed P T = true := by
    intro x hx
    simp [Value.formed, h.ty, h.ct, b8s_length, hx]
  obtain ⟨r, hr, hiff⟩ := run_equalIn_deep (P := P) 9998 2 T h.key w 2 2 (.agg (b8s d).toArray) (.agg (b8s d').toArray) _ _ (hf d hd) (hf d' hd') (keyLits_dig h d hd) (keyLits_dig h d' hd')
  rw [lits_inj hd hd'] at hiff
  have hr' : (!r) = decide (d ≠ d') := by
    by_cases e : d = d'
    · rw [hiff.2 e, decide_eq_false (fun q => q e)]
      rfl
    · rw [decide_eq_true e]
      cases r
      · rfl
      · exact absurd (hiff.1 rfl) e
  rw [← hr']
  unfold execOp
  simp only [ho, hx, hy, Sem.run_bind, run_eqGuard_agg w _ _ _ _ _ _ h.quiet, Result.andThen_ok, run_neq_struct, Sem.run_pure]
  rw [show (10000 : Nat) = 9998 + 2 from rfl, hr]
  rfl
theorem neq_no {T e : TypeId} (h : DigT P T e) (d d' : List UInt8) (hd : d.length = 32) (he : d = d') (w : World) (x y : Operand) (ty : TypeId) {a : Act} {o : Oper} (ho : o.op = .binOp .neq T x y ty)
    (hx : a.eval x = .agg (b8s d).toArray) (hy : a.eval y = .agg (b8s d').toArray) : (execOp a.eval o).run P w = .ok (.value (.bool false)) w := by
  rw [neq_dig h d d' hd (he ▸ hd) w x y ty ho hx hy, decide_eq_false (fun q => q he)]
theorem neq_yes {T e : TypeId} (h : DigT P T e) (d d' : List UInt8) (hd : d.length = 32) (hd' : d'.length = 32) (he : ¬ d = d') (w : World) (x y : Operand) (ty : TypeId) {a : Act} {o : Oper} (ho : o.op = .binOp .neq T x y ty)
    (hx : a.eval x = .agg (b8s d).toArray) (hy : a.eval y = .agg (b8s d').toArray) : (execOp a.eval o).run P w = .ok (.value (.bool true)) w := by
  rw [neq_dig h d d' hd hd' w x y ty ho hx hy, decide_eq_true he]
end
theorem rowL_take_succ {L : List Att} {i : Nat} {x : Att} (hx : L[i]? = some x) : rowL (L.take (i + 1)) = rowL (L.take i) ++ x.raw := by
  obtain ⟨h, rfl⟩ := List.getElem?_eq_some_iff.1 hx
  rw [List.take_succ_eq_append_getElem h, rowL_snoc]
theorem rowL_inj : ∀ {L M : List Att}, rowL L = rowL M → L = M := by
  have key : ∀ L M : List Att, (L.map Att.raw).flatten = (M.map Att.raw).flatten → L = M := by
    intro L
    induction L with
    | nil =>
      intro M h
      cases M with
      | nil => rfl
      | cons y M =>
        have := congrArg List.length h
        rw [raws_length, raws_length] at this
        simp at this
    | cons x L ih =>
      intro M h
      cases M with
      | nil =>
        have := congrArg List.length h
        rw [raws_length, raws_length] at this
        simp at this
      | cons y M =>
        simp only [List.map_cons, List.flatten_cons] at h
        obtain ⟨h1, h2⟩ := List.append_inj h (by rw [raw_length, raw_length])
        rw [(Att.raw_inj x y).1 h1, ih M h2]
  intro L M h
  unfold rowL at h
  exact key L M (List.cons.inj h).2
theorem hk_left (hc kc : Array Value) : ((hc ++ kc).toList.drop 0).take hc.toList.length = hc.toList := by simp
theorem hk_right {hc kc : Array Value} (h : hc.size = 8) : ((hc ++ kc).toList.drop 8).take kc.toList.length = kc.toList := by
  rw [Array.toList_append, List.drop_left' (by simpa using h)]
  exact List.take_of_length_le (Nat.le_refl _)
theorem hk_size {hc kc : Array Value} (h : hc.size = 8) (k : kc.size = 64) : (hc ++ kc).size = 72 := by rw [Array.size_append, h, k]
theorem hk_all {hc kc : Array Value} (h : hc.all (·.oneCell') = true) (k : kc.all (·.oneCell') = true) : (hc ++ kc).all (·.oneCell') = true := by rw [Array.all_append, h, k]; rfl
theorem fill_hash {hc kc : Array Value} (h : hc.size = 8) (k : kc.size = 64) : Instr.fill (fun i => #[(0, 8), (8, 64)][i]?) (List.replicate 72 (Value.int .u32 0)).toArray [(0, .agg hc), (1, .agg kc)] = some (hc ++ kc) := by
  obtain ⟨H⟩ := hc
  obtain ⟨K⟩ := kc
  have h' : H.length = 8 := h
  have k' : K.length = 64 := k
  have e1 : splice (List.replicate 72 (Value.int .u32 0)) 0 H = H ++ List.replicate 64 (Value.int .u32 0) := splice_mid (A := []) (B := List.replicate 8 (Value.int .u32 0)) (C := List.replicate 64 (Value.int .u32 0)) (vs := H) rfl (by rw [h']; rfl)
  have e2 : splice (H ++ List.replicate 64 (Value.int .u32 0)) 8 K = H ++ K := by
    have := splice_mid (A := H) (B := List.replicate 64 (Value.int .u32 0)) (C := []) (vs := K) (off := 8) h' (by rw [k']; rfl)
    simpa using this
  refine fill_part (off := 0) (size := 8) (vs := H) rfl rfl h' (by simp) ?_
  rw [e1]
  refine fill_part (off := 8) (size := 64) (vs := K) rfl rfl k' (by rw [List.length_append, h']; simp) ?_
  rw [e2]
  show some ((H ++ K).toArray) = some (H.toArray ++ K.toArray)
  rw [← List.toArray_appendList] <;> simp
end Mur
namespace Go.Proofs.YtfhneademopciaaDoor
open Go.RowKit Wk
theorem built_hash {hc kc : Array Value} (h : hc.size = 8) (k : kc.size = 64) : Program.built Tryd.prog 97 [(0, .agg hc), (1, .agg kc)] = some (hc ++ kc) :=
  (show Program.built Tryd.prog 97 [(0, .agg hc), (1, .agg kc)] = Instr.fill (fun i => #[(0, 8), (8, 64)][i]?) (List.replicate 72 (Value.int .u32 0)).toArray [(0, .agg hc), (1, .agg kc)] from by kernel_rfl).trans (Mur.fill_hash h k)
end Go.Proofs.YtfhneademopciaaDoor
namespace Go.Proofs.YtfhneademopciaaDoor
open Go.RowKit
open Mur (b8s Byt Own8 Seg Segs flat cutA attC Att SlA OwnA rowA)
set_option maxRecDepth 100000
set_option maxHeartbeats 4000000
def Row20_F1 (b : Array Value) (u0 : Value) (u3 : Value) (u4 : Value) : Act := ⟨#[u0, b.getD 1 undef, b.getD 2 undef, u3, u4, b.getD 5 undef, b.getD 6 undef, b.getD 7 undef, b.getD 8 undef, b.getD 9 undef, b.getD 10 undef, b.getD 11 undef, b.getD 12 undef, b.getD 13 undef, b.getD 14 undef, b.getD 15 undef, b.getD 16 undef, b.getD 17 undef, b.getD 18 undef, b.getD 19 undef], []⟩
theorem Row_any (A : Option Addr) (n c : Nat) (L : List Att) (w : World) (hA_ : SlA w A n L) (hn : n ≤ 300) : Calls Tryd.prog 21 #[.slice A n c] w fun e w' => ∃ A1 n1 c1, e = .returned (.slice A1 n1 c1) ∧ Own8 w' w.heap.size 5 A1 n1 c1 (Mur.rowL L) ∧ Wk.Chg [] w w' := by
  have hLl0 := hA_.len
  refine calls_of_wp Tryd.func21 rfl ?_
  refine wp_seq ?_
  refine Wk.reg ?_
  refine Wk.rPure 0 (some 2) (.slice none 0 0) rfl rfl (by kernel_rfl) (by kernel_rfl) ?_
  refine Wk.rEnd 1 rfl ?_
  refine Wk.nxt ?_
  refine wp_seq ?_
  refine Wk.reg ?_
  refine Wk.rEx 0 (some 5) _ rfl rfl (by kernel_rfl) (Wk.new_ex (.slice (some ⟨w.heap.size, 0, none⟩) 1 1) #[.int .u8 32] 5 (by kernel_rfl)) ?_
  rintro _ W1 ⟨rfl, hb1, ch1, sz1⟩
  have zz1 := ch1.size
  refine Wk.rPure 1 (some 3) (.slice (some ⟨w.heap.size, 0, none⟩) 1 1) rfl rfl (by kernel_rfl) (by kernel_rfl) ?_
  refine Wk.rEnd 2 rfl ?_
  refine Wk.nxt ?_
  refine wp_seq ?_
  refine wp_seq ?_
  refine Wk.reg ?_
  refine Wk.rPure 0 (some 4) (.int .i64 0) rfl rfl (by kernel_rfl) (by kernel_rfl) ?_
  refine Wk.rEnd 1 rfl ?_
  refine Wk.nxt ?_
  refine wp_block ?_
  have hOw3 : Own8 W1 w.heap.size 5 (some ⟨w.heap.size, 0, none⟩) 1 1 [32] := Mur.own8_lit hb1 (Nat.le_refl _) rfl (by omega)
  refine Wk.loop (fun m_ a wr => ∃ (i : Nat) (A1 : Option Addr) (N : Nat) (c1 : Nat), m_ = n - i ∧ a = Row20_F1 a.tmps (.slice A n c) (.slice A1 N c1) (.int .i64 ((i : Nat) : Int)) ∧ i ≤ n ∧ Own8 wr w.heap.size 5 A1 N c1 (Mur.rowL (L.take i)) ∧ Wk.Chg [] w wr) (n - 0) ?_ ?_
  · have kk1 : Wk.Chg [] w W1 := Wk.Chg.step ((Wk.Chg.refl _).more (by simp)) ch1 trivial
    refine ⟨0, some ⟨w.heap.size, 0, none⟩, 1, 1, rfl, by kernel_rfl, (by omega), (by rw [List.take_zero]; exact hOw3), kk1⟩
  · rintro mm1 aa1 W2 ⟨i, A1, N, c1, hmm1, hF1, hi, hO, HB⟩
    generalize aa1.tmps = bb1 at hF1
    subst hF1
    have hzB := HB.size
    have hLl := hA_.len
    have hON := hO.byt.1
    rw [Mur.rowL_length, List.length_take] at hON
    have hOn := hO.nc
    have hOm := hO.cm
    by_cases hlt : i < n
    · obtain ⟨g_x, o_x, rfl, _⟩ := hA_.ex (by omega)
      obtain ⟨x, hx⟩ : ∃ x, L[i]? = some x := ⟨_, List.getElem?_eq_getElem (by have := hA_.len; omega)⟩
      refine wp_seq ?_
      refine wp_seq ?_
      refine Wk.reg ?_
      refine Wk.rPure 0 (some 6) (.int .i64 ((i : Nat) : Int)) rfl rfl (by kernel_rfl) (by kernel_rfl) ?_
      refine Wk.rPure 1 (some 7) (.slice (some ⟨g_x, o_x, none⟩) n c) rfl rfl (by kernel_rfl) (by kernel_rfl) ?_
      refine Wk.rPure 2 (some 8) (.int .i64 ((n : Nat) : Int)) rfl rfl (by kernel_rfl) (by kernel_rfl) ?_
      refine Wk.rPure 3 (some 9) (.bool true) rfl rfl (by kernel_rfl) (Wk.boolT (b := decide (((i : Nat) : Int) < ((n : Nat) : Int))) (decide_eq_true (by omega)) (by kernel_rfl)) ?_
      refine Wk.rEnd 4 rfl ?_
      refine Wk.nxt ?_
      refine wp_cond_true (by kernel_rfl) ?_
      refine wp_skip ?_
      refine Wk.nxt ?_
      refine wp_seq ?_
      refine wp_block ?_
      refine Wk.reg ?_
      refine Wk.rPure 0 (some 12) (.slice A1 N c1) rfl rfl (by kernel_rfl) (by kernel_rfl) ?_
      refine Wk.rPure 1 (some 13) (.slice (some ⟨g_x, o_x, none⟩) n c) rfl rfl (by kernel_rfl) (by kernel_rfl) ?_
      refine Wk.rPure 2 (some 14) (.int .i64 ((i : Nat) : Int)) rfl rfl (by kernel_rfl) (by kernel_rfl) ?_
      refine Wk.rPure 3 (some 15) (.pointer (some ⟨g_x, o_x + i * 97, none⟩)) rfl rfl (by kernel_rfl) (Wk.index_sl 22 32 (.tmp 13) (.tmp 14) rfl Tryd.underlying22 97 (by kernel_rfl) g_x o_x n c i .i64 (by kernel_rfl) (by kernel_rfl) (by omega)) ?_
      refine Wk.rPure 4 (some 16) (.agg ((Mur.attC x.k x.r x.n x.t).toArray)) rfl rfl (by kernel_rfl) (Wk.loadR 32 (.tmp 15) rfl _ Tryd.underlying32 rfl g_x (o_x + i * 97) (by kernel_rfl) (Mur.attC x.k x.r x.n x.t) (by rw [Mur.attC_length x.hk x.hr x.ht]; kernel_rfl) ((Mur.SlA.chg hA_ HB (fun g off e hl => trivial)).elem hx)) ?_
      refine Wk.rCall 5 (some 17) 48 [.tmp 16] #[32] [.agg ((Mur.attC x.k x.r x.n x.t).toArray)] rfl rfl (by kernel_rfl) rfl (by kernel_rfl) (by kernel_rfl) ?_
      refine (Rbytes_any x.k x.r x.t x.n x.hk x.hr x.ht W2).mono ?_
      rintro _ W3 ⟨qr1, cr1, RB1, hRB1, rfl, hbr1, hq1, hq2, ch2⟩
      have zz2 := ch2.size
      have hBt1 : ∀ g off, (some ⟨qr1, 0, none⟩ : Option Addr) = some ⟨g, off, none⟩ → W2.heap.size ≤ g ∧ g < W3.heap.size := fun g off e => by cases e; exact hq1
      refine ⟨_, rfl, ?_⟩
      have ow1 := Mur.own8 (Wk.own_chg hO.own ch2 (fun q e _ _ => trivial))
      refine Wk.rEx 6 (some 18) _ rfl rfl (by kernel_rfl) (Mur.append8 (.tmp 12) (.tmp 17) 38 5 rfl Tryd.underlying38 (by kernel_rfl) w.heap.size A1 N c1 (Mur.rowL (L.take i)) (some ⟨qr1, 0, none⟩) 104 cr1 RB1 (by kernel_rfl) (by kernel_rfl) ow1.own hbr1 (fun h => by cases h) (by omega) (by omega) (N + 104) (by omega) ((Mur.rowL (L.take i)) ++ RB1) rfl) ?_
      rintro _ W4 ⟨AA1, nn1, rfl, ow2, ch3, ha1⟩
      have zz3 := ch3.size
      have hq3 := ow2.nc
      have hq4 := ow2.cm
      refine Wk.rPure 7 (some 3) (.slice AA1 (N + 104) nn1) rfl rfl (by kernel_rfl) (by kernel_rfl) ?_
      refine Wk.rEnd 8 rfl ?_
      refine Wk.inN ?_
      refine Wk.nxt ?_
      refine Wk.reg ?_
      refine Wk.rPure 0 (some 10) (.int .i64 ((i : Nat) : Int)) rfl rfl (by kernel_rfl) (by kernel_rfl) ?_
      refine Wk.rPure 1 (some 11) (.int .i64 ((i + 1 : Nat) : Int)) rfl rfl (by kernel_rfl) (Wk.int64 (n := ((i : Nat) : Int) + 1) (z := ((i + 1 : Nat) : Int)) (by omega) (by omega) (by omega) (by kernel_rfl)) ?_
      refine Wk.rPure 2 (some 4) (.int .i64 ((i + 1 : Nat) : Int)) rfl rfl (by kernel_rfl) (by kernel_rfl) ?_
      refine Wk.rEnd 3 rfl ?_
      refine Wk.nxt ?_
      have kk2 := Wk.Chg.step HB ch2 trivial
      have kk3 := Wk.Chg.step kk2 ch3 (Wk.newOr_blk (fun g hg => by have := hO.lt g hg; omega))
      refine ⟨_, ?_, i + 1, AA1, N + 104, nn1, rfl, by kernel_rfl, (by omega), (by rw [Mur.rowL_take_succ hx, show x.raw = RB1 from hRB1.out.symm]; exact ow2), kk3⟩
      · omega
    · rw [List.take_of_length_le (show L.length ≤ i by omega)] at hO
      refine wp_seq ?_
      refine wp_seq ?_
      refine Wk.reg ?_
      refine Wk.rPure 0 (some 6) (.int .i64 ((i : Nat) : Int)) rfl rfl (by kernel_rfl) (by kernel_rfl) ?_
      refine Wk.rPure 1 (some 7) (.slice A n c) rfl rfl (by kernel_rfl) (by kernel_rfl) ?_
      refine Wk.rPure 2 (some 8) (.int .i64 ((n : Nat) : Int)) rfl rfl (by kernel_rfl) (by kernel_rfl) ?_
      refine Wk.rPure 3 (some 9) (.bool false) rfl rfl (by kernel_rfl) (Wk.boolF (b := decide (((i : Nat) : Int) < ((n : Nat) : Int))) (decide_eq_false (by omega)) (by kernel_rfl)) ?_
      refine Wk.rEnd 4 rfl ?_
      refine Wk.nxt ?_
      refine wp_cond_false (by kernel_rfl) ?_
      refine wp_exit ?_
      refine Wk.thX ?_
      refine Wk.thX ?_
      refine Wk.inX ?_
      refine Wk.nxt ?_
      refine wp_seq ?_
      refine Wk.reg ?_
      refine Wk.rPure 0 (some 19) (.slice A1 N c1) rfl rfl (by kernel_rfl) (by kernel_rfl) ?_
      refine Wk.rPure 1 (some 2) (.slice A1 N c1) rfl rfl (by kernel_rfl) (by kernel_rfl) ?_
      refine Wk.rEnd 2 rfl ?_
      refine Wk.nxt ?_
      refine wp_ret ?_
      refine Wk.ret (.slice A1 N c1) rfl (by kernel_rfl) ?_
      exact ⟨_, _, _, rfl, hO, HB⟩
theorem Hnew_any (w : World) : Calls Tryd.prog 20 #[] w fun e w' => ∃ q hc kc, Hid (hc = stCells Mur.H0) ∧ Hid (kc = Mur.u32s Mur.K) ∧ e = .returned (.pointer (some ⟨q, 0, none⟩)) ∧ w'.heap[q]? = some (.cells (hc ++ kc) 97 (0, 0)) ∧ (w.heap.size ≤ q ∧ q < w'.heap.size) ∧ Wk.Chg [] w w' := by
  refine calls_of_wp Tryd.func20 rfl ?_
  refine wp_seq ?_
  refine Wk.reg ?_
  refine Wk.rPure 0 (some 0) (.pointer none) rfl rfl (by kernel_rfl) (by kernel_rfl) ?_
  refine Wk.rEnd 1 rfl ?_
  refine Wk.nxt ?_
  refine wp_seq ?_
  refine Wk.reg ?_
  refine Wk.rCall 0 (some 4) 47 [] #[] [] rfl rfl (by kernel_rfl) rfl (by kernel_rfl) (by kernel_rfl) ?_
  refine (words_var w).mono ?_
  rintro _ W1 ⟨hc, kc, Hh, Hk, rfl, hB1⟩
  have ch1 := Wk.Chg.ofBelow hB1
  have zz1 := ch1.size
  have hcs := hc_size Hh.out
  have kcs := kc_size Hk.out
  refine ⟨_, rfl, ?_⟩
  refine Wk.rPure 1 (some 3) (.tuple #[.agg hc, .agg kc]) rfl rfl (by kernel_rfl) (by kernel_rfl) ?_
  refine Wk.rPure 2 (some 5) (.agg hc) rfl rfl (by kernel_rfl) (by kernel_rfl) ?_
  refine Wk.rPure 3 (some 6) (.agg kc) rfl rfl (by kernel_rfl) (by kernel_rfl) ?_
  refine Wk.rEx 4 (some 1) _ rfl rfl (by kernel_rfl) (Wk.new_ex (.pointer (some ⟨W1.heap.size, 0, none⟩)) #[.int .u32 0, .int .u32 0, .int .u32 0, .int .u32 0, .int .u32 0, .int .u32 0, .int .u32 0, .int .u32 0] 92 (by kernel_rfl)) ?_
  rintro _ W2 ⟨rfl, hb1, ch2, sz1⟩
  have zz2 := ch2.size
  refine Wk.rEx 5 (some 2) _ rfl rfl (by kernel_rfl) (Wk.new_ex (.pointer (some ⟨W2.heap.size, 0, none⟩)) #[.int .u32 0, .int .u32 0, .int .u32 0, .int .u32 0, .int .u32 0, .int .u32 0, .int .u32 0, .int .u32 0, .int .u32 0, .int .u32 0, .int .u32 0, .int .u32 0, .int .u32 0, .int .u32 0, .int .u32 0, .int .u32 0, .int .u32 0, .int .u32 0, .int .u32 0, .int .u32 0, .int .u32 0, .int .u32 0, .int .u32 0, .int .u32 0, .int .u32 0, .int .u32 0, .int .u32 0, .int .u32 0, .int .u32 0, .int .u32 0, .int .u32 0, .int .u32 0, .int .u32 0, .int .u32 0, .int .u32 0, .int .u32 0, .int .u32 0, .int .u32 0, .int .u32 0, .int .u32 0, .int .u32 0, .int .u32 0, .int .u32 0, .int .u32 0, .int .u32 0, .int .u32 0, .int .u32 0, .int .u32 0, .int .u32 0, .int .u32 0, .int .u32 0, .int .u32 0, .int .u32 0, .int .u32 0, .int .u32 0, .int .u32 0, .int .u32 0, .int .u32 0, .int .u32 0, .int .u32 0, .int .u32 0, .int .u32 0, .int .u32 0, .int .u32 0] 93 (by kernel_rfl)) ?_
  rintro _ W3 ⟨rfl, hb2, ch3, sz2⟩
  have zz3 := ch3.size
  refine Wk.rExS 6 none _ rfl rfl (by kernel_rfl) (Mur.storeArr 92 (.tmp 1) (.tmp 5) rfl W1.heap.size (by kernel_rfl) hc 8 hcs.1 hcs.2 (by kernel_rfl) (by kernel_rfl) 92 #[.int .u32 0, .int .u32 0, .int .u32 0, .int .u32 0, .int .u32 0, .int .u32 0, .int .u32 0, .int .u32 0] (Wk.Chg.hp ch3 hb1 trivial) (by kernel_rfl)) ?_
  rintro W4 ⟨hb3, ch4⟩
  have zz4 := ch4.size
  refine Wk.rExS 7 none _ rfl rfl (by kernel_rfl) (Mur.storeArr 93 (.tmp 2) (.tmp 6) rfl W2.heap.size (by kernel_rfl) kc 64 kcs.1 kcs.2 (by kernel_rfl) (by kernel_rfl) 93 #[.int .u32 0, .int .u32 0, .int .u32 0, .int .u32 0, .int .u32 0, .int .u32 0, .int .u32 0, .int .u32 0, .int .u32 0, .int .u32 0, .int .u32 0, .int .u32 0, .int .u32 0, .int .u32 0, .int .u32 0, .int .u32 0, .int .u32 0, .int .u32 0, .int .u32 0, .int .u32 0, .int .u32 0, .int .u32 0, .int .u32 0, .int .u32 0, .int .u32 0, .int .u32 0, .int .u32 0, .int .u32 0, .int .u32 0, .int .u32 0, .int .u32 0, .int .u32 0, .int .u32 0, .int .u32 0, .int .u32 0, .int .u32 0, .int .u32 0, .int .u32 0, .int .u32 0, .int .u32 0, .int .u32 0, .int .u32 0, .int .u32 0, .int .u32 0, .int .u32 0, .int .u32 0, .int .u32 0, .int .u32 0, .int .u32 0, .int .u32 0, .int .u32 0, .int .u32 0, .int .u32 0, .int .u32 0, .int .u32 0, .int .u32 0, .int .u32 0, .int .u32 0, .int .u32 0, .int .u32 0, .int .u32 0, .int .u32 0, .int .u32 0, .int .u32 0] (Wk.Chg.hp ch4 hb2 ⟨by omega, trivial⟩) (by kernel_rfl)) ?_
  rintro W5 ⟨hb4, ch5⟩
  have zz5 := ch5.size
  refine Wk.rEnd 8 rfl ?_
  refine Wk.nxt ?_
  refine wp_seq ?_
  refine Wk.reg ?_
  refine Wk.rPure 0 (some 7) (.agg hc) rfl rfl (by kernel_rfl) (Mur.loadArr 92 (.tmp 1) rfl _ Tryd.underlying92 rfl W1.heap.size (by kernel_rfl) hc 8 hcs.1 (by kernel_rfl) 92 (0, 0) (Wk.Chg.hp ch5 hb3 ⟨by omega, trivial⟩)) ?_
  refine Wk.rPure 1 (some 8) (.agg kc) rfl rfl (by kernel_rfl) (Mur.loadArr 93 (.tmp 2) rfl _ Tryd.underlying93 rfl W2.heap.size (by kernel_rfl) kc 64 kcs.1 (by kernel_rfl) 93 (0, 0) hb4) ?_
  refine Wk.rPure 2 (some 9) (.agg (hc ++ kc)) rfl rfl (by kernel_rfl) (Mur.run_built 97 _ rfl [(0, .agg hc), (1, .agg kc)] (by kernel_rfl) _ (built_hash hcs.1 kcs.1)) ?_
  refine Wk.rEx 3 (some 10) _ rfl rfl (by kernel_rfl) (Wk.new_ex (.pointer (some ⟨W5.heap.size, 0, none⟩)) (hc ++ kc) 97 (by kernel_rfl)) ?_
  rintro _ W6 ⟨rfl, hb5, ch6, sz3⟩
  have zz6 := ch6.size
  refine Wk.rPure 4 (some 0) (.pointer (some ⟨W5.heap.size, 0, none⟩)) rfl rfl (by kernel_rfl) (by kernel_rfl) ?_
  refine Wk.rEnd 5 rfl ?_
  refine Wk.nxt ?_
  refine wp_ret ?_
  have kk1 : Wk.Chg [] w W1 := Wk.Chg.step ((Wk.Chg.refl _).more (by simp)) ch1 trivial
  have kk2 := Wk.Chg.step kk1 ch2 trivial
  have kk3 := Wk.Chg.step kk2 ch3 trivial
  have kk4 := Wk.Chg.step kk3 ch4 ⟨.inr (by omega), trivial⟩
  have kk5 := Wk.Chg.step kk4 ch5 ⟨.inr (by omega), trivial⟩
  have kk6 := Wk.Chg.step kk5 ch6 trivial
  refine Wk.ret (.pointer (some ⟨W5.heap.size, 0, none⟩)) rfl (by kernel_rfl) ?_
  exact ⟨_, _, _, Hh, Hk, rfl, hb5, ⟨by omega, (Array.getElem?_eq_some_iff.1 hb5).1⟩, kk6⟩
theorem Hsum_any (hc kc : Array Value) (Hh : Hid (hc = stCells Mur.H0)) (Hk : Hid (kc = Mur.u32s Mur.K)) (g : Nat) (l : List UInt8) (A : Option Addr) (n c : Nat) (w : World) (hp : w.heap[g]? = some (.cells (hc ++ kc) 97 (0, 0))) (hb : Byt w A n l) (hnc : n ≤ c) (hnil : A = none → c = 0) (hn : n ≤ 140737488351232) : Calls Tryd.prog 22 #[.pointer (some ⟨g, 0, none⟩), .slice A n c] w fun e w' => ∃ d, Hid (d = Mur.sha l) ∧ d.length = 32 ∧ e = .returned (.agg (b8s d).toArray) ∧ Wk.Chg [] w w' := by
  have hcs := hc_size Hh.out
  have kcs := kc_size Hk.out
  have hg_ := (Array.getElem?_eq_some_iff.1 hp).1
  refine calls_of_wp Tryd.func22 rfl ?_
  refine wp_seq ?_
  refine Wk.reg ?_
  refine Wk.rEx 0 (some 4) _ rfl rfl (by kernel_rfl) (Wk.new_ex (.pointer (some ⟨w.heap.size, 0, none⟩)) #[.int .u8 0, .int .u8 0, .int .u8 0, .int .u8 0, .int .u8 0, .int .u8 0, .int .u8 0, .int .u8 0, .int .u8 0, .int .u8 0, .int .u8 0, .int .u8 0, .int .u8 0, .int .u8 0, .int .u8 0, .int .u8 0, .int .u8 0, .int .u8 0, .int .u8 0, .int .u8 0, .int .u8 0, .int .u8 0, .int .u8 0, .int .u8 0, .int .u8 0, .int .u8 0, .int .u8 0, .int .u8 0, .int .u8 0, .int .u8 0, .int .u8 0, .int .u8 0] 30 (by kernel_rfl)) ?_
  rintro _ W1 ⟨rfl, hb1, ch1, sz1⟩
  have zz1 := ch1.size
  refine Wk.rEnd 1 rfl ?_
  refine Wk.nxt ?_
  refine wp_seq ?_
  refine Wk.dReg ([w.heap.size]) (by kernel_rfl) ?_
  intro W2 ch2 sz2
  have zz2 := ch2.size
  have sS1 : Wk.Chg ([w.heap.size]) W2 W2 := (Wk.Chg.refl _).more (by simp)
  refine Wk.dVal 0 (some 5) (.pointer (some ⟨g, 0, none⟩)) rfl rfl (by kernel_rfl) (by kernel_rfl) (by kernel_rfl) (fun _ _ _ h => h) (by kernel_rfl) (fun w' hw' => by kernel_rfl) sS1 ?_
  refine Wk.dVal 1 (some 6) (.pointer (some ⟨g, 0, none⟩)) rfl rfl (by kernel_rfl) (by kernel_rfl) (by kernel_rfl) (fun _ _ _ h => h) (by kernel_rfl) (fun w' hw' => by kernel_rfl) sS1 ?_
  refine Wk.dVal 2 (some 7) (.pointer (some ⟨g, 0, none⟩)) rfl rfl (by kernel_rfl) (by kernel_rfl) (by kernel_rfl) (fun _ _ _ h => h) (by kernel_rfl) (fun w' hw' => by kernel_rfl) sS1 ?_
  have kk1 : Wk.Chg [] w W1 := Wk.Chg.step ((Wk.Chg.refl _).more (by simp)) ch1 trivial
  have kk2 := Wk.Chg.step kk1 ch2 trivial
  refine Wk.dVal 3 (some 8) (.agg hc) rfl rfl (by kernel_rfl) (by kernel_rfl) (by kernel_rfl) (fun _ _ _ h => h) (by kernel_rfl) (fun w' hw' => (Wk.loadR 92 (.tmp 7) rfl _ Tryd.underlying92 rfl g 0 (by kernel_rfl) hc.toList (by rw [Array.length_toList, hcs.1]; kernel_rfl) (Wk.range_sub 0 hc.toList (Wk.Chg.hp hw' (Wk.Chg.hp kk2 hp trivial) ⟨by omega, trivial⟩) (Mur.hk_left hc kc)))) sS1 ?_
  refine Wk.dVal 4 (some 9) (.pointer (some ⟨g, 0, none⟩)) rfl rfl (by kernel_rfl) (by kernel_rfl) (by kernel_rfl) (fun _ _ _ h => h) (by kernel_rfl) (fun w' hw' => by kernel_rfl) sS1 ?_
  refine Wk.dVal 5 (some 10) (.pointer (some ⟨g, 0, none⟩)) rfl rfl (by kernel_rfl) (by kernel_rfl) (by kernel_rfl) (fun _ _ _ h => h) (by kernel_rfl) (fun w' hw' => by kernel_rfl) sS1 ?_
  refine Wk.dVal 6 (some 11) (.pointer (some ⟨g, 8, none⟩)) rfl rfl (by kernel_rfl) (by kernel_rfl) (by kernel_rfl) (fun _ _ _ h => h) (by kernel_rfl) (fun w' hw' => by kernel_rfl) sS1 ?_
  refine Wk.dVal 7 (some 12) (.agg kc) rfl rfl (by kernel_rfl) (by kernel_rfl) (by kernel_rfl) (fun _ _ _ h => h) (by kernel_rfl) (fun w' hw' => (Wk.loadR 93 (.tmp 11) rfl _ Tryd.underlying93 rfl g 8 (by kernel_rfl) kc.toList (by rw [Array.length_toList, kcs.1]; kernel_rfl) (Wk.range_sub 8 kc.toList (Wk.Chg.hp hw' (Wk.Chg.hp kk2 hp trivial) ⟨by omega, trivial⟩) (Mur.hk_right hcs.1)))) sS1 ?_
  refine Wk.dVal 8 (some 13) (.slice A n c) rfl rfl (by kernel_rfl) (by kernel_rfl) (by kernel_rfl) (fun _ _ _ h => h) (by kernel_rfl) (fun w' hw' => by kernel_rfl) sS1 ?_
  refine Wk.dOp 9 (by kernel_rfl) ?_
  refine Wk.oCall (some 14) 49 [.tmp 8, .tmp 12, .tmp 13] #[92, 93, 38] [.agg hc, .agg kc, .slice A n c] rfl rfl (by kernel_rfl) rfl (by kernel_rfl) (by kernel_rfl) ?_
  refine (Rsum_var hc kc Hh Hk l A n c W2 (Mur.byt_chg hb kk2 (fun g off e hl => trivial)) (by omega) hnil (by omega)).mono ?_
  rintro _ W3 ⟨dd1, hd1, hdl1, rfl, hB1⟩
  have ch3 := Wk.Chg.ofBelow hB1
  have zz3 := ch3.size
  have sS2 := Wk.Chg.step sS1 ch3 trivial
  refine ⟨_, rfl, sS2, ?_⟩
  refine Wk.dOp 10 (by kernel_rfl) ?_
  refine Wk.oExS none _ rfl rfl (by kernel_rfl) (Mur.storeAll 30 (.tmp 4) (.tmp 14) rfl w.heap.size (by kernel_rfl) dd1 32 hdl1 (by kernel_rfl) (by kernel_rfl) 30 #[.int .u8 0, .int .u8 0, .int .u8 0, .int .u8 0, .int .u8 0, .int .u8 0, .int .u8 0, .int .u8 0, .int .u8 0, .int .u8 0, .int .u8 0, .int .u8 0, .int .u8 0, .int .u8 0, .int .u8 0, .int .u8 0, .int .u8 0, .int .u8 0, .int .u8 0, .int .u8 0, .int .u8 0, .int .u8 0, .int .u8 0, .int .u8 0, .int .u8 0, .int .u8 0, .int .u8 0, .int .u8 0, .int .u8 0, .int .u8 0, .int .u8 0, .int .u8 0] (Wk.Chg.hp ch3 (Wk.Chg.hp ch2 hb1 trivial) trivial) rfl) ?_
  rintro W4 ⟨hb2, ch4⟩
  have zz4 := ch4.size
  have sS3 := Wk.Chg.step sS2 ch4 ⟨.inl (by simp), trivial⟩
  refine ⟨sS3, ?_⟩
  refine Wk.dEnd (by kernel_rfl) ?_
  refine Wk.nxt ?_
  refine wp_ret ?_
  have kk3 := Wk.Chg.step kk2 ch3 trivial
  have kk4 := Wk.Chg.step kk3 ch4 ⟨.inr (by omega), trivial⟩
  refine Wk.ret (.agg (b8s dd1).toArray) rfl (results_cell_row rfl _ _ w.heap.size 30 (b8s dd1).toArray (0, 0) _ (by kernel_rfl) hb2 Tryd.underlying30 rfl (by rw [List.size_toArray, Mur.b8s_length, hdl1]; kernel_rfl)) ?_
  exact ⟨_, hd1, hdl1, rfl, kk4⟩
end Go.Proofs.YtfhneademopciaaDoor
