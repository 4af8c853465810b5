/- Messages in a slice of one's own, all of them lying in blocks of one's own. No program in sight. Regions that draw their order, within the round of a range over a function. No program in sight. gossip: items. What is said to a summary, case by case; what is learned. No program in sight. -/
import Derived.Test.YtfhneademopciaaDoorPQ8
import Derived.Test.YtfhneademopciaaDoorPQ3
namespace Mur
open Go Go.RowKit Wk
def MsgA (w : World) (base e : Nat) (A : Option Addr) (n c : Nat) (M : List Msg) : Prop :=
  ∃ R : List Raw, OwnR w base e 37 A n c (R.map Raw.C) ∧ RawsOk w R M ∧ ∀ q, q ∈ subsL R → base ≤ q ∧ (Value.slice A n c).ownBlock ≠ some q
section
variable {w w' : World} {base base' e n c : Nat} {A : Option Addr} {M : List Msg}
theorem msgA_nil (w : World) (base e : Nat) : MsgA w base e none 0 0 [] := ⟨[], ownR_nil _ _ _ (by decide), trivial, fun q hq => by simp [subsL] at hq⟩
theorem MsgA.len (h : MsgA w base e A n c M) : M.length = n := by
  obtain ⟨R, h1, h2, _⟩ := h
  rw [← h2.length, ← h1.len, List.length_map]
theorem MsgA.nc (h : MsgA w base e A n c M) : n ≤ c := let ⟨_, h1, _⟩ := h; h1.nc
theorem MsgA.cm (h : MsgA w base e A n c M) : c ≤ maxLen := let ⟨_, h1, _⟩ := h; h1.cm
theorem MsgA.nil (h : MsgA w base e A n c M) : A = none → c = 0 := let ⟨_, h1, _⟩ := h; h1.nil
theorem MsgA.at_ (h : MsgA w base e A n c M) : ∀ g off, A = some ⟨g, off, none⟩ → base ≤ g ∧ g < w.heap.size := let ⟨_, h1, _⟩ := h; h1.at_
theorem MsgA.lt (h : MsgA w base e A n c M) : ∀ k, (Value.slice A n c).ownBlock = some k → base ≤ k ∧ k < w.heap.size := let ⟨_, h1, _⟩ := h; h1.lt
theorem MsgA.cells (h : MsgA w base e A n c M) {k : Nat} (hk : (Value.slice A n c).ownBlock = some k) : ∃ o : Obj, w.heap[k]? = some o ∧ o.isCells = true := let ⟨_, h1, _⟩ := h; h1.cells k hk
theorem MsgA.chg {T : List Nat} (h : MsgA w base e A n c M) (ch : Chg T w w') (ho : ∀ q, base ≤ q → q < w.heap.size → (∃ o : Obj, w.heap[q]? = some o ∧ o.isCells = true) → Off q T) : MsgA w' base e A n c M := by
  obtain ⟨R, h1, h2, h3⟩ := h
  exact ⟨R, h1.chg (by decide) ch fun g hg hb hl => ho g hb hl (h1.cells g hg), h2.chg ch fun q hq => ho q (h3 q hq).1 (h2.lt q hq) (h2.cells q hq), h3⟩
theorem MsgA.low (h : MsgA w base e A n c M) (hb : base' ≤ base) : MsgA w base' e A n c M := by
  obtain ⟨R, h1, h2, h3⟩ := h
  exact ⟨R, ownR (own_le h1.own hb) h1.szd (by decide), h2, fun q hq => ⟨Nat.le_trans hb (h3 q hq).1, (h3 q hq).2⟩⟩
theorem pblk_own {q : Nat} (h : q ∈ pblk A n) : 0 < n ∧ ∃ a, A = some a ∧ a.block = q := by
  unfold pblk at h
  by_cases hn : n = 0
  · rw [if_pos hn] at h
    cases h
  · rw [if_neg hn] at h
    rcases A with _ | a
    · cases h
    · exact ⟨by omega, a, rfl, (List.mem_singleton.1 h).symm⟩
/-- The message that is k-th. -/
theorem MsgA.row (h : MsgA w base e A n c M) {i : Nat} {m : Msg} (hm : M[i]? = some m) : ∃ r g off, A = some ⟨g, off, none⟩ ∧ w.rangeAt g (off + i * 37) r.C ∧ RawOk w r m ∧ (base ≤ g ∧ g < w.heap.size) ∧ ∀ q, q ∈ r.subs → base ≤ q ∧ q < w.heap.size := by
  obtain ⟨R, h1, h2, h3⟩ := h
  have hl := h2.length
  obtain ⟨hi, _⟩ := List.getElem?_eq_some_iff.1 hm
  have hr : R[i]? = some R[i] := List.getElem?_eq_getElem (by omega)
  obtain ⟨m', e1, e2⟩ := h2.at hr
  rw [hm] at e1
  cases e1
  obtain ⟨g, off, e3, e4⟩ := h1.slR.row (i := i) (r := R[i].C) (by rw [List.getElem?_map, hr]; rfl) (by decide)
  refine ⟨R[i], g, off, e3, e4, e2, h1.at_ g off e3, fun q hq => ⟨(h3 q ?_).1, e2.subs_lt q hq⟩⟩
  exact List.mem_flatMap.2 ⟨R[i], List.getElem_mem _, hq⟩
/-- One message, just built. -/
theorem msgA_one {g : Nat} {r : Raw} {m : Msg} (h : w.heap[g]? = some (.cells r.C.toArray e (0, 0))) (hr : RawOk w r m) (hb : base ≤ g) (hs : ∀ q, q ∈ r.subs → base ≤ q ∧ q ≠ g) : MsgA w base e (some ⟨g, 0, none⟩) 1 1 [m] := by
  refine ⟨[r], ownR ⟨?_, .inr ⟨g, 1, r.C.toArray, rfl, hb, h, Nat.le_refl _, by unfold maxLen; omega, ?_, ?_⟩⟩ (raw_sized [r]) (by decide), ⟨hr, trivial⟩, fun q hq => ?_⟩
  · rw [List.map_singleton]
    show (flatR [r.C]).length = _
    simp [flatR, Raw.C, msgC_length r.hs]
  · show r.C.length = _
    rw [Raw.C, msgC_length r.hs]
  · show r.C.take _ = _
    simp [flatR, Raw.C]
    rw [List.take_of_length_le (by rw [msgC_length r.hs]; omega)]
  · rw [subsL_one] at hq
    refine ⟨(hs q hq).1, fun e1 => (hs q hq).2 ?_⟩
    simpa [Value.ownBlock] using e1.symm
-- messages as they are built
section
variable {b1 b2 e1 e2 pn pc an ac : Nat} {P Q : Option Addr} {p : List UInt8} {L : List Att}
theorem subs_own (hP : Own8 w b1 e1 P pn pc p) (hQ : OwnA w b2 e2 Q an ac L) {kd : UInt8} {s : List UInt8} {k : Int} {b : Bool} (hs : s.length = 32) : ∀ q, q ∈ (Raw.mk kd P pn pc s k Q an ac b hs).subs → (b1 ≤ q ∨ b2 ≤ q) ∧ q < w.heap.size := fun q hq => by
  rcases List.mem_append.1 hq with hq | hq
  · obtain ⟨hn, a, rfl, rfl⟩ := pblk_own hq
    obtain ⟨g, off, e0, _⟩ := hP.byt.2 hn
    cases e0
    have := hP.at_ g off rfl
    exact ⟨.inl this.1, this.2⟩
  · obtain ⟨hn, a, rfl, rfl⟩ := pblk_own hq
    obtain ⟨g, e0, k1, k2⟩ := hQ.ex hn
    cases e0
    exact ⟨.inr k1, k2⟩
theorem subs_own1 (hP : Own8 w b1 e1 P pn pc p) {kd : UInt8} {s : List UInt8} {k : Int} {b : Bool} (hs : s.length = 32) : ∀ q, q ∈ (Raw.mk kd P pn pc s k none 0 0 b hs).subs → b1 ≤ q ∧ q < w.heap.size := fun q hq => by
  have := subs_own (b2 := b1) (e2 := 0) hP (ownA_nil w b1 0) hs q hq
  omega
theorem rawok_items (hP : Own8 w b1 e1 P pn pc p) (hQ : OwnA w b2 e2 Q an ac L) (b : Bool) : RawOk w ⟨2, P, pn, pc, z32, 0, Q, an, ac, b, rfl⟩ ⟨2, p, z32, 0, L, b⟩ :=
  ⟨rfl, rfl, rfl, rfl, hP.byt, hQ.sl, hP.nil, hQ.nil, ⟨hQ.nc, Nat.le_trans hQ.cm (by unfold maxLen; omega)⟩, hP.nc, Nat.le_trans hP.cm (by unfold maxLen; omega)⟩
end
end
section
variable {P : Program} {w : World} {a : Act} {o : Oper}
/-- append of a message. -/
theorem appendM (s x : Operand) (t e : TypeId) (ho : o.op = .call { callee := .builtin .append, args := #[s, x], argTypes := #[t, t] }) (ht : P.underlying t = some (.slice e)) (hinfo : (P.info? e).map (fun i => (i.zero, i.size, i.bytes)) = some (some (.agg msgZ.toArray), 37, 104))
    (base : Nat) (A0 : Option Addr) (n c0 : Nat) (M : List Msg) (g : Nat) (r : Raw) (m : Msg) (hs : a.eval s = .slice A0 n c0) (hx : a.eval x = .slice (some ⟨g, 0, none⟩) 1 1) (H : MsgA w base e A0 n c0 M) (hg : w.heap[g]? = some (.cells r.C.toArray e (0, 0))) (hr : RawOk w r m)
    (hsub : ∀ q, q ∈ r.subs → base ≤ q ∧ (Value.slice A0 n c0).ownBlock ≠ some q) (hbase : base ≤ w.heap.size) (hl : n + 1 ≤ 1000000) :
    ∃ v1 w1, (execOp a.eval o).run P w = .ok (.value v1) w1 ∧ ∃ A1 c1, v1 = .slice A1 (n + 1) c1 ∧ MsgA w1 base e A1 (n + 1) c1 (M ++ [m]) ∧ Chg (blk (.slice A0 n c0)) w w1 := by
  obtain ⟨R, h1, h2, h3⟩ := H
  obtain ⟨v1, w1, q1, A1, c1, q2, q3, q4, q5⟩ := appendR (P := P) s x t e ho ht _ 37 104 hinfo rfl (by decide) (by decide) base A0 n c0 (R.map Raw.C) (some ⟨g, 0, none⟩) 1 1 [r.C] hs hx h1 (slR_box (msgC_length r.hs) msgC_one hg) (fun h => by cases h) hbase hl (n + 1) rfl
  have hsl : ∀ q, q ∈ subsL (R ++ [r]) → base ≤ q ∧ q < w.heap.size ∧ (Value.slice A0 n c0).ownBlock ≠ some q := fun q hq => by
    rw [subsL_append, subsL_one] at hq
    rcases List.mem_append.1 hq with hq | hq
    · exact ⟨(h3 q hq).1, h2.lt q hq, (h3 q hq).2⟩
    · exact ⟨(hsub q hq).1, hr.subs_lt q hq, (hsub q hq).2⟩
  have hok : RawsOk w (R ++ [r]) (M ++ [m]) := h2.snoc hr
  refine ⟨v1, w1, q1, A1, c1, q2, ⟨R ++ [r], ?_, hok.chg q4 fun q hq => off_blk fun k hk => fun e1 => ?_, fun q hq => ⟨(hsl q hq).1, fun e1 => ?_⟩⟩, q4⟩
  · rw [List.map_append]
    exact q3
  · exact (hsl q hq).2.2 (e1 ▸ hk)
  · rcases q5 q e1 with k | k
    · exact (hsl q hq).2.2 k
    · have := (hsl q hq).2.1
      omega
end
end Mur
namespace Wk
open Go
/-- The ways out by a panic, or by what is too large, shut. -/
def shut (Q : Exit → Act → World → Prop) : Exit → Act → World → Prop
  | .panic _, _, _ => False
  | .outgrown, _, _ => False
  | e, a, w => Q e a w
section
variable {r : Option Nat} {P : Program} {ops : Array Oper} {Q : Exit → Act → World → Prop} {a : Act} {w : World} {S : World → Prop}
theorem shut_le {e : Exit} (h : shut Q e a w) : Q e a w := by
  cases e with
  | panic _ => exact h.elim
  | outgrown => exact h.elim
  | _ => exact h
theorem shut_no : ¬ LetsOut (shut Q) := fun ⟨_, _, h⟩ => h
theorem rows_wf {row : String} {args : Array Value} {R : Value → World → Prop} (h : Rows P row args w R) : RowsIn (WF r) 0 P row args w R :=
  fun c cs _ => let ⟨v, w', k, s⟩ := h c cs; ⟨v, w', k, stepsIn_wide.2 s⟩
theorem opsIn_of (hno : ¬ LetsOut Q) (hd : ops.all (fun o => noDefer o.op) = true) : ∀ (l : List Nat) (a : Act) (w : World), wpOps P ops Q l a w → wpOpsIn (WF r) 0 P ops Q l a w
  | [], _, _, h => h
  | i :: l, a, w, h => by
    unfold wpOps at h
    unfold wpOpsIn
    cases ho : ops[i]? with
    | none =>
      simp only [ho] at h ⊢
      exact opsIn_of hno hd l a w h
    | some o =>
      simp only [ho] at h ⊢
      have hn : noDefer o.op = true := (Array.all_eq_true_iff_forall_mem.1 hd) o (Array.mem_of_getElem? ho)
      by_cases hw : Region.wanted o (yielded ops a.tmps) = true
      · rw [if_pos hw] at h ⊢
        rcases h with h | ⟨_, h⟩
        · refine ⟨fun _ _ => trivial, ?_⟩
          rw [semAt_any hn]
          unfold Oper.wp at h
          generalize (execOp a.eval o).run P w = x at h ⊢
          cases x with
          | ok x w1 =>
            cases x with
            | value v => exact opsIn_of hno hd l _ _ h
            | skip => exact opsIn_of hno hd l _ _ h
            | defer d => exact opsIn_of hno hd l _ _ h
            | enter f args =>
              refine ⟨fun h => (by cases h), calls_wf (Calls.mono h ?_)⟩
              intro e w2 k
              cases e with
              | returned v => exact opsIn_of hno hd l _ _ k
              | panicked c => exact k
              | outgrown => exact k
            | row row args => exact ⟨fun h => (by cases h), rows_wf (Rows.mono h fun v w2 k => opsIn_of hno hd l _ _ k)⟩
            | _ => exact h.elim
          | halt x w1 =>
            cases x with
            | panic v => exact h
            | _ => exact h.elim
        · exact absurd h hno
      · rw [if_neg hw] at h ⊢
        exact ⟨fun _ _ => trivial, opsIn_of hno hd l _ _ h⟩
theorem dRegI {id : Nat} (S : List Nat) (hm : P.follows .mixedOrders = true) (hd : ops.all (fun o => noDefer o.op) = true)
    (h : ∀ w1, Chg [] w w1 → w1.heap.size = w.heap.size → wpAnyH P .any ops (shut Q) (fun w' => Chg S w1 w') ops.size (Array.replicate ops.size false) a w1) : (Code.region id ops true).wpIn (WF r) 0 P Q a w := by
  refine wpIn_mono (wpIn_region_draw (Q := shut Q) fun t => opsIn_of shut_no hd _ _ _ ?_) fun e a w k => shut_le k
  simp only [Region.schedule, hm, Bool.true_or, if_true]
  exact wpAny_sound ops.size t _ a _ (wpAny_of_held _ _ _ _ (h w.drew (Chg.drew w) rfl))
theorem dEndI {fuel : Nat} {listed : Array Bool} (hr : Region.ready .any ops listed = []) (h : Q .normal a w) : wpAnyH P .any ops (shut Q) S fuel listed a w := wpAnyH_done (Q := shut Q) hr h _
end
end Wk
namespace Go.Proofs.YtfhneademopciaaDoor
open Go.RowKit
open Mur (b8s Byt Own8 Seg Segs flat cutA attC Att SlA OwnA rowA msgC)
set_option maxRecDepth 100000
set_option maxHeartbeats 4000000
theorem items_any (p : List UInt8) (PA : Option Addr) (pn pc : Nat) (A : Option Addr) (n0 c0 : Nat) (L : List Att) (b : Bool) (w : World) (hb : Byt w PA pn p) (hnil : PA = none → pc = 0) (hpn : pn ≤ 1000) (hl : SlA w A n0 L) (hnc : n0 ≤ c0 ∧ n0 ≤ 1000 ∧ c0 ≤ 9223372036854775807) : Calls Tryd.prog 57 #[.slice PA pn pc, .slice A n0 c0, .bool b] w fun e w' => ∃ A1 n1 c1, e = .returned (.slice A1 n1 c1) ∧ Mur.MsgA w' w.heap.size 66 A1 n1 c1 (Mur.itemsM p L b) ∧ Wk.Chg [] w w' := by
  have hlL_ := hl.len
  rcases Nat.eq_zero_or_pos n0 with h0_ | h0_
  · subst h0_
    refine Wk.calls_of_wpM Tryd.func57 rfl ?_
    refine Wk.noP ?_
    refine wp_seq ?_
    refine Wk.reg ?_
    refine Wk.rEx 0 (some 3) _ rfl rfl (by kernel_rfl) (Wk.new_ex (.pointer (some ⟨w.heap.size, 0, none⟩)) #[.slice PA pn pc] 38 (by kernel_rfl)) ?_
    rintro _ W1 ⟨rfl, hb1, ch1, sz1⟩
    have zz1 := ch1.size
    refine Wk.rEx 1 (some 5) _ rfl rfl (by kernel_rfl) (Wk.new_ex (.pointer (some ⟨W1.heap.size, 0, none⟩)) #[.bool b] 4 (by kernel_rfl)) ?_
    rintro _ W2 ⟨rfl, hb2, ch2, sz2⟩
    have zz2 := ch2.size
    refine Wk.rEx 2 (some 6) _ rfl rfl (by kernel_rfl) (Wk.new_ex (.pointer (some ⟨W2.heap.size, 0, none⟩)) #[.slice none 0 0] 67 (by kernel_rfl)) ?_
    rintro _ W3 ⟨rfl, hb3, ch3, sz3⟩
    have zz3 := ch3.size
    refine Wk.rEnd 3 rfl ?_
    refine Wk.nxt ?_
    refine wp_seq ?_
    refine wp_seq ?_
    refine Wk.reg ?_
    refine Wk.rPure 0 (some 8) (.slice A 0 c0) rfl rfl (by kernel_rfl) (by kernel_rfl) ?_
    refine Wk.rCall 1 (some 9) 78 [.tmp 8, .const (.int .i64 8)] #[22, 3] [.slice A 0 c0, .int .i64 8] rfl rfl (by kernel_rfl) rfl (by kernel_rfl) (by kernel_rfl) ?_
    refine (Chunk_any A 0 c0 W3).mono ?_
    rintro _ W4 ⟨bq1, bq2, rfl, hbq1, hbq2, hzq1, hzq2, hzq3, ch4⟩
    have zz4 := ch4.size
    refine ⟨_, rfl, ?_⟩
    refine Wk.rEnd 2 rfl ?_
    refine Wk.nxt ?_
    refine wp_block ?_
    have kk1 : Wk.Chg [] w W1 := Wk.Chg.step ((Wk.Chg.refl _).more (by simp)) ch1 trivial
    have kk2 := Wk.Chg.step kk1 ch2 trivial
    have kk3 := Wk.Chg.step kk2 ch3 trivial
    have kk4 := Wk.Chg.step kk3 ch4 trivial
    have hseq1 := chunk_seq0 A c0 bq1 bq2 W4 (Mur.encC 0 0 0) hbq1 hbq2
    have hFw := hseq1.1
    have hFb_ : ∀ k_, k_ ∈ [bq1, bq2] → k_ ≠ W2.heap.size := fun k_ hk_ => by
      simp only [List.mem_cons, List.not_mem_nil, or_false] at hk_
      rcases hk_ with rfl | rfl <;> omega
    refine Wk.range (hseq1) (by kernel_rfl) (fun _ _ => by kernel_rfl) (fun x => rfl) (fun pre W' => ∃ A n c, W'.heap[W2.heap.size]? = some (.cells #[.slice A n c] 67 (0, 0)) ∧ Mur.MsgA W' W4.heap.size 66 A n c (pre.map (Mur.chunkM p L b)) ∧ Wk.Chg [W2.heap.size] W4 W' ∧ W'.heap[w.heap.size]? = some (.cells #[.slice PA pn pc] 38 (0, 0)) ∧ W'.heap[W1.heap.size]? = some (.cells #[.bool b] 4 (0, 0))) ?_ ?_ ?_ ?_ ?_
    · rintro pre A1_ A2_ ⟨A, n, c, h1, h2, h3, hE0, hE1⟩ hc
      exact ⟨A, n, c, hc.hp h1 trivial, h2.chg hc (fun _ _ _ _ => trivial), h3.step hc trivial, hc.hp hE0 trivial, hc.hp hE1 trivial⟩
    · rintro pre A1_ A2_ r_ o_ ⟨A, n, c, h1, h2, h3, hE0, hE1⟩ hr ho hoc hc
      exact ⟨A, n, c, hc.hp h1 ⟨Mur.cells_ne h1 ho hoc, trivial⟩, h2.chg hc (fun q _ _ k_ => ⟨Mur.off_noncells ho hoc k_, trivial⟩), h3.step hc ⟨.inr hr, trivial⟩, hc.hp hE0 ⟨Mur.cells_ne hE0 ho hoc, trivial⟩, hc.hp hE1 ⟨Mur.cells_ne hE1 ho hoc, trivial⟩⟩
    · exact ⟨none, 0, 0, (Wk.Chg.hp ch4 hb3 trivial), Mur.msgA_nil _ _ _, (Wk.Chg.refl _).more (by simp), (Wk.Chg.hp ch4 (Wk.Chg.hp ch3 (Wk.Chg.hp ch2 hb1 trivial) trivial) trivial), (Wk.Chg.hp ch4 (Wk.Chg.hp ch3 hb2 trivial) trivial)⟩
    · intro lz pre x post A1 hsp hI hwl hlA hlz
      exact absurd hsp (by simp)
    · intro D W9 hI hwD hKD
      obtain ⟨A, n, c, hIp, hIo, hIc, hE0, hE1⟩ := hI
      have hlhE0_ := (Array.getElem?_eq_some_iff.1 hE0).1
      have hlhE1_ := (Array.getElem?_eq_some_iff.1 hE1).1
      have hzI_ := hIc.size
      have hIlen := hIo.len
      have hInc := hIo.nc
      have hbl_ := (Array.getElem?_eq_some_iff.1 hIp).1
      have hbD := Mur.cells_ne hIp hKD rfl
      have hDl := (Array.getElem?_eq_some_iff.1 hKD).1
      have hbDhE0 := Mur.cells_ne hE0 hKD rfl
      have hbDhE1 := Mur.cells_ne hE1 hKD rfl
      have hW9 : Wk.Chg [] w W9 := Wk.Chg.step kk4 hIc ⟨.inr (by omega), trivial⟩
      refine Wk.inN ?_
      refine Wk.nxt ?_
      refine wp_seq ?_
      refine Wk.reg ?_
      refine Wk.rPure 0 (some 20) (.slice A n c) rfl rfl (by kernel_rfl) (Wk.load1 67 (.tmp 6) rfl (by kernel_rfl) ⟨W2.heap.size, 0, none⟩ (by kernel_rfl) (.slice A n c) ((cell_of_row _ _ 0 _ _ _ hIp).trans rfl)) ?_
      refine Wk.rExS 1 none _ rfl rfl (by kernel_rfl) (Wk.store1 67 (.tmp 6) (.tmp 20) rfl (by kernel_rfl) W2.heap.size 0 (by kernel_rfl) (.slice A n c) (by kernel_rfl) rfl 67 #[.slice A n c] hIp (by simp)) ?_
      rintro W5 ⟨hb4, ch5⟩
      replace hb4 : W5.heap[W2.heap.size]? = some (.cells #[.slice A n c] 67 (0, 0)) := hb4
      have zz5 := ch5.size
      refine Wk.rEnd 2 rfl ?_
      refine Wk.nxt ?_
      refine wp_ret ?_
      refine Wk.npR ?_
      refine Wk.retM D rfl (Wk.Chg.hp ch5 hKD ⟨by omega, trivial⟩) ?_
      intro W6 ch6
      have zz6 := ch6.size
      have ow1 := (Mur.MsgA.chg hIo ch5 (fun q_ k1_ k2_ _ => ⟨by omega, trivial⟩))
      have ow2 := (Mur.MsgA.chg ow1 ch6 (fun q_ _ _ k_ => ⟨Mur.off_noncells (Wk.Chg.hp ch5 hKD ⟨by omega, trivial⟩) rfl k_, trivial⟩))
      have kk5 := Wk.Chg.step hW9 ch5 ⟨.inr (by omega), trivial⟩
      have kk6 := Wk.Chg.step kk5 ch6 ⟨.inr (by omega), trivial⟩
      refine ⟨.slice A n c, Mur.results_sl rfl _ _ W2.heap.size 67 (.slice A n c) (0, 0) (by kernel_rfl) (Wk.Chg.hp ch6 hb4 ⟨by omega, trivial⟩) (by kernel_rfl), ⟨_, _, _, rfl, ?_, kk6⟩⟩
      exact Mur.MsgA.low (by rw [← Mur.chunkM_all, hlL_]; exact ow2) (by omega)
  · obtain ⟨q, off, hA_, hr_⟩ := hl.ex h0_
    subst hA_
    have hql_ := hl.lt h0_
    refine Wk.calls_of_wpM Tryd.func57 rfl ?_
    refine Wk.noP ?_
    refine wp_seq ?_
    refine Wk.reg ?_
    refine Wk.rEx 0 (some 3) _ rfl rfl (by kernel_rfl) (Wk.new_ex (.pointer (some ⟨w.heap.size, 0, none⟩)) #[.slice PA pn pc] 38 (by kernel_rfl)) ?_
    rintro _ W7 ⟨rfl, hb5, ch7, sz4⟩
    have zz7 := ch7.size
    refine Wk.rEx 1 (some 5) _ rfl rfl (by kernel_rfl) (Wk.new_ex (.pointer (some ⟨W7.heap.size, 0, none⟩)) #[.bool b] 4 (by kernel_rfl)) ?_
    rintro _ W8 ⟨rfl, hb6, ch8, sz5⟩
    have zz8 := ch8.size
    refine Wk.rEx 2 (some 6) _ rfl rfl (by kernel_rfl) (Wk.new_ex (.pointer (some ⟨W8.heap.size, 0, none⟩)) #[.slice none 0 0] 67 (by kernel_rfl)) ?_
    rintro _ W10 ⟨rfl, hb7, ch9, sz6⟩
    have zz9 := ch9.size
    refine Wk.rEnd 3 rfl ?_
    refine Wk.nxt ?_
    refine wp_seq ?_
    refine wp_seq ?_
    refine Wk.reg ?_
    refine Wk.rPure 0 (some 8) (.slice (some ⟨q, off, none⟩) n0 c0) rfl rfl (by kernel_rfl) (by kernel_rfl) ?_
    refine Wk.rCall 1 (some 9) 78 [.tmp 8, .const (.int .i64 8)] #[22, 3] [.slice (some ⟨q, off, none⟩) n0 c0, .int .i64 8] rfl rfl (by kernel_rfl) rfl (by kernel_rfl) (by kernel_rfl) ?_
    refine (Chunk_any (some ⟨q, off, none⟩) n0 c0 W10).mono ?_
    rintro _ W11 ⟨bq3, bq4, rfl, hbq3, hbq4, hzq4, hzq5, hzq6, ch10⟩
    have zz10 := ch10.size
    refine ⟨_, rfl, ?_⟩
    refine Wk.rEnd 2 rfl ?_
    refine Wk.nxt ?_
    refine wp_block ?_
    have kk7 : Wk.Chg [] w W7 := Wk.Chg.step ((Wk.Chg.refl _).more (by simp)) ch7 trivial
    have kk8 := Wk.Chg.step kk7 ch8 trivial
    have kk9 := Wk.Chg.step kk8 ch9 trivial
    have kk10 := Wk.Chg.step kk9 ch10 trivial
    have hseq2 := chunk_seq q off n0 c0 bq3 bq4 W11 (by omega) hbq3 hbq4
    have hFw := hseq2.1
    have hFb_ : ∀ k_, k_ ∈ [bq3, bq4] → k_ ≠ W8.heap.size := fun k_ hk_ => by
      simp only [List.mem_cons, List.not_mem_nil, or_false] at hk_
      rcases hk_ with rfl | rfl <;> omega
    refine Wk.range (hseq2) (by kernel_rfl) (fun _ _ => by kernel_rfl) (fun x => rfl) (fun pre W' => ∃ A n c, W'.heap[W8.heap.size]? = some (.cells #[.slice A n c] 67 (0, 0)) ∧ Mur.MsgA W' W11.heap.size 66 A n c (pre.map (Mur.chunkM p L b)) ∧ Wk.Chg [W8.heap.size] W11 W' ∧ W'.heap[w.heap.size]? = some (.cells #[.slice PA pn pc] 38 (0, 0)) ∧ W'.heap[W7.heap.size]? = some (.cells #[.bool b] 4 (0, 0))) ?_ ?_ ?_ ?_ ?_
    · rintro pre A1_ A2_ ⟨A, n, c, h1, h2, h3, hE0, hE1⟩ hc
      exact ⟨A, n, c, hc.hp h1 trivial, h2.chg hc (fun _ _ _ _ => trivial), h3.step hc trivial, hc.hp hE0 trivial, hc.hp hE1 trivial⟩
    · rintro pre A1_ A2_ r_ o_ ⟨A, n, c, h1, h2, h3, hE0, hE1⟩ hr ho hoc hc
      exact ⟨A, n, c, hc.hp h1 ⟨Mur.cells_ne h1 ho hoc, trivial⟩, h2.chg hc (fun q _ _ k_ => ⟨Mur.off_noncells ho hoc k_, trivial⟩), h3.step hc ⟨.inr hr, trivial⟩, hc.hp hE0 ⟨Mur.cells_ne hE0 ho hoc, trivial⟩, hc.hp hE1 ⟨Mur.cells_ne hE1 ho hoc, trivial⟩⟩
    · exact ⟨none, 0, 0, (Wk.Chg.hp ch10 hb7 trivial), Mur.msgA_nil _ _ _, (Wk.Chg.refl _).more (by simp), (Wk.Chg.hp ch10 (Wk.Chg.hp ch9 (Wk.Chg.hp ch8 hb5 trivial) trivial) trivial), (Wk.Chg.hp ch10 (Wk.Chg.hp ch9 hb6 trivial) trivial)⟩
    · intro lz pre x post A1 hsp hI hwl hlA hlz
      obtain ⟨A, n, c, hIp, hIo, hIc, hE0, hE1⟩ := hI
      have hlhE0_ := (Array.getElem?_eq_some_iff.1 hE0).1
      have hlhE1_ := (Array.getElem?_eq_some_iff.1 hE1).1
      have hzI_ := hIc.size
      have hIlen := hIo.len
      have hInc := hIo.nc
      have hbl_ := (Array.getElem?_eq_some_iff.1 hIp).1
      have hbz := Mur.cells_ne' hIp hlz
      have hpl_ : pre.length + 1 ≤ (n0 + 7) / 8 := by have := congrArg List.length hsp; simp at this; omega
      have hpl2_ : (pre.map (Mur.chunkM p L b)).length = pre.length := List.length_map _
      have hbzhE0 := Mur.cells_ne' hE0 hlz
      have hbzhE1 := Mur.cells_ne' hE1 hlz
      have hIw_ : Wk.Chg [W8.heap.size] w A1 := Wk.Chg.step (kk10.more (by simp)) hIc ⟨.inl (by simp), trivial⟩
      have hxs_ : SlA w (some ⟨q, off + 8 * x * 97, none⟩) (min 8 (n0 - 8 * x)) ((L.drop (8 * x)).take 8) := hl.chunk x
      have hxlt_ : ∀ g_ off_, some (⟨q, off + 8 * x * 97, none⟩ : Addr) = some ⟨g_, off_, none⟩ → g_ < w.heap.size := fun g_ off_ e_ => by cases e_; exact hql_
      have hPlt_ : ∀ g_ off_, PA = some ⟨g_, off_, none⟩ → 0 < pn → g_ < w.heap.size := fun g_ off_ e_ hn_ => Mur.pblk_lt hb g_ (Mur.pblk_mem e_ hn_)
      refine Wk.regI ?_
      refine Wk.iPure 0 (some 7) (.slice (some ⟨q, off + 8 * x * 97, none⟩) (min 8 (n0 - 8 * x)) (min 8 (n0 - 8 * x))) rfl rfl rfl (by kernel_rfl) (by kernel_rfl) ?_
      refine Wk.iEnd 1 rfl ?_
      refine Wk.nxt ?_
      refine ⟨(Wk.Chg.refl _), ?_⟩
      have hlz2_ := hlz.imp (fun _ h_ => Wk.Chg.hp (Wk.Chg.refl _) h_ trivial)
      intro A2 hch2
      have zz11 := hch2.size
      refine wpIn_block ?_
      refine Wk.dRegI (([W8.heap.size] ++ Wk.blk (.slice A n c))) (by kernel_rfl) (by kernel_rfl) ?_
      intro W12 ch11 sz7
      have zz12 := ch11.size
      have sS1 : Wk.Chg (([W8.heap.size] ++ Wk.blk (.slice A n c))) W12 W12 := (Wk.Chg.refl _).more (by simp)
      refine Wk.dVal 1 (some 12) (.slice PA pn pc) rfl rfl (by kernel_rfl) (by kernel_rfl) (by kernel_rfl) (fun _ _ _ h => h) (by kernel_rfl) (fun w' hw' => (Wk.load1 38 (.tmp 3) rfl (by kernel_rfl) ⟨w.heap.size, 0, none⟩ (by kernel_rfl) (.slice PA pn pc) ((cell_of_row _ _ 0 _ _ _ (Wk.Chg.hp hw' (Wk.Chg.hp ch11 (Wk.Chg.hp hch2 hE0 ⟨by omega, trivial⟩) trivial) ⟨by omega, (Wk.off_blk (fun gz hgz => by have := hIo.lt gz hgz; omega))⟩)).trans rfl))) sS1 ?_
      refine Wk.dVal 3 (some 14) (.slice (some ⟨q, off + 8 * x * 97, none⟩) (min 8 (n0 - 8 * x)) (min 8 (n0 - 8 * x))) rfl rfl (by kernel_rfl) (by kernel_rfl) (by kernel_rfl) (fun _ _ _ h => h) (by kernel_rfl) (fun w' hw' => by kernel_rfl) sS1 ?_
      refine Wk.dVal 5 (some 16) (.bool b) rfl rfl (by kernel_rfl) (by kernel_rfl) (by kernel_rfl) (fun _ _ _ h => h) (by kernel_rfl) (fun w' hw' => (Wk.load1 4 (.tmp 5) rfl (by kernel_rfl) ⟨W7.heap.size, 0, none⟩ (by kernel_rfl) (.bool b) ((cell_of_row _ _ 0 _ _ _ (Wk.Chg.hp hw' (Wk.Chg.hp ch11 (Wk.Chg.hp hch2 hE1 ⟨by omega, trivial⟩) trivial) ⟨by omega, (Wk.off_blk (fun gz hgz => by have := hIo.lt gz hgz; omega))⟩)).trans rfl))) sS1 ?_
      refine Wk.dOp2 0 2 (by kernel_rfl) ?_ ?_
      · refine Wk.oVal (some 11) (.slice A n c) rfl rfl (by kernel_rfl) (Wk.load1 67 (.tmp 6) rfl (by kernel_rfl) ⟨W8.heap.size, 0, none⟩ (by kernel_rfl) (.slice A n c) ((cell_of_row _ _ 0 _ _ _ (Wk.Chg.hp ch11 (Wk.Chg.hp hch2 hIp ⟨by omega, trivial⟩) trivial)).trans rfl)) ?_
        refine ⟨sS1, ?_⟩
        refine Wk.dOp 2 (by kernel_rfl) ?_
        refine Wk.oCall (some 13) 75 [.tmp 12] #[38] [.slice PA pn pc] rfl rfl (by kernel_rfl) rfl (by kernel_rfl) (by kernel_rfl) ?_
        have kk11 := Wk.Chg.step hIw_ hch2 ⟨.inr (by omega), trivial⟩
        have kk12 := Wk.Chg.step kk11 ch11 trivial
        refine (CloneB_any p PA pn pc W12 (Mur.byt_chg hb kk12 (fun g off e hl => ⟨by have := hPlt_ g off e; omega, trivial⟩)) hnil (by omega)).mono ?_
        rintro _ W13 ⟨AA1, nn1, nn2, rfl, ow3, ch12⟩
        have zz13 := ch12.size
        have hq1 := ow3.byt.1
        have hq2 := ow3.nc
        have hq3 := ow3.cm
        have sS2 := Wk.Chg.step sS1 ch12 trivial
        refine ⟨_, rfl, sS2, ?_⟩
        refine Wk.dOp 4 (by kernel_rfl) ?_
        refine Wk.oCall (some 15) 51 [.tmp 14] #[22] [.slice (some ⟨q, off + 8 * x * 97, none⟩) (min 8 (n0 - 8 * x)) (min 8 (n0 - 8 * x))] rfl rfl (by kernel_rfl) rfl (by kernel_rfl) (by kernel_rfl) ?_
        have kk13 := Wk.Chg.step kk12 ch12 trivial
        refine (CloneS_any q (off + 8 * x * 97) (min 8 (n0 - 8 * x)) (min 8 (n0 - 8 * x)) ((L.drop (8 * x)).take 8) W13 (Mur.SlA.chg hxs_ kk13 (fun g off e hl => ⟨by have := hxlt_ g off e; omega, trivial⟩)) (by omega)).mono ?_
        rintro _ W14 ⟨AA2, nn3, rfl, ow4, ch13⟩
        have zz14 := ch13.size
        have hq4 := ow4.nc
        have sS3 := Wk.Chg.step sS2 ch13 trivial
        refine ⟨_, rfl, sS3, ?_⟩
        refine Wk.dVal 6 (some 17) (.agg ((Mur.msgC 2 AA1 nn1 nn2 Mur.z32 0 AA2 (min 8 (n0 - 8 * x)) nn3 b).toArray)) rfl rfl (by kernel_rfl) (by kernel_rfl) (by kernel_rfl) (fun _ _ _ h => h) (by kernel_rfl) (fun w' hw' => (Mur.run_built 66 _ rfl [(0, .int .u8 2), (1, .slice AA1 nn1 nn2), (4, .slice AA2 (min 8 (n0 - 8 * x)) nn3), (5, .bool b)] (by kernel_rfl) _ (built_items AA1 nn1 nn2 AA2 (min 8 (n0 - 8 * x)) nn3 b))) sS3 ?_
        refine Wk.dOp 7 (by kernel_rfl) ?_
        refine Wk.oEx (some 18) _ rfl rfl (by kernel_rfl) (Mur.buildR1 67 66 (.tmp 17) rfl Tryd.underlying67 Mur.msgZ 37 104 msgI (Mur.msgC_length rfl) (by decide) (by decide) (Mur.msgC 2 AA1 nn1 nn2 Mur.z32 0 AA2 (min 8 (n0 - 8 * x)) nn3 b) (Mur.msgC_length rfl) (by kernel_rfl)) ?_
        rintro _ W15 ⟨rfl, hb8, ch14, sz8⟩
        have zz15 := ch14.size
        have sS4 := Wk.Chg.step sS3 ch14 trivial
        refine ⟨sS4, ?_⟩
        refine Wk.dOp 8 (by kernel_rfl) ?_
        have ow5 := (Mur.MsgA.chg hIo (Wk.Chg.refl _) (fun _ _ _ _ => trivial))
        have ow6 := (Mur.MsgA.chg ow5 hch2 (fun q_ _ _ k_ => ⟨Mur.off_loop hlz2_ k_, trivial⟩))
        have ow7 := (Mur.MsgA.chg ow6 ch11 (fun _ _ _ _ => trivial))
        have ow8 := (Mur.MsgA.chg ow7 ch12 (fun _ _ _ _ => trivial))
        have ow9 := (Mur.MsgA.chg ow8 ch13 (fun _ _ _ _ => trivial))
        have ow10 := (Mur.MsgA.chg ow9 ch14 (fun _ _ _ _ => trivial))
        have ow11 := Mur.own8 (Wk.own_chg ow3.own ch13 (fun q e _ _ => trivial))
        have ow12 := Mur.own8 (Wk.own_chg ow11.own ch14 (fun q e _ _ => trivial))
        have ow13 := Mur.OwnA.chg ow4 ch14 (fun q e _ _ => trivial)
        have hsub1 := Mur.subs_own (kd := 2) (s := Mur.z32) (k := 0) (b := b) ow12 ow13 rfl
        have hlt1 := hIo.lt
        refine Wk.oEx (some 19) _ rfl rfl (by kernel_rfl) (Mur.appendM (.tmp 11) (.tmp 18) 67 66 rfl Tryd.underlying67 msgI W11.heap.size A n c (pre.map (Mur.chunkM p L b)) W14.heap.size ⟨2, AA1, nn1, nn2, Mur.z32, 0, AA2, (min 8 (n0 - 8 * x)), nn3, b, rfl⟩ (Mur.chunkM p L b x) (by kernel_rfl) (by kernel_rfl) ow10 hb8 (Mur.rawok_items ow12 ow13 b) (fun q_ hq_ => ⟨by have := hsub1 q_ hq_; omega, fun e_ => by have := hlt1 q_ e_; have := hsub1 q_ hq_; omega⟩) (by omega) (by omega)) ?_
        rintro _ W16 ⟨AA3, nn4, rfl, ow14, ch15⟩
        have zz16 := ch15.size
        have hq5 := ow14.nc
        have hq6 := ow14.cm
        have sS5 := Wk.Chg.step sS4 ch15 (Mur.newOr_iff.2 (fun t ht => .inl (List.mem_append_right _ ht)))
        refine ⟨sS5, ?_⟩
        refine Wk.dOp 9 (by kernel_rfl) ?_
        refine Wk.oExS none _ rfl rfl (by kernel_rfl) (Wk.store1 67 (.tmp 6) (.tmp 19) rfl (by kernel_rfl) W8.heap.size 0 (by kernel_rfl) (.slice AA3 (n + 1) nn4) (by kernel_rfl) rfl 67 #[.slice A n c] (Wk.Chg.hp ch15 (Wk.Chg.hp ch14 (Wk.Chg.hp ch13 (Wk.Chg.hp ch12 (Wk.Chg.hp ch11 (Wk.Chg.hp hch2 hIp ⟨by omega, trivial⟩) trivial) trivial) trivial) trivial) (Wk.off_blk (fun gz hgz => by have := hlt1 gz hgz; omega))) (by simp)) ?_
        rintro W17 ⟨hb9, ch16⟩
        replace hb9 : W17.heap[W8.heap.size]? = some (.cells #[.slice AA3 (n + 1) nn4] 67 (0, 0)) := hb9
        have zz17 := ch16.size
        have sS6 := Wk.Chg.step sS5 ch16 ⟨.inl (by simp), trivial⟩
        refine ⟨sS6, ?_⟩
        refine Wk.dEndI (by kernel_rfl) ?_
        refine Wk.inN ?_
        have kk14 : Wk.Chg ([W8.heap.size] ++ Wk.blk (.slice A n c)) A2 W12 := Wk.Chg.step ((Wk.Chg.refl _).more (by simp)) ch11 trivial
        have kk15 := Wk.Chg.step kk14 ch12 trivial
        have kk16 := Wk.Chg.step kk15 ch13 trivial
        have kk17 := Wk.Chg.step kk16 ch14 trivial
        have kk18 := Wk.Chg.step kk17 ch15 (Mur.newOr_iff.2 (fun t ht => .inl (List.mem_append_right _ ht)))
        have kk19 := Wk.Chg.step kk18 ch16 ⟨.inl (by simp), trivial⟩
        have kk20 := Wk.Chg.step hIc hch2 ⟨.inr (by omega), trivial⟩
        have kk21 := Wk.Chg.step kk20 ch11 trivial
        have kk22 := Wk.Chg.step kk21 ch12 trivial
        have kk23 := Wk.Chg.step kk22 ch13 trivial
        have kk24 := Wk.Chg.step kk23 ch14 trivial
        have kk25 := Wk.Chg.step kk24 ch15 (Wk.newOr_blk (fun g hg => by have := hlt1 g hg; omega))
        have kk26 := Wk.Chg.step kk25 ch16 ⟨.inl (by simp), trivial⟩
        have ow15 := (Mur.MsgA.chg ow14 ch16 (fun q_ k1_ k2_ _ => ⟨by omega, trivial⟩))
        refine Wk.roundN _ kk19 (fun s_ hs_ hlt_ => ?_) (fun k_ hk_ => ⟨hFb_ k_ hk_, Wk.off_blk (fun q hq => by have := hIo.lt q hq; have := hFw k_ hk_; omega)⟩) ⟨_, _, _, hb9, (by rw [List.map_append]; exact ow15), kk26, (Wk.Chg.hp ch16 (Wk.Chg.hp ch15 (Wk.Chg.hp ch14 (Wk.Chg.hp ch13 (Wk.Chg.hp ch12 (Wk.Chg.hp ch11 (Wk.Chg.hp hch2 hE0 ⟨by omega, trivial⟩) trivial) trivial) trivial) trivial) (Wk.off_blk (fun gz hgz => by have := hlt1 gz hgz; omega))) ⟨by omega, trivial⟩), (Wk.Chg.hp ch16 (Wk.Chg.hp ch15 (Wk.Chg.hp ch14 (Wk.Chg.hp ch13 (Wk.Chg.hp ch12 (Wk.Chg.hp ch11 (Wk.Chg.hp hch2 hE1 ⟨by omega, trivial⟩) trivial) trivial) trivial) trivial) (Wk.off_blk (fun gz hgz => by have := hlt1 gz hgz; omega))) ⟨by omega, trivial⟩)⟩
        rcases List.mem_cons.1 hs_ with rfl | hs_
        · exact ⟨_, (hch2.hp hIp ⟨hbz, trivial⟩), rfl⟩
        · exact Mur.MsgA.cells (Mur.MsgA.chg (Mur.MsgA.chg hIo (Wk.Chg.refl _) (fun _ _ _ _ => trivial)) hch2 (fun q_ _ _ k_ => ⟨Mur.off_loop hlz2_ k_, trivial⟩)) (Mur.blk_mem hs_)
      · refine Wk.oCall (some 13) 75 [.tmp 12] #[38] [.slice PA pn pc] rfl rfl (by kernel_rfl) rfl (by kernel_rfl) (by kernel_rfl) ?_
        have kk27 := Wk.Chg.step hIw_ hch2 ⟨.inr (by omega), trivial⟩
        have kk28 := Wk.Chg.step kk27 ch11 trivial
        refine (CloneB_any p PA pn pc W12 (Mur.byt_chg hb kk28 (fun g off e hl => ⟨by have := hPlt_ g off e; omega, trivial⟩)) hnil (by omega)).mono ?_
        rintro _ W18 ⟨AA4, nn5, nn6, rfl, ow16, ch17⟩
        have zz18 := ch17.size
        have hq7 := ow16.byt.1
        have hq8 := ow16.nc
        have hq9 := ow16.cm
        have sS7 := Wk.Chg.step sS1 ch17 trivial
        refine ⟨_, rfl, sS7, ?_⟩
        refine Wk.dOp2 0 4 (by kernel_rfl) ?_ ?_
        · refine Wk.oVal (some 11) (.slice A n c) rfl rfl (by kernel_rfl) (Wk.load1 67 (.tmp 6) rfl (by kernel_rfl) ⟨W8.heap.size, 0, none⟩ (by kernel_rfl) (.slice A n c) ((cell_of_row _ _ 0 _ _ _ (Wk.Chg.hp ch17 (Wk.Chg.hp ch11 (Wk.Chg.hp hch2 hIp ⟨by omega, trivial⟩) trivial) trivial)).trans rfl)) ?_
          refine ⟨sS7, ?_⟩
          refine Wk.dOp 4 (by kernel_rfl) ?_
          refine Wk.oCall (some 15) 51 [.tmp 14] #[22] [.slice (some ⟨q, off + 8 * x * 97, none⟩) (min 8 (n0 - 8 * x)) (min 8 (n0 - 8 * x))] rfl rfl (by kernel_rfl) rfl (by kernel_rfl) (by kernel_rfl) ?_
          have kk29 := Wk.Chg.step kk28 ch17 trivial
          refine (CloneS_any q (off + 8 * x * 97) (min 8 (n0 - 8 * x)) (min 8 (n0 - 8 * x)) ((L.drop (8 * x)).take 8) W18 (Mur.SlA.chg hxs_ kk29 (fun g off e hl => ⟨by have := hxlt_ g off e; omega, trivial⟩)) (by omega)).mono ?_
          rintro _ W19 ⟨AA5, nn7, rfl, ow17, ch18⟩
          have zz19 := ch18.size
          have hq10 := ow17.nc
          have sS8 := Wk.Chg.step sS7 ch18 trivial
          refine ⟨_, rfl, sS8, ?_⟩
          refine Wk.dVal 6 (some 17) (.agg ((Mur.msgC 2 AA4 nn5 nn6 Mur.z32 0 AA5 (min 8 (n0 - 8 * x)) nn7 b).toArray)) rfl rfl (by kernel_rfl) (by kernel_rfl) (by kernel_rfl) (fun _ _ _ h => h) (by kernel_rfl) (fun w' hw' => (Mur.run_built 66 _ rfl [(0, .int .u8 2), (1, .slice AA4 nn5 nn6), (4, .slice AA5 (min 8 (n0 - 8 * x)) nn7), (5, .bool b)] (by kernel_rfl) _ (built_items AA4 nn5 nn6 AA5 (min 8 (n0 - 8 * x)) nn7 b))) sS8 ?_
          refine Wk.dOp 7 (by kernel_rfl) ?_
          refine Wk.oEx (some 18) _ rfl rfl (by kernel_rfl) (Mur.buildR1 67 66 (.tmp 17) rfl Tryd.underlying67 Mur.msgZ 37 104 msgI (Mur.msgC_length rfl) (by decide) (by decide) (Mur.msgC 2 AA4 nn5 nn6 Mur.z32 0 AA5 (min 8 (n0 - 8 * x)) nn7 b) (Mur.msgC_length rfl) (by kernel_rfl)) ?_
          rintro _ W20 ⟨rfl, hb10, ch19, sz9⟩
          have zz20 := ch19.size
          have sS9 := Wk.Chg.step sS8 ch19 trivial
          refine ⟨sS9, ?_⟩
          refine Wk.dOp 8 (by kernel_rfl) ?_
          have ow18 := (Mur.MsgA.chg hIo (Wk.Chg.refl _) (fun _ _ _ _ => trivial))
          have ow19 := (Mur.MsgA.chg ow18 hch2 (fun q_ _ _ k_ => ⟨Mur.off_loop hlz2_ k_, trivial⟩))
          have ow20 := (Mur.MsgA.chg ow19 ch11 (fun _ _ _ _ => trivial))
          have ow21 := (Mur.MsgA.chg ow20 ch17 (fun _ _ _ _ => trivial))
          have ow22 := (Mur.MsgA.chg ow21 ch18 (fun _ _ _ _ => trivial))
          have ow23 := (Mur.MsgA.chg ow22 ch19 (fun _ _ _ _ => trivial))
          have ow24 := Mur.own8 (Wk.own_chg ow16.own ch18 (fun q e _ _ => trivial))
          have ow25 := Mur.own8 (Wk.own_chg ow24.own ch19 (fun q e _ _ => trivial))
          have ow26 := Mur.OwnA.chg ow17 ch19 (fun q e _ _ => trivial)
          have hsub2 := Mur.subs_own (kd := 2) (s := Mur.z32) (k := 0) (b := b) ow25 ow26 rfl
          have hlt2 := hIo.lt
          refine Wk.oEx (some 19) _ rfl rfl (by kernel_rfl) (Mur.appendM (.tmp 11) (.tmp 18) 67 66 rfl Tryd.underlying67 msgI W11.heap.size A n c (pre.map (Mur.chunkM p L b)) W19.heap.size ⟨2, AA4, nn5, nn6, Mur.z32, 0, AA5, (min 8 (n0 - 8 * x)), nn7, b, rfl⟩ (Mur.chunkM p L b x) (by kernel_rfl) (by kernel_rfl) ow23 hb10 (Mur.rawok_items ow25 ow26 b) (fun q_ hq_ => ⟨by have := hsub2 q_ hq_; omega, fun e_ => by have := hlt2 q_ e_; have := hsub2 q_ hq_; omega⟩) (by omega) (by omega)) ?_
          rintro _ W21 ⟨AA6, nn8, rfl, ow27, ch20⟩
          have zz21 := ch20.size
          have hq11 := ow27.nc
          have hq12 := ow27.cm
          have sS10 := Wk.Chg.step sS9 ch20 (Mur.newOr_iff.2 (fun t ht => .inl (List.mem_append_right _ ht)))
          refine ⟨sS10, ?_⟩
          refine Wk.dOp 9 (by kernel_rfl) ?_
          refine Wk.oExS none _ rfl rfl (by kernel_rfl) (Wk.store1 67 (.tmp 6) (.tmp 19) rfl (by kernel_rfl) W8.heap.size 0 (by kernel_rfl) (.slice AA6 (n + 1) nn8) (by kernel_rfl) rfl 67 #[.slice A n c] (Wk.Chg.hp ch20 (Wk.Chg.hp ch19 (Wk.Chg.hp ch18 (Wk.Chg.hp ch17 (Wk.Chg.hp ch11 (Wk.Chg.hp hch2 hIp ⟨by omega, trivial⟩) trivial) trivial) trivial) trivial) (Wk.off_blk (fun gz hgz => by have := hlt2 gz hgz; omega))) (by simp)) ?_
          rintro W22 ⟨hb11, ch21⟩
          replace hb11 : W22.heap[W8.heap.size]? = some (.cells #[.slice AA6 (n + 1) nn8] 67 (0, 0)) := hb11
          have zz22 := ch21.size
          have sS11 := Wk.Chg.step sS10 ch21 ⟨.inl (by simp), trivial⟩
          refine ⟨sS11, ?_⟩
          refine Wk.dEndI (by kernel_rfl) ?_
          refine Wk.inN ?_
          have kk30 : Wk.Chg ([W8.heap.size] ++ Wk.blk (.slice A n c)) A2 W12 := Wk.Chg.step ((Wk.Chg.refl _).more (by simp)) ch11 trivial
          have kk31 := Wk.Chg.step kk30 ch17 trivial
          have kk32 := Wk.Chg.step kk31 ch18 trivial
          have kk33 := Wk.Chg.step kk32 ch19 trivial
          have kk34 := Wk.Chg.step kk33 ch20 (Mur.newOr_iff.2 (fun t ht => .inl (List.mem_append_right _ ht)))
          have kk35 := Wk.Chg.step kk34 ch21 ⟨.inl (by simp), trivial⟩
          have kk36 := Wk.Chg.step hIc hch2 ⟨.inr (by omega), trivial⟩
          have kk37 := Wk.Chg.step kk36 ch11 trivial
          have kk38 := Wk.Chg.step kk37 ch17 trivial
          have kk39 := Wk.Chg.step kk38 ch18 trivial
          have kk40 := Wk.Chg.step kk39 ch19 trivial
          have kk41 := Wk.Chg.step kk40 ch20 (Wk.newOr_blk (fun g hg => by have := hlt2 g hg; omega))
          have kk42 := Wk.Chg.step kk41 ch21 ⟨.inl (by simp), trivial⟩
          have ow28 := (Mur.MsgA.chg ow27 ch21 (fun q_ k1_ k2_ _ => ⟨by omega, trivial⟩))
          refine Wk.roundN _ kk35 (fun s_ hs_ hlt_ => ?_) (fun k_ hk_ => ⟨hFb_ k_ hk_, Wk.off_blk (fun q hq => by have := hIo.lt q hq; have := hFw k_ hk_; omega)⟩) ⟨_, _, _, hb11, (by rw [List.map_append]; exact ow28), kk42, (Wk.Chg.hp ch21 (Wk.Chg.hp ch20 (Wk.Chg.hp ch19 (Wk.Chg.hp ch18 (Wk.Chg.hp ch17 (Wk.Chg.hp ch11 (Wk.Chg.hp hch2 hE0 ⟨by omega, trivial⟩) trivial) trivial) trivial) trivial) (Wk.off_blk (fun gz hgz => by have := hlt2 gz hgz; omega))) ⟨by omega, trivial⟩), (Wk.Chg.hp ch21 (Wk.Chg.hp ch20 (Wk.Chg.hp ch19 (Wk.Chg.hp ch18 (Wk.Chg.hp ch17 (Wk.Chg.hp ch11 (Wk.Chg.hp hch2 hE1 ⟨by omega, trivial⟩) trivial) trivial) trivial) trivial) (Wk.off_blk (fun gz hgz => by have := hlt2 gz hgz; omega))) ⟨by omega, trivial⟩)⟩
          rcases List.mem_cons.1 hs_ with rfl | hs_
          · exact ⟨_, (hch2.hp hIp ⟨hbz, trivial⟩), rfl⟩
          · exact Mur.MsgA.cells (Mur.MsgA.chg (Mur.MsgA.chg hIo (Wk.Chg.refl _) (fun _ _ _ _ => trivial)) hch2 (fun q_ _ _ k_ => ⟨Mur.off_loop hlz2_ k_, trivial⟩)) (Mur.blk_mem hs_)
        · refine Wk.oCall (some 15) 51 [.tmp 14] #[22] [.slice (some ⟨q, off + 8 * x * 97, none⟩) (min 8 (n0 - 8 * x)) (min 8 (n0 - 8 * x))] rfl rfl (by kernel_rfl) rfl (by kernel_rfl) (by kernel_rfl) ?_
          have kk43 := Wk.Chg.step kk28 ch17 trivial
          refine (CloneS_any q (off + 8 * x * 97) (min 8 (n0 - 8 * x)) (min 8 (n0 - 8 * x)) ((L.drop (8 * x)).take 8) W18 (Mur.SlA.chg hxs_ kk43 (fun g off e hl => ⟨by have := hxlt_ g off e; omega, trivial⟩)) (by omega)).mono ?_
          rintro _ W23 ⟨AA7, nn9, rfl, ow29, ch22⟩
          have zz23 := ch22.size
          have hq13 := ow29.nc
          have sS12 := Wk.Chg.step sS7 ch22 trivial
          refine ⟨_, rfl, sS12, ?_⟩
          refine Wk.dVal 6 (some 17) (.agg ((Mur.msgC 2 AA4 nn5 nn6 Mur.z32 0 AA7 (min 8 (n0 - 8 * x)) nn9 b).toArray)) rfl rfl (by kernel_rfl) (by kernel_rfl) (by kernel_rfl) (fun _ _ _ h => h) (by kernel_rfl) (fun w' hw' => (Mur.run_built 66 _ rfl [(0, .int .u8 2), (1, .slice AA4 nn5 nn6), (4, .slice AA7 (min 8 (n0 - 8 * x)) nn9), (5, .bool b)] (by kernel_rfl) _ (built_items AA4 nn5 nn6 AA7 (min 8 (n0 - 8 * x)) nn9 b))) sS12 ?_
          refine Wk.dOp2 0 7 (by kernel_rfl) ?_ ?_
          · refine Wk.oVal (some 11) (.slice A n c) rfl rfl (by kernel_rfl) (Wk.load1 67 (.tmp 6) rfl (by kernel_rfl) ⟨W8.heap.size, 0, none⟩ (by kernel_rfl) (.slice A n c) ((cell_of_row _ _ 0 _ _ _ (Wk.Chg.hp ch22 (Wk.Chg.hp ch17 (Wk.Chg.hp ch11 (Wk.Chg.hp hch2 hIp ⟨by omega, trivial⟩) trivial) trivial) trivial)).trans rfl)) ?_
            refine ⟨sS12, ?_⟩
            refine Wk.dOp 7 (by kernel_rfl) ?_
            refine Wk.oEx (some 18) _ rfl rfl (by kernel_rfl) (Mur.buildR1 67 66 (.tmp 17) rfl Tryd.underlying67 Mur.msgZ 37 104 msgI (Mur.msgC_length rfl) (by decide) (by decide) (Mur.msgC 2 AA4 nn5 nn6 Mur.z32 0 AA7 (min 8 (n0 - 8 * x)) nn9 b) (Mur.msgC_length rfl) (by kernel_rfl)) ?_
            rintro _ W24 ⟨rfl, hb12, ch23, sz10⟩
            have zz24 := ch23.size
            have sS13 := Wk.Chg.step sS12 ch23 trivial
            refine ⟨sS13, ?_⟩
            refine Wk.dOp 8 (by kernel_rfl) ?_
            have ow30 := (Mur.MsgA.chg hIo (Wk.Chg.refl _) (fun _ _ _ _ => trivial))
            have ow31 := (Mur.MsgA.chg ow30 hch2 (fun q_ _ _ k_ => ⟨Mur.off_loop hlz2_ k_, trivial⟩))
            have ow32 := (Mur.MsgA.chg ow31 ch11 (fun _ _ _ _ => trivial))
            have ow33 := (Mur.MsgA.chg ow32 ch17 (fun _ _ _ _ => trivial))
            have ow34 := (Mur.MsgA.chg ow33 ch22 (fun _ _ _ _ => trivial))
            have ow35 := (Mur.MsgA.chg ow34 ch23 (fun _ _ _ _ => trivial))
            have ow36 := Mur.own8 (Wk.own_chg ow16.own ch22 (fun q e _ _ => trivial))
            have ow37 := Mur.own8 (Wk.own_chg ow36.own ch23 (fun q e _ _ => trivial))
            have ow38 := Mur.OwnA.chg ow29 ch23 (fun q e _ _ => trivial)
            have hsub3 := Mur.subs_own (kd := 2) (s := Mur.z32) (k := 0) (b := b) ow37 ow38 rfl
            have hlt3 := hIo.lt
            refine Wk.oEx (some 19) _ rfl rfl (by kernel_rfl) (Mur.appendM (.tmp 11) (.tmp 18) 67 66 rfl Tryd.underlying67 msgI W11.heap.size A n c (pre.map (Mur.chunkM p L b)) W23.heap.size ⟨2, AA4, nn5, nn6, Mur.z32, 0, AA7, (min 8 (n0 - 8 * x)), nn9, b, rfl⟩ (Mur.chunkM p L b x) (by kernel_rfl) (by kernel_rfl) ow35 hb12 (Mur.rawok_items ow37 ow38 b) (fun q_ hq_ => ⟨by have := hsub3 q_ hq_; omega, fun e_ => by have := hlt3 q_ e_; have := hsub3 q_ hq_; omega⟩) (by omega) (by omega)) ?_
            rintro _ W25 ⟨AA8, nn10, rfl, ow39, ch24⟩
            have zz25 := ch24.size
            have hq14 := ow39.nc
            have hq15 := ow39.cm
            have sS14 := Wk.Chg.step sS13 ch24 (Mur.newOr_iff.2 (fun t ht => .inl (List.mem_append_right _ ht)))
            refine ⟨sS14, ?_⟩
            refine Wk.dOp 9 (by kernel_rfl) ?_
            refine Wk.oExS none _ rfl rfl (by kernel_rfl) (Wk.store1 67 (.tmp 6) (.tmp 19) rfl (by kernel_rfl) W8.heap.size 0 (by kernel_rfl) (.slice AA8 (n + 1) nn10) (by kernel_rfl) rfl 67 #[.slice A n c] (Wk.Chg.hp ch24 (Wk.Chg.hp ch23 (Wk.Chg.hp ch22 (Wk.Chg.hp ch17 (Wk.Chg.hp ch11 (Wk.Chg.hp hch2 hIp ⟨by omega, trivial⟩) trivial) trivial) trivial) trivial) (Wk.off_blk (fun gz hgz => by have := hlt3 gz hgz; omega))) (by simp)) ?_
            rintro W26 ⟨hb13, ch25⟩
            replace hb13 : W26.heap[W8.heap.size]? = some (.cells #[.slice AA8 (n + 1) nn10] 67 (0, 0)) := hb13
            have zz26 := ch25.size
            have sS15 := Wk.Chg.step sS14 ch25 ⟨.inl (by simp), trivial⟩
            refine ⟨sS15, ?_⟩
            refine Wk.dEndI (by kernel_rfl) ?_
            refine Wk.inN ?_
            have kk44 : Wk.Chg ([W8.heap.size] ++ Wk.blk (.slice A n c)) A2 W12 := Wk.Chg.step ((Wk.Chg.refl _).more (by simp)) ch11 trivial
            have kk45 := Wk.Chg.step kk44 ch17 trivial
            have kk46 := Wk.Chg.step kk45 ch22 trivial
            have kk47 := Wk.Chg.step kk46 ch23 trivial
            have kk48 := Wk.Chg.step kk47 ch24 (Mur.newOr_iff.2 (fun t ht => .inl (List.mem_append_right _ ht)))
            have kk49 := Wk.Chg.step kk48 ch25 ⟨.inl (by simp), trivial⟩
            have kk50 := Wk.Chg.step hIc hch2 ⟨.inr (by omega), trivial⟩
            have kk51 := Wk.Chg.step kk50 ch11 trivial
            have kk52 := Wk.Chg.step kk51 ch17 trivial
            have kk53 := Wk.Chg.step kk52 ch22 trivial
            have kk54 := Wk.Chg.step kk53 ch23 trivial
            have kk55 := Wk.Chg.step kk54 ch24 (Wk.newOr_blk (fun g hg => by have := hlt3 g hg; omega))
            have kk56 := Wk.Chg.step kk55 ch25 ⟨.inl (by simp), trivial⟩
            have ow40 := (Mur.MsgA.chg ow39 ch25 (fun q_ k1_ k2_ _ => ⟨by omega, trivial⟩))
            refine Wk.roundN _ kk49 (fun s_ hs_ hlt_ => ?_) (fun k_ hk_ => ⟨hFb_ k_ hk_, Wk.off_blk (fun q hq => by have := hIo.lt q hq; have := hFw k_ hk_; omega)⟩) ⟨_, _, _, hb13, (by rw [List.map_append]; exact ow40), kk56, (Wk.Chg.hp ch25 (Wk.Chg.hp ch24 (Wk.Chg.hp ch23 (Wk.Chg.hp ch22 (Wk.Chg.hp ch17 (Wk.Chg.hp ch11 (Wk.Chg.hp hch2 hE0 ⟨by omega, trivial⟩) trivial) trivial) trivial) trivial) (Wk.off_blk (fun gz hgz => by have := hlt3 gz hgz; omega))) ⟨by omega, trivial⟩), (Wk.Chg.hp ch25 (Wk.Chg.hp ch24 (Wk.Chg.hp ch23 (Wk.Chg.hp ch22 (Wk.Chg.hp ch17 (Wk.Chg.hp ch11 (Wk.Chg.hp hch2 hE1 ⟨by omega, trivial⟩) trivial) trivial) trivial) trivial) (Wk.off_blk (fun gz hgz => by have := hlt3 gz hgz; omega))) ⟨by omega, trivial⟩)⟩
            rcases List.mem_cons.1 hs_ with rfl | hs_
            · exact ⟨_, (hch2.hp hIp ⟨hbz, trivial⟩), rfl⟩
            · exact Mur.MsgA.cells (Mur.MsgA.chg (Mur.MsgA.chg hIo (Wk.Chg.refl _) (fun _ _ _ _ => trivial)) hch2 (fun q_ _ _ k_ => ⟨Mur.off_loop hlz2_ k_, trivial⟩)) (Mur.blk_mem hs_)
          · refine Wk.oEx (some 18) _ rfl rfl (by kernel_rfl) (Mur.buildR1 67 66 (.tmp 17) rfl Tryd.underlying67 Mur.msgZ 37 104 msgI (Mur.msgC_length rfl) (by decide) (by decide) (Mur.msgC 2 AA4 nn5 nn6 Mur.z32 0 AA7 (min 8 (n0 - 8 * x)) nn9 b) (Mur.msgC_length rfl) (by kernel_rfl)) ?_
            rintro _ W27 ⟨rfl, hb14, ch26, sz11⟩
            have zz27 := ch26.size
            have sS16 := Wk.Chg.step sS12 ch26 trivial
            refine ⟨sS16, ?_⟩
            refine Wk.dOp 0 (by kernel_rfl) ?_
            refine Wk.oVal (some 11) (.slice A n c) rfl rfl (by kernel_rfl) (Wk.load1 67 (.tmp 6) rfl (by kernel_rfl) ⟨W8.heap.size, 0, none⟩ (by kernel_rfl) (.slice A n c) ((cell_of_row _ _ 0 _ _ _ (Wk.Chg.hp ch26 (Wk.Chg.hp ch22 (Wk.Chg.hp ch17 (Wk.Chg.hp ch11 (Wk.Chg.hp hch2 hIp ⟨by omega, trivial⟩) trivial) trivial) trivial) trivial)).trans rfl)) ?_
            refine ⟨sS16, ?_⟩
            refine Wk.dOp 8 (by kernel_rfl) ?_
            have ow41 := (Mur.MsgA.chg hIo (Wk.Chg.refl _) (fun _ _ _ _ => trivial))
            have ow42 := (Mur.MsgA.chg ow41 hch2 (fun q_ _ _ k_ => ⟨Mur.off_loop hlz2_ k_, trivial⟩))
            have ow43 := (Mur.MsgA.chg ow42 ch11 (fun _ _ _ _ => trivial))
            have ow44 := (Mur.MsgA.chg ow43 ch17 (fun _ _ _ _ => trivial))
            have ow45 := (Mur.MsgA.chg ow44 ch22 (fun _ _ _ _ => trivial))
            have ow46 := (Mur.MsgA.chg ow45 ch26 (fun _ _ _ _ => trivial))
            have ow47 := Mur.own8 (Wk.own_chg ow16.own ch22 (fun q e _ _ => trivial))
            have ow48 := Mur.own8 (Wk.own_chg ow47.own ch26 (fun q e _ _ => trivial))
            have ow49 := Mur.OwnA.chg ow29 ch26 (fun q e _ _ => trivial)
            have hsub4 := Mur.subs_own (kd := 2) (s := Mur.z32) (k := 0) (b := b) ow48 ow49 rfl
            have hlt4 := hIo.lt
            refine Wk.oEx (some 19) _ rfl rfl (by kernel_rfl) (Mur.appendM (.tmp 11) (.tmp 18) 67 66 rfl Tryd.underlying67 msgI W11.heap.size A n c (pre.map (Mur.chunkM p L b)) W23.heap.size ⟨2, AA4, nn5, nn6, Mur.z32, 0, AA7, (min 8 (n0 - 8 * x)), nn9, b, rfl⟩ (Mur.chunkM p L b x) (by kernel_rfl) (by kernel_rfl) ow46 hb14 (Mur.rawok_items ow48 ow49 b) (fun q_ hq_ => ⟨by have := hsub4 q_ hq_; omega, fun e_ => by have := hlt4 q_ e_; have := hsub4 q_ hq_; omega⟩) (by omega) (by omega)) ?_
            rintro _ W28 ⟨AA9, nn11, rfl, ow50, ch27⟩
            have zz28 := ch27.size
            have hq16 := ow50.nc
            have hq17 := ow50.cm
            have sS17 := Wk.Chg.step sS16 ch27 (Mur.newOr_iff.2 (fun t ht => .inl (List.mem_append_right _ ht)))
            refine ⟨sS17, ?_⟩
            refine Wk.dOp 9 (by kernel_rfl) ?_
            refine Wk.oExS none _ rfl rfl (by kernel_rfl) (Wk.store1 67 (.tmp 6) (.tmp 19) rfl (by kernel_rfl) W8.heap.size 0 (by kernel_rfl) (.slice AA9 (n + 1) nn11) (by kernel_rfl) rfl 67 #[.slice A n c] (Wk.Chg.hp ch27 (Wk.Chg.hp ch26 (Wk.Chg.hp ch22 (Wk.Chg.hp ch17 (Wk.Chg.hp ch11 (Wk.Chg.hp hch2 hIp ⟨by omega, trivial⟩) trivial) trivial) trivial) trivial) (Wk.off_blk (fun gz hgz => by have := hlt4 gz hgz; omega))) (by simp)) ?_
            rintro W29 ⟨hb15, ch28⟩
            replace hb15 : W29.heap[W8.heap.size]? = some (.cells #[.slice AA9 (n + 1) nn11] 67 (0, 0)) := hb15
            have zz29 := ch28.size
            have sS18 := Wk.Chg.step sS17 ch28 ⟨.inl (by simp), trivial⟩
            refine ⟨sS18, ?_⟩
            refine Wk.dEndI (by kernel_rfl) ?_
            refine Wk.inN ?_
            have kk57 : Wk.Chg ([W8.heap.size] ++ Wk.blk (.slice A n c)) A2 W12 := Wk.Chg.step ((Wk.Chg.refl _).more (by simp)) ch11 trivial
            have kk58 := Wk.Chg.step kk57 ch17 trivial
            have kk59 := Wk.Chg.step kk58 ch22 trivial
            have kk60 := Wk.Chg.step kk59 ch26 trivial
            have kk61 := Wk.Chg.step kk60 ch27 (Mur.newOr_iff.2 (fun t ht => .inl (List.mem_append_right _ ht)))
            have kk62 := Wk.Chg.step kk61 ch28 ⟨.inl (by simp), trivial⟩
            have kk63 := Wk.Chg.step hIc hch2 ⟨.inr (by omega), trivial⟩
            have kk64 := Wk.Chg.step kk63 ch11 trivial
            have kk65 := Wk.Chg.step kk64 ch17 trivial
            have kk66 := Wk.Chg.step kk65 ch22 trivial
            have kk67 := Wk.Chg.step kk66 ch26 trivial
            have kk68 := Wk.Chg.step kk67 ch27 (Wk.newOr_blk (fun g hg => by have := hlt4 g hg; omega))
            have kk69 := Wk.Chg.step kk68 ch28 ⟨.inl (by simp), trivial⟩
            have ow51 := (Mur.MsgA.chg ow50 ch28 (fun q_ k1_ k2_ _ => ⟨by omega, trivial⟩))
            refine Wk.roundN _ kk62 (fun s_ hs_ hlt_ => ?_) (fun k_ hk_ => ⟨hFb_ k_ hk_, Wk.off_blk (fun q hq => by have := hIo.lt q hq; have := hFw k_ hk_; omega)⟩) ⟨_, _, _, hb15, (by rw [List.map_append]; exact ow51), kk69, (Wk.Chg.hp ch28 (Wk.Chg.hp ch27 (Wk.Chg.hp ch26 (Wk.Chg.hp ch22 (Wk.Chg.hp ch17 (Wk.Chg.hp ch11 (Wk.Chg.hp hch2 hE0 ⟨by omega, trivial⟩) trivial) trivial) trivial) trivial) (Wk.off_blk (fun gz hgz => by have := hlt4 gz hgz; omega))) ⟨by omega, trivial⟩), (Wk.Chg.hp ch28 (Wk.Chg.hp ch27 (Wk.Chg.hp ch26 (Wk.Chg.hp ch22 (Wk.Chg.hp ch17 (Wk.Chg.hp ch11 (Wk.Chg.hp hch2 hE1 ⟨by omega, trivial⟩) trivial) trivial) trivial) trivial) (Wk.off_blk (fun gz hgz => by have := hlt4 gz hgz; omega))) ⟨by omega, trivial⟩)⟩
            rcases List.mem_cons.1 hs_ with rfl | hs_
            · exact ⟨_, (hch2.hp hIp ⟨hbz, trivial⟩), rfl⟩
            · exact Mur.MsgA.cells (Mur.MsgA.chg (Mur.MsgA.chg hIo (Wk.Chg.refl _) (fun _ _ _ _ => trivial)) hch2 (fun q_ _ _ k_ => ⟨Mur.off_loop hlz2_ k_, trivial⟩)) (Mur.blk_mem hs_)
    · intro D W9 hI hwD hKD
      obtain ⟨A, n, c, hIp, hIo, hIc, hE0, hE1⟩ := hI
      have hlhE0_ := (Array.getElem?_eq_some_iff.1 hE0).1
      have hlhE1_ := (Array.getElem?_eq_some_iff.1 hE1).1
      have hzI_ := hIc.size
      have hIlen := hIo.len
      have hInc := hIo.nc
      have hbl_ := (Array.getElem?_eq_some_iff.1 hIp).1
      have hbD := Mur.cells_ne hIp hKD rfl
      have hDl := (Array.getElem?_eq_some_iff.1 hKD).1
      have hbDhE0 := Mur.cells_ne hE0 hKD rfl
      have hbDhE1 := Mur.cells_ne hE1 hKD rfl
      have hW9 : Wk.Chg [] w W9 := Wk.Chg.step kk10 hIc ⟨.inr (by omega), trivial⟩
      refine Wk.inN ?_
      refine Wk.nxt ?_
      refine wp_seq ?_
      refine Wk.reg ?_
      refine Wk.rPure 0 (some 20) (.slice A n c) rfl rfl (by kernel_rfl) (Wk.load1 67 (.tmp 6) rfl (by kernel_rfl) ⟨W8.heap.size, 0, none⟩ (by kernel_rfl) (.slice A n c) ((cell_of_row _ _ 0 _ _ _ hIp).trans rfl)) ?_
      refine Wk.rExS 1 none _ rfl rfl (by kernel_rfl) (Wk.store1 67 (.tmp 6) (.tmp 20) rfl (by kernel_rfl) W8.heap.size 0 (by kernel_rfl) (.slice A n c) (by kernel_rfl) rfl 67 #[.slice A n c] hIp (by simp)) ?_
      rintro W30 ⟨hb16, ch29⟩
      replace hb16 : W30.heap[W8.heap.size]? = some (.cells #[.slice A n c] 67 (0, 0)) := hb16
      have zz30 := ch29.size
      refine Wk.rEnd 2 rfl ?_
      refine Wk.nxt ?_
      refine wp_ret ?_
      refine Wk.npR ?_
      refine Wk.retM D rfl (Wk.Chg.hp ch29 hKD ⟨by omega, trivial⟩) ?_
      intro W31 ch30
      have zz31 := ch30.size
      have ow52 := (Mur.MsgA.chg hIo ch29 (fun q_ k1_ k2_ _ => ⟨by omega, trivial⟩))
      have ow53 := (Mur.MsgA.chg ow52 ch30 (fun q_ _ _ k_ => ⟨Mur.off_noncells (Wk.Chg.hp ch29 hKD ⟨by omega, trivial⟩) rfl k_, trivial⟩))
      have kk70 := Wk.Chg.step hW9 ch29 ⟨.inr (by omega), trivial⟩
      have kk71 := Wk.Chg.step kk70 ch30 ⟨.inr (by omega), trivial⟩
      refine ⟨.slice A n c, Mur.results_sl rfl _ _ W8.heap.size 67 (.slice A n c) (0, 0) (by kernel_rfl) (Wk.Chg.hp ch30 hb16 ⟨by omega, trivial⟩) (by kernel_rfl), ⟨_, _, _, rfl, ?_, kk71⟩⟩
      exact Mur.MsgA.low (by rw [← Mur.chunkM_all, hlL_]; exact ow53) (by omega)
end Go.Proofs.YtfhneademopciaaDoor
namespace Mur
open Go Go.RowKit Wk
section
variable {p s : List UInt8} {L I : List Att} {kd : UInt8} {m : Int} {b : Bool}
theorem summed_same (h1 : sumL p L = s) (h2 : ((cntL p L : Nat) : Int) = m) : summedM L ⟨kd, p, s, m, I, b⟩ = [] := by
  unfold summedM
  exact if_pos ⟨h1, h2⟩
theorem summed_empty (h : ¬ (sumL p L = s ∧ ((cntL p L : Nat) : Int) = m)) (h2 : p.length = 8 ∨ ((cntL p L : Nat) : Int) + m ≤ 8) (h3 : cntL p L = 0) : summedM L ⟨kd, p, s, m, I, b⟩ = [emptyM p] := by
  unfold summedM
  rw [if_neg h, if_pos h2, if_pos h3]
theorem summed_items (h : ¬ (sumL p L = s ∧ ((cntL p L : Nat) : Int) = m)) (h2 : p.length = 8 ∨ ((cntL p L : Nat) : Int) + m ≤ 8) (h3 : cntL p L ≠ 0) : summedM L ⟨kd, p, s, m, I, b⟩ = itemsM p (belowL p L) false := by
  unfold summedM
  rw [if_neg h, if_pos h2, if_neg h3]
theorem summed_split (h : ¬ (sumL p L = s ∧ ((cntL p L : Nat) : Int) = m)) (h2 : ¬ (p.length = 8 ∨ ((cntL p L : Nat) : Int) + m ≤ 8)) : summedM L ⟨kd, p, s, m, I, b⟩ = splitM p L 16 := by
  unfold summedM
  rw [if_neg h, if_neg h2]
theorem splitM_succ (p : List UInt8) (L : List Att) (u : UInt8) : splitM p L (u.toNat + 1) = splitM p L u.toNat ++ [summaryM (p ++ [u]) L] := by
  unfold splitM
  rw [List.range_succ, List.map_append]
  simp
theorem replies_no {M : Msg} (h : ¬ mayM M) : repliesM L M = [] ∧ learnsM L M = [] := by
  unfold repliesM learnsM
  exact ⟨if_neg h, if_neg h⟩
theorem replies_sum (h : mayM ⟨kd, p, s, m, I, b⟩) (hk : kd = 1) : repliesM L ⟨kd, p, s, m, I, b⟩ = summedM L ⟨kd, p, s, m, I, b⟩ ∧ learnsM L ⟨kd, p, s, m, I, b⟩ = [] := by
  subst hk
  unfold repliesM learnsM
  rw [if_pos h, if_pos h, if_pos rfl, if_pos rfl]
  exact ⟨rfl, rfl⟩
theorem replies_ans (h : mayM ⟨kd, p, s, m, I, true⟩) (hk : kd ≠ 1) : repliesM L ⟨kd, p, s, m, I, true⟩ = [] ∧ learnsM L ⟨kd, p, s, m, I, true⟩ = I.filter fun y => decide (y ∉ L) := by
  unfold repliesM learnsM
  rw [if_pos h, if_pos h, if_neg hk, if_neg hk]
  exact ⟨rfl, rfl⟩
theorem replies_two (h : mayM ⟨kd, p, s, m, I, false⟩) (hk : kd ≠ 1) : repliesM L ⟨kd, p, s, m, I, false⟩ = itemsM p ((belowL p L).filter fun y => decide (y ∉ I)) true ∧ learnsM L ⟨kd, p, s, m, I, false⟩ = I.filter fun y => decide (y ∉ L) := by
  unfold repliesM learnsM
  rw [if_pos h, if_pos h, if_neg hk, if_neg hk]
  exact ⟨rfl, rfl⟩
theorem rawok_sum {w : World} {b1 e1 pn pc : Nat} {P : Option Addr} {d : List UInt8} (hP : Own8 w b1 e1 P pn pc p) (hd : d = sumL p L) (hdl : d.length = 32) : RawOk w ⟨1, P, pn, pc, d, (((belowL p L).length : Nat) : Int), none, 0, 0, false, hdl⟩ (summaryM p L) :=
  ⟨rfl, hd, rfl, rfl, hP.byt, SlA.nil _ _, hP.nil, fun _ => rfl, ⟨Nat.le_refl _, Nat.zero_le _⟩, hP.nc, Nat.le_trans hP.cm (by unfold maxLen; omega)⟩
theorem rawok_empty {w : World} {b1 e1 pn pc : Nat} {P : Option Addr} (hP : Own8 w b1 e1 P pn pc p) : RawOk w ⟨2, P, pn, pc, z32, 0, none, 0, 0, false, rfl⟩ (emptyM p) :=
  ⟨rfl, rfl, rfl, rfl, hP.byt, SlA.nil _ _, hP.nil, fun _ => rfl, ⟨Nat.le_refl _, Nat.zero_le _⟩, hP.nc, Nat.le_trans hP.cm (by unfold maxLen; omega)⟩
theorem filter_snoc {x : Att} {i : Nat} (hx : I[i]? = some x) (f : Att → Bool) : (I.take (i + 1)).filter f = (I.take i).filter f ++ (if f x then [x] else []) := by
  obtain ⟨hi, rfl⟩ := List.getElem?_eq_some_iff.1 hx
  rw [List.take_succ_eq_append_getElem hi, List.filter_append]
  congr 1
  cases hf : f I[i] <;> simp [hf]
end
end Mur
