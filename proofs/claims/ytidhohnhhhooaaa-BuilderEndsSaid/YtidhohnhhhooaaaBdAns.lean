/- The builder's reference, walked: Answers. -/
import Derived.Test.YtidhohnhhhooaaaBdWalk
import Derived.Test.YtidhohnhhhooaaaBdRef
import Derived.Test.YtidhohnhhhooaaaWkM
namespace Go.Proofs.Ytidhohnhhhooaaa
open Go.RowKit
open Mur (Fct Ref Tolds Tls refTo outsTo wants)
set_option maxRecDepth 100000
set_option maxHeartbeats 4000000
def Answers_F0 (b : Array Value) (u0 : Value) (u1 : Value) (u2 : Value) (u7 : Value) (u8 : Value) (u9 : Value) (u10 : Value) (u11 : Value) : Act := ⟨#[u0, u1, u2, b.getD 3 undef, b.getD 4 undef, b.getD 5 undef, b.getD 6 undef, u7, u8, u9, u10, u11, b.getD 12 undef, b.getD 13 undef, b.getD 14 undef, b.getD 15 undef, b.getD 16 undef, b.getD 17 undef, b.getD 18 undef, b.getD 19 undef, b.getD 20 undef, b.getD 21 undef, b.getD 22 undef, b.getD 23 undef, b.getD 24 undef, b.getD 25 undef, b.getD 26 undef, b.getD 27 undef, b.getD 28 undef, b.getD 29 undef, b.getD 30 undef, b.getD 31 undef, b.getD 32 undef, b.getD 33 undef, b.getD 34 undef, b.getD 35 undef, b.getD 36 undef, b.getD 37 undef, b.getD 38 undef, b.getD 39 undef, b.getD 40 undef, b.getD 41 undef, b.getD 42 undef, b.getD 43 undef, b.getD 44 undef, b.getD 45 undef, b.getD 46 undef, b.getD 47 undef, b.getD 48 undef, b.getD 49 undef, b.getD 50 undef, b.getD 51 undef, b.getD 52 undef, b.getD 53 undef, b.getD 54 undef, b.getD 55 undef, b.getD 56 undef, b.getD 57 undef, b.getD 58 undef, b.getD 59 undef, b.getD 60 undef, b.getD 61 undef, b.getD 62 undef, b.getD 63 undef, b.getD 64 undef, b.getD 65 undef, b.getD 66 undef, b.getD 67 undef, b.getD 68 undef, b.getD 69 undef, b.getD 70 undef, b.getD 71 undef, b.getD 72 undef, b.getD 73 undef, b.getD 74 undef, b.getD 75 undef, b.getD 76 undef, b.getD 77 undef, b.getD 78 undef, b.getD 79 undef, b.getD 80 undef, b.getD 81 undef, b.getD 82 undef, b.getD 83 undef, b.getD 84 undef, b.getD 85 undef, b.getD 86 undef, b.getD 87 undef, b.getD 88 undef, b.getD 89 undef, b.getD 90 undef, b.getD 91 undef, b.getD 92 undef, b.getD 93 undef, b.getD 94 undef, b.getD 95 undef, b.getD 96 undef, b.getD 97 undef, b.getD 98 undef, b.getD 99 undef, b.getD 100 undef, b.getD 101 undef, b.getD 102 undef, b.getD 103 undef, b.getD 104 undef, b.getD 105 undef, b.getD 106 undef, b.getD 107 undef, b.getD 108 undef, b.getD 109 undef, b.getD 110 undef, b.getD 111 undef, b.getD 112 undef, b.getD 113 undef], []⟩
theorem refTo_succ {most budget : Int} {l : Tls} {k : Nat} {r : Ref} {x x0 : Int} {f f0 : Fct} (hx : l[k]? = some (x, f)) (h : refTo most budget l k = r) (h0 : l[0]? = some (x0, f0)) : refTo most budget l (k + 1) = r.next x0 most budget x f := by
  have e : Mur.firstOf l = x0 := by simp [Mur.firstOf, List.getD_eq_getElem?_getD, h0]
  rw [Mur.refTo, hx]
  simp only [h, e]
theorem outs_last {most budget : Int} {l : Tls} {k : Nat} {st bg po : Int} {fd : Bool} (h : refTo most budget l k = ⟨st, fd, bg, po⟩) (hk : 1 ≤ k) : (wants (outsTo most budget l k))[(k - 1) * 1]? = some (.int .u8 po) := by
  rw [Nat.mul_one]
  unfold wants
  rw [List.getElem?_map, Mur.outsTo_get _ _ _ _ _ (by omega), show k - 1 + 1 = k by omega, h]
  rfl
theorem own_next {w : World} {B e : Nat} {v : Value} {most budget : Int} {l : Tls} {k : Nat} {st bg po : Int} {fd : Bool} (h : w.ownsRow B e 1 v (k + 1) (wants (outsTo most budget l k) ++ [.int .u8 po])) (h2 : refTo most budget l (k + 1) = ⟨st, fd, bg, po⟩) : w.ownsRow B e 1 v (k + 1) (wants (outsTo most budget l (k + 1))) := by
  rw [Mur.outsTo_succ, h2]
  unfold wants
  rw [List.map_append]
  exact h
theorem kpos {most budget : Int} {l : Tls} {k : Nat} {st bg po : Int} {fd : Bool} (h3 : st = 3) (h : refTo most budget l k = ⟨st, fd, bg, po⟩) : 1 ≤ k := by
  rcases k with _ | k
  · simp only [refTo, Ref.mk.injEq] at h
    omega
  · omega
theorem Answers_any (most budget : Int) (l : Tls) (A : Option Addr) (n c : Nat) (w : World) (hl : Tolds w A n l) (hn : n ≤ 1000) (hm : 0 ≤ most ∧ most ≤ 1000000) (hb : 0 ≤ budget ∧ budget ≤ 1000000) (hr : ∀ x ∈ l, 0 ≤ x.1 ∧ x.1 ≤ 1000000000) :
    Calls Try.prog 9 #[.int .i64 most, .int .i64 budget, .slice A n c] w
      fun e w' => ∃ v, e = .returned v ∧ w'.ownsRow w.heap.size 35 1 v n (wants (outsTo most budget l n)) ∧ Below w.heap.size w w' := by
  have HL := Go.Lib.hid hl
  have HR2 := Go.Lib.hid hr; clear hr hl
  obtain ⟨hm1, hm2⟩ := hm
  obtain ⟨hb1, hb2⟩ := hb
  refine calls_of_wp Try.func9 rfl ?_
  refine wp_seq ?_
  refine Wk.reg ?_
  refine Wk.rPure 0 (some 6) (.slice none 0 0) rfl rfl (by kernel_rfl) (by kernel_rfl) ?_
  refine Wk.rEnd 1 rfl ?_
  refine Wk.nxt ?_
  refine wp_seq ?_
  refine Wk.reg ?_
  refine Wk.rPure 0 (some 7) (.slice none 0 0) rfl rfl (by kernel_rfl) (by kernel_rfl) ?_
  refine Wk.rEnd 1 rfl ?_
  refine Wk.nxt ?_
  refine wp_seq ?_
  refine Wk.reg ?_
  refine Wk.rPure 0 (some 8) (.int .i64 0) rfl rfl (by kernel_rfl) (by kernel_rfl) ?_
  refine Wk.rEnd 1 rfl ?_
  refine Wk.nxt ?_
  refine wp_seq ?_
  refine Wk.reg ?_
  refine Wk.rPure 0 (some 9) (.bool false) rfl rfl (by kernel_rfl) (by kernel_rfl) ?_
  refine Wk.rEnd 1 rfl ?_
  refine Wk.nxt ?_
  refine wp_seq ?_
  refine Wk.reg ?_
  refine Wk.rPure 0 (some 10) (.int .i64 0) rfl rfl (by kernel_rfl) (by kernel_rfl) ?_
  refine Wk.rEnd 1 rfl ?_
  refine Wk.nxt ?_
  refine wp_seq ?_
  refine wp_seq ?_
  refine Wk.reg ?_
  refine Wk.rPure 0 (some 11) (.int .i64 0) rfl rfl (by kernel_rfl) (by kernel_rfl) ?_
  refine Wk.rEnd 1 rfl ?_
  refine Wk.nxt ?_
  refine wp_block ?_
  refine Wk.loop (fun m a wr => ∃ (k : Nat) (A3 : Option Addr) (c3 : Nat) (st : Int) (fd : Bool) (bg : Int) (po : Int), m = n - k ∧ a = Answers_F0 a.tmps (.int .i64 most) (.int .i64 budget) (.slice A n c) (.slice A3 k c3) (.int .i64 st) (.bool fd) (.int .i64 bg) (.int .i64 ((k : Nat) : Int)) ∧ (k ≤ n ∧ 0 ≤ bg ∧ bg ≤ 1000000000) ∧ Hid (refTo most budget l k = ⟨st, fd, bg, po⟩) ∧ wr.ownsRow w.heap.size 35 1 (.slice A3 k c3) k (wants (outsTo most budget l k)) ∧ Wk.Chg [] w wr) (n - 0) ?_ ?_
  · refine ⟨0, none, 0, _, _, _, _, rfl, by kernel_rfl, ⟨Nat.zero_le _, by simp⟩, rfl, ⟨rfl, .inl ⟨rfl, rfl⟩⟩, Wk.Chg.refl _⟩
  · rintro mm1 aa1 W1 ⟨k, A3, c3, st, fd, bg, po, hmm1, hF1, ⟨hk, hr⟩, HRR, HO, HB⟩
    generalize aa1.tmps = bb1 at hF1
    subst hF1
    obtain ⟨r1, r2⟩ := hr
    have LT := World.ownsRow.lt HO
    have hsz : w.heap.size ≤ W1.heap.size := HB.size
    by_cases hlt : k < n
    · obtain ⟨g, off, rfl, hc⟩ := HL.out.2 (by omega)
      obtain ⟨⟨x, f⟩, hx⟩ : ∃ p, l[k]? = some p := ⟨_, List.getElem?_eq_getElem (by rw [HL.out.1]; exact hlt)⟩
      obtain ⟨⟨x0, f0⟩, hx0⟩ : ∃ p, l[0]? = some p := ⟨_, List.getElem?_eq_getElem (by rw [HL.out.1]; omega)⟩
      obtain ⟨rx1, rx2⟩ := HR2.out _ (List.mem_of_getElem? hx)
      obtain ⟨rz1, rz2⟩ := HR2.out _ (List.mem_of_getElem? hx0)
      simp only at rx1 rx2 rz1 rz2
      obtain ⟨b0, b1, b2, b3, b4, b5, b6, b7⟩ := f
      obtain ⟨q, qf⟩ := hc k x _ hx
      have qz := (hc 0 x0 f0 hx0).1
      have hg : g < w.heap.size := World.block_lt_of_cell? w _ q
      have qF : w.rangeAt g (off + k * 9 + 1) [.bool b0, .bool b1, .bool b2, .bool b3, .bool b4, .bool b5, .bool b6, .bool b7] := fun j v hv => qf j v hv
      have HX := Go.Lib.hid hx; clear hx
      have HX0 := Go.Lib.hid hx0; clear hx0
      clear hc qf
      refine wp_seq ?_
      refine wp_seq ?_
      refine Wk.reg ?_
      refine Wk.rPure 0 (some 14) (.int .i64 ((k : Nat) : Int)) rfl rfl (by kernel_rfl) (by kernel_rfl) ?_
      refine Wk.rPure 1 (some 15) (.slice (some ⟨g, off, none⟩) n c) rfl rfl (by kernel_rfl) (by kernel_rfl) ?_
      refine Wk.rPure 2 (some 16) (.int .i64 ((n : Nat) : Int)) rfl rfl (by kernel_rfl) (by kernel_rfl) ?_
      refine Wk.rPure 3 (some 17) (.bool true) rfl rfl (by kernel_rfl) (Wk.boolT (b := decide (((k : Nat) : Int) < ((n : Nat) : Int))) (decide_eq_true (by omega)) (by kernel_rfl)) ?_
      refine Wk.rEnd 4 rfl ?_
      refine Wk.nxt ?_
      refine wp_cond_true (by kernel_rfl) ?_
      refine wp_skip ?_
      refine Wk.nxt ?_
      refine wp_seq ?_
      refine wp_block ?_
      refine wp_seq ?_
      refine Wk.dReg [] (by kernel_rfl) ?_
      intro W2 ch1 sz1
      have zz1 := ch1.size
      have sS1 : Wk.Chg [] W2 W2 := (Wk.Chg.refl _).more (by simp)
      refine Wk.dVal 0 (some 20) (.slice (some ⟨g, off, none⟩) n c) rfl rfl (by kernel_rfl) (by kernel_rfl) (by kernel_rfl) (fun _ _ _ h => h) (by kernel_rfl) (fun w' hw' => by kernel_rfl) sS1 ?_
      refine Wk.dVal 1 (some 21) (.int .i64 ((k : Nat) : Int)) rfl rfl (by kernel_rfl) (by kernel_rfl) (by kernel_rfl) (fun _ _ _ h => h) (by kernel_rfl) (fun w' hw' => by kernel_rfl) sS1 ?_
      refine Wk.dVal 2 (some 22) (.pointer (some ⟨g, off + k * 9, none⟩)) rfl rfl (by kernel_rfl) (by kernel_rfl) (by kernel_rfl) (fun _ _ _ h => h) (by kernel_rfl) (fun w' hw' => (Wk.index_sl 26 32 (.tmp 20) (.tmp 21) rfl Try.underlying26 9 (by kernel_rfl) g off n c k .i64 (by kernel_rfl) (by kernel_rfl) (by omega))) sS1 ?_
      refine Wk.dVal 3 (some 23) (.pointer (some ⟨g, off + k * 9, none⟩)) rfl rfl (by kernel_rfl) (by kernel_rfl) (by kernel_rfl) (fun _ _ _ h => h) (by kernel_rfl) (fun w' hw' => by kernel_rfl) sS1 ?_
      have kk1 := Wk.Chg.step HB ch1 trivial
      refine Wk.dVal 4 (some 24) (.int .i64 x) rfl rfl (by kernel_rfl) (by kernel_rfl) (by kernel_rfl) (fun _ _ _ h => h) (by kernel_rfl) (fun w' hw' => (Wk.load1 3 (.tmp 23) rfl (by kernel_rfl) ⟨g, off + k * 9, none⟩ (by kernel_rfl) (.int .i64 x) (Wk.Chg.cell hw' (Wk.Chg.cell kk1 q trivial) trivial))) sS1 ?_
      refine Wk.dVal 5 (some 25) (.slice (some ⟨g, off, none⟩) n c) rfl rfl (by kernel_rfl) (by kernel_rfl) (by kernel_rfl) (fun _ _ _ h => h) (by kernel_rfl) (fun w' hw' => by kernel_rfl) sS1 ?_
      refine Wk.dVal 6 (some 26) (.int .i64 ((k : Nat) : Int)) rfl rfl (by kernel_rfl) (by kernel_rfl) (by kernel_rfl) (fun _ _ _ h => h) (by kernel_rfl) (fun w' hw' => by kernel_rfl) sS1 ?_
      refine Wk.dVal 7 (some 27) (.pointer (some ⟨g, off + k * 9, none⟩)) rfl rfl (by kernel_rfl) (by kernel_rfl) (by kernel_rfl) (fun _ _ _ h => h) (by kernel_rfl) (fun w' hw' => (Wk.index_sl 26 32 (.tmp 25) (.tmp 26) rfl Try.underlying26 9 (by kernel_rfl) g off n c k .i64 (by kernel_rfl) (by kernel_rfl) (by omega))) sS1 ?_
      refine Wk.dVal 8 (some 28) (.pointer (some ⟨g, off + k * 9 + 1, none⟩)) rfl rfl (by kernel_rfl) (by kernel_rfl) (by kernel_rfl) (fun _ _ _ h => h) (by kernel_rfl) (fun w' hw' => by kernel_rfl) sS1 ?_
      refine Wk.dVal 9 (some 29) (.agg #[.bool b0, .bool b1, .bool b2, .bool b3, .bool b4, .bool b5, .bool b6, .bool b7]) rfl rfl (by kernel_rfl) (by kernel_rfl) (by kernel_rfl) (fun _ _ _ h => h) (by kernel_rfl) (fun w' hw' => (Wk.loadR 28 (.tmp 28) rfl _ Try.underlying28 rfl g (off + k * 9 + 1) (by kernel_rfl) ([.bool b0, .bool b1, .bool b2, .bool b3, .bool b4, .bool b5, .bool b6, .bool b7]) (by kernel_rfl) (Wk.Chg.range hw' (Wk.Chg.range kk1 qF trivial) trivial))) sS1 ?_
      refine Wk.dOp 10 (by kernel_rfl) ?_
      refine Wk.oEx (some 13) _ rfl rfl (by kernel_rfl) (Wk.new_ex (.pointer (some ⟨W2.heap.size, 0, none⟩)) #[.bool false, .bool false, .bool false, .bool false, .bool false, .bool false, .bool false, .bool false] 28 (by kernel_rfl)) ?_
      rintro _ W3 ⟨rfl, hb1, ch2, sz2⟩
      have zz2 := ch2.size
      have sS2 := Wk.Chg.step sS1 ch2 trivial
      refine ⟨sS2, ?_⟩
      refine Wk.dVal 11 (some 12) (.int .i64 x) rfl rfl (by kernel_rfl) (by kernel_rfl) (by kernel_rfl) (fun _ _ _ h => h) (by kernel_rfl) (fun w' hw' => by kernel_rfl) sS2 ?_
      refine Wk.dOp 12 (by kernel_rfl) ?_
      refine Wk.oExS none _ rfl rfl (by kernel_rfl) (Wk.storeR 28 (.tmp 13) (.tmp 29) rfl W2.heap.size 0 (by kernel_rfl) ([.bool b0, .bool b1, .bool b2, .bool b3, .bool b4, .bool b5, .bool b6, .bool b7]) (by kernel_rfl) (by kernel_rfl) (by intro v hv; simp at hv; rcases hv with h | h | h | h | h | h | h | h <;> (subst h; rfl)) 28 ([.bool false, .bool false, .bool false, .bool false, .bool false, .bool false, .bool false, .bool false]) hb1 (by simp)) ?_
      rintro W4 ⟨hb2, ch3⟩
      replace hb2 : W4.heap[W2.heap.size]? = some (.cells #[.bool b0, .bool b1, .bool b2, .bool b3, .bool b4, .bool b5, .bool b6, .bool b7] 28 (0, 0)) := hb2
      have zz3 := ch3.size
      have sS3 := Wk.Chg.step sS2 ch3 ⟨.inr (by omega), trivial⟩
      refine ⟨sS3, ?_⟩
      refine Wk.dEnd (by kernel_rfl) ?_
      refine Wk.nxt ?_
      refine wp_seq ?_
      refine wp_seq ?_
      refine Wk.reg ?_
      refine Wk.rPure 0 (some 30) (.int .i64 st) rfl rfl (by kernel_rfl) (by kernel_rfl) ?_
      by_cases hx1 : st = (3 : Int)
      · refine Wk.rPure 1 (some 31) (.bool true) rfl rfl (by kernel_rfl) (Wk.boolT (b := (st == (3 : Int))) (beq_iff_eq.2 (by first | exact hx1 | omega)) (by kernel_rfl)) ?_
        refine Wk.rEnd 2 rfl ?_
        refine Wk.nxt ?_
        refine wp_cond_true (by kernel_rfl) ?_
        refine wp_seq ?_
        refine Wk.reg ?_
        refine Wk.rPure 0 (some 32) (.slice A3 k c3) rfl rfl (by kernel_rfl) (by kernel_rfl) ?_
        refine Wk.rPure 1 (some 33) (.slice A3 k c3) rfl rfl (by kernel_rfl) (by kernel_rfl) ?_
        refine Wk.rPure 2 (some 34) (.int .i64 ((k : Nat) : Int)) rfl rfl (by kernel_rfl) (by kernel_rfl) ?_
        have hk1 := kpos (by first | exact hx1 | omega) HRR.out
        obtain ⟨g3, rfl, hs3⟩ := Wk.own_some HO (by omega)
        have hg3 := LT g3 rfl
        have q3 := Wk.Sl.cell hs3 (outs_last HRR.out hk1)
        refine Wk.rPure 3 (some 35) (.int .i64 ((k - 1 : Nat) : Int)) rfl rfl (by kernel_rfl) (Wk.int64 (n := ((k : Nat) : Int) - 1) (z := ((k - 1 : Nat) : Int)) (by omega) (by omega) (by omega) (by kernel_rfl)) ?_
        refine Wk.rPure 4 (some 36) (.pointer (some ⟨g3, 0 + (k - 1) * 1, none⟩)) rfl rfl (by kernel_rfl) (Wk.index_sl 33 35 (.tmp 33) (.tmp 35) rfl Try.underlying33 1 (by kernel_rfl) g3 0 k c3 (k - 1) .i64 (by kernel_rfl) (by kernel_rfl) (by omega)) ?_
        refine Wk.rPure 5 (some 37) (.int .u8 po) rfl rfl (by kernel_rfl) (Wk.load1 35 (.tmp 36) rfl (by kernel_rfl) ⟨g3, 0 + (k - 1) * 1, none⟩ (by kernel_rfl) (.int .u8 po) (Wk.Chg.cell ch3 (Wk.Chg.cell ch2 (Wk.Chg.cell ch1 q3 trivial) trivial) ⟨by omega, trivial⟩)) ?_
        refine Wk.rEx 6 (some 38) _ rfl rfl (by kernel_rfl) (Wk.new_ex (.slice (some ⟨W4.heap.size, 0, none⟩) 1 1) #[.int .u8 po] 35 (by kernel_rfl)) ?_
        rintro _ W5 ⟨rfl, hb3, ch4, sz3⟩
        have zz4 := ch4.size
        refine Wk.rEx 7 (some 39) _ rfl rfl (by kernel_rfl) (Wk.append_run (.tmp 32) (.tmp 38) 33 35 rfl Try.underlying33 (.int .u8 0) 1 1 (by kernel_rfl) rfl (by omega) w.heap.size (.slice (some ⟨g3, 0, none⟩) k c3) k (wants (outsTo most budget l k)) (some ⟨W4.heap.size, 0, none⟩) 1 1 ([.int .u8 po]) (by kernel_rfl) (by kernel_rfl) (Wk.own_chg (Wk.own_chg (Wk.own_chg (Wk.own_chg HO ch1 (fun g e _ _ => trivial)) ch2 (fun g e _ _ => trivial)) ch3 (fun g e _ _ => ⟨by have := LT g e; omega, trivial⟩)) ch4 (fun g e _ _ => trivial)) (Wk.sl_blk 1 1 hb3 rfl) (fun h => by cases h) (by intro v hv; simp at hv; subst hv; rfl) (by omega) (by unfold maxLen; omega) (by omega)) ?_
        rintro vv1 W6 ⟨HO1, ch5, ha1⟩
        obtain ⟨AA1, nn1, rfl, hcc1, hmm2, hN1, HS1, hl1⟩ := Wk.own_sl HO1
        have lt1 := World.ownsRow.lt HO1
        have zz5 := ch5.size
        refine Wk.rPure 8 (some 7) (.slice AA1 (k + 1) nn1) rfl rfl (by kernel_rfl) (by kernel_rfl) ?_
        refine Wk.rEnd 9 rfl ?_
        refine Wk.nxt ?_
        refine wp_exit ?_
        refine Wk.thX ?_
        refine Wk.inX ?_
        refine Wk.nxt ?_
        refine Wk.reg ?_
        refine Wk.rPure 0 (some 18) (.int .i64 ((k : Nat) : Int)) rfl rfl (by kernel_rfl) (by kernel_rfl) ?_
        refine Wk.rPure 1 (some 19) (.int .i64 ((k + 1 : Nat) : Int)) rfl rfl (by kernel_rfl) (Wk.int64 (n := ((k : Nat) : Int) + 1) (z := ((k + 1 : Nat) : Int)) (by omega) (by omega) (by omega) (by kernel_rfl)) ?_
        refine Wk.rPure 2 (some 11) (.int .i64 ((k + 1 : Nat) : Int)) rfl rfl (by kernel_rfl) (by kernel_rfl) ?_
        refine Wk.rEnd 3 rfl ?_
        refine Wk.nxt ?_
        have kk2 := Wk.Chg.step kk1 ch2 trivial
        have kk3 := Wk.Chg.step kk2 ch3 ⟨.inr (by omega), trivial⟩
        have kk4 := Wk.Chg.step kk3 ch4 trivial
        have kk5 := Wk.Chg.step kk4 ch5 (Wk.newOr_blk (fun g hg => by have := LT g hg; omega))
        have hR2 : refTo most budget l (k + 1) = ⟨st, fd, bg, po⟩ := by rw [refTo_succ HX.out HRR.out HX0.out]; simp [Ref.next, *]
        refine ⟨_, ?_, k + 1, AA1, nn1, st, fd, bg, po, rfl, by kernel_rfl, ⟨by omega, by omega⟩, hR2, own_next HO1 hR2, kk5⟩
        · omega
      · refine Wk.rPure 1 (some 31) (.bool false) rfl rfl (by kernel_rfl) (Wk.boolF (b := (st == (3 : Int))) (beq_eq_false_iff_ne.2 (by first | exact hx1 | omega)) (by kernel_rfl)) ?_
        refine Wk.rEnd 2 rfl ?_
        refine Wk.nxt ?_
        refine wp_cond_false (by kernel_rfl) ?_
        refine wp_skip ?_
        refine Wk.nxt ?_
        refine wp_seq ?_
        refine wp_seq ?_
        refine Wk.reg ?_
        refine Wk.rPure 0 (some 40) (.pointer (some ⟨W2.heap.size, 0, none⟩)) rfl rfl (by kernel_rfl) (by kernel_rfl) ?_
        refine Wk.rPure 1 (some 41) (.bool b0) rfl rfl (by kernel_rfl) (Wk.load1 4 (.tmp 40) rfl (by kernel_rfl) ⟨W2.heap.size, 0, none⟩ (by kernel_rfl) (.bool b0) ((cell_of_row _ _ 0 _ _ _ hb2).trans rfl)) ?_
        refine Wk.rEnd 2 rfl ?_
        refine Wk.nxt ?_
        cases b0
        · refine wp_cond_false (by kernel_rfl) ?_
          refine wp_skip ?_
          refine Wk.nxt ?_
          refine wp_seq ?_
          refine wp_seq ?_
          refine Wk.reg ?_
          refine Wk.rPure 0 (some 45) (.int .i64 st) rfl rfl (by kernel_rfl) (by kernel_rfl) ?_
          by_cases hx2 : st = (2 : Int)
          · refine Wk.rPure 1 (some 46) (.bool true) rfl rfl (by kernel_rfl) (Wk.boolT (b := (st == (2 : Int))) (beq_iff_eq.2 (by first | exact hx2 | omega)) (by kernel_rfl)) ?_
            refine Wk.rEnd 2 rfl ?_
            refine Wk.nxt ?_
            refine wp_cond_true (by kernel_rfl) ?_
            refine wp_seq ?_
            refine wp_block ?_
            refine wp_seq ?_
            refine Wk.reg ?_
            refine Wk.rPure 0 (some 51) (.pointer (some ⟨W2.heap.size, 6, none⟩)) rfl rfl (by kernel_rfl) (by kernel_rfl) ?_
            refine Wk.rPure 1 (some 52) (.bool b6) rfl rfl (by kernel_rfl) (Wk.load1 4 (.tmp 51) rfl (by kernel_rfl) ⟨W2.heap.size, 6, none⟩ (by kernel_rfl) (.bool b6) ((cell_of_row _ _ 6 _ _ _ hb2).trans rfl)) ?_
            refine Wk.rPure 2 (some 50) (.bool b6) rfl rfl (by kernel_rfl) (by kernel_rfl) ?_
            refine Wk.rEnd 3 rfl ?_
            refine Wk.nxt ?_
            cases b6
            · refine wp_cond_false (by kernel_rfl) ?_
              refine wp_seq ?_
              refine Wk.reg ?_
              refine Wk.rPure 0 (some 57) (.pointer (some ⟨W2.heap.size, 7, none⟩)) rfl rfl (by kernel_rfl) (by kernel_rfl) ?_
              refine Wk.rPure 1 (some 58) (.bool b7) rfl rfl (by kernel_rfl) (Wk.load1 4 (.tmp 57) rfl (by kernel_rfl) ⟨W2.heap.size, 7, none⟩ (by kernel_rfl) (.bool b7) ((cell_of_row _ _ 7 _ _ _ hb2).trans rfl)) ?_
              refine Wk.rPure 2 (some 56) (.bool b7) rfl rfl (by kernel_rfl) (by kernel_rfl) ?_
              refine Wk.rEnd 3 rfl ?_
              refine Wk.nxt ?_
              cases b7
              · refine wp_cond_false (by kernel_rfl) ?_
                refine Wk.reg ?_
                refine Wk.rPure 0 (some 47) (.slice A3 k c3) rfl rfl (by kernel_rfl) (by kernel_rfl) ?_
                refine Wk.rEx 1 (some 48) _ rfl rfl (by kernel_rfl) (Wk.new_ex (.slice (some ⟨W4.heap.size, 0, none⟩) 1 1) #[.int .u8 3] 35 (by kernel_rfl)) ?_
                rintro _ W7 ⟨rfl, hb4, ch6, sz4⟩
                have zz6 := ch6.size
                refine Wk.rEx 2 (some 49) _ rfl rfl (by kernel_rfl) (Wk.append_run (.tmp 47) (.tmp 48) 33 35 rfl Try.underlying33 (.int .u8 0) 1 1 (by kernel_rfl) rfl (by omega) w.heap.size (.slice A3 k c3) k (wants (outsTo most budget l k)) (some ⟨W4.heap.size, 0, none⟩) 1 1 ([.int .u8 3]) (by kernel_rfl) (by kernel_rfl) (Wk.own_chg (Wk.own_chg (Wk.own_chg (Wk.own_chg HO ch1 (fun g e _ _ => trivial)) ch2 (fun g e _ _ => trivial)) ch3 (fun g e _ _ => ⟨by have := LT g e; omega, trivial⟩)) ch6 (fun g e _ _ => trivial)) (Wk.sl_blk 1 1 hb4 rfl) (fun h => by cases h) (by intro v hv; simp at hv; subst hv; rfl) (by omega) (by unfold maxLen; omega) (by omega)) ?_
                rintro vv2 W8 ⟨HO2, ch7, ha2⟩
                obtain ⟨AA2, nn2, rfl, hcc2, hmm3, hN2, HS2, hl2⟩ := Wk.own_sl HO2
                have lt2 := World.ownsRow.lt HO2
                have zz7 := ch7.size
                refine Wk.rPure 3 (some 7) (.slice AA2 (k + 1) nn2) rfl rfl (by kernel_rfl) (by kernel_rfl) ?_
                refine Wk.rEnd 4 rfl ?_
                refine Wk.inN ?_
                refine Wk.nxt ?_
                refine wp_exit ?_
                refine Wk.thX ?_
                refine Wk.inX ?_
                refine Wk.nxt ?_
                refine Wk.reg ?_
                refine Wk.rPure 0 (some 18) (.int .i64 ((k : Nat) : Int)) rfl rfl (by kernel_rfl) (by kernel_rfl) ?_
                refine Wk.rPure 1 (some 19) (.int .i64 ((k + 1 : Nat) : Int)) rfl rfl (by kernel_rfl) (Wk.int64 (n := ((k : Nat) : Int) + 1) (z := ((k + 1 : Nat) : Int)) (by omega) (by omega) (by omega) (by kernel_rfl)) ?_
                refine Wk.rPure 2 (some 11) (.int .i64 ((k + 1 : Nat) : Int)) rfl rfl (by kernel_rfl) (by kernel_rfl) ?_
                refine Wk.rEnd 3 rfl ?_
                refine Wk.nxt ?_
                have kk6 := Wk.Chg.step kk1 ch2 trivial
                have kk7 := Wk.Chg.step kk6 ch3 ⟨.inr (by omega), trivial⟩
                have kk8 := Wk.Chg.step kk7 ch6 trivial
                have kk9 := Wk.Chg.step kk8 ch7 (Wk.newOr_blk (fun g hg => by have := LT g hg; omega))
                have hR2 : refTo most budget l (k + 1) = ⟨st, fd, bg, 3⟩ := by rw [refTo_succ HX.out HRR.out HX0.out]; simp [Ref.next, *]
                refine ⟨_, ?_, k + 1, AA2, nn2, st, fd, bg, 3, rfl, by kernel_rfl, ⟨by omega, by omega⟩, hR2, own_next HO2 hR2, kk9⟩
                · omega
              · refine wp_cond_true (by kernel_rfl) ?_
                refine wp_seq ?_
                refine Wk.reg ?_
                refine Wk.rPure 0 (some 8) (.int .i64 3) rfl rfl (by kernel_rfl) (by kernel_rfl) ?_
                refine Wk.rEnd 1 rfl ?_
                refine Wk.nxt ?_
                refine Wk.reg ?_
                refine Wk.rPure 0 (some 59) (.slice A3 k c3) rfl rfl (by kernel_rfl) (by kernel_rfl) ?_
                refine Wk.rEx 1 (some 60) _ rfl rfl (by kernel_rfl) (Wk.new_ex (.slice (some ⟨W4.heap.size, 0, none⟩) 1 1) #[.int .u8 5] 35 (by kernel_rfl)) ?_
                rintro _ W9 ⟨rfl, hb5, ch8, sz5⟩
                have zz8 := ch8.size
                refine Wk.rEx 2 (some 61) _ rfl rfl (by kernel_rfl) (Wk.append_run (.tmp 59) (.tmp 60) 33 35 rfl Try.underlying33 (.int .u8 0) 1 1 (by kernel_rfl) rfl (by omega) w.heap.size (.slice A3 k c3) k (wants (outsTo most budget l k)) (some ⟨W4.heap.size, 0, none⟩) 1 1 ([.int .u8 5]) (by kernel_rfl) (by kernel_rfl) (Wk.own_chg (Wk.own_chg (Wk.own_chg (Wk.own_chg HO ch1 (fun g e _ _ => trivial)) ch2 (fun g e _ _ => trivial)) ch3 (fun g e _ _ => ⟨by have := LT g e; omega, trivial⟩)) ch8 (fun g e _ _ => trivial)) (Wk.sl_blk 1 1 hb5 rfl) (fun h => by cases h) (by intro v hv; simp at hv; subst hv; rfl) (by omega) (by unfold maxLen; omega) (by omega)) ?_
                rintro vv3 W10 ⟨HO3, ch9, ha3⟩
                obtain ⟨AA3, nn3, rfl, hcc3, hmm4, hN3, HS3, hl3⟩ := Wk.own_sl HO3
                have lt3 := World.ownsRow.lt HO3
                have zz9 := ch9.size
                refine Wk.rPure 3 (some 7) (.slice AA3 (k + 1) nn3) rfl rfl (by kernel_rfl) (by kernel_rfl) ?_
                refine Wk.rEnd 4 rfl ?_
                refine Wk.inN ?_
                refine Wk.nxt ?_
                refine wp_exit ?_
                refine Wk.thX ?_
                refine Wk.inX ?_
                refine Wk.nxt ?_
                refine Wk.reg ?_
                refine Wk.rPure 0 (some 18) (.int .i64 ((k : Nat) : Int)) rfl rfl (by kernel_rfl) (by kernel_rfl) ?_
                refine Wk.rPure 1 (some 19) (.int .i64 ((k + 1 : Nat) : Int)) rfl rfl (by kernel_rfl) (Wk.int64 (n := ((k : Nat) : Int) + 1) (z := ((k + 1 : Nat) : Int)) (by omega) (by omega) (by omega) (by kernel_rfl)) ?_
                refine Wk.rPure 2 (some 11) (.int .i64 ((k + 1 : Nat) : Int)) rfl rfl (by kernel_rfl) (by kernel_rfl) ?_
                refine Wk.rEnd 3 rfl ?_
                refine Wk.nxt ?_
                have kk10 := Wk.Chg.step kk1 ch2 trivial
                have kk11 := Wk.Chg.step kk10 ch3 ⟨.inr (by omega), trivial⟩
                have kk12 := Wk.Chg.step kk11 ch8 trivial
                have kk13 := Wk.Chg.step kk12 ch9 (Wk.newOr_blk (fun g hg => by have := LT g hg; omega))
                have hR2 : refTo most budget l (k + 1) = ⟨3, fd, bg, 5⟩ := by rw [refTo_succ HX.out HRR.out HX0.out]; simp [Ref.next, *]
                refine ⟨_, ?_, k + 1, AA3, nn3, 3, fd, bg, 5, rfl, by kernel_rfl, ⟨by omega, by omega⟩, hR2, own_next HO3 hR2, kk13⟩
                · omega
            · refine wp_cond_true (by kernel_rfl) ?_
              refine wp_seq ?_
              refine Wk.reg ?_
              refine Wk.rPure 0 (some 8) (.int .i64 3) rfl rfl (by kernel_rfl) (by kernel_rfl) ?_
              refine Wk.rEnd 1 rfl ?_
              refine Wk.nxt ?_
              refine Wk.reg ?_
              refine Wk.rPure 0 (some 53) (.slice A3 k c3) rfl rfl (by kernel_rfl) (by kernel_rfl) ?_
              refine Wk.rEx 1 (some 54) _ rfl rfl (by kernel_rfl) (Wk.new_ex (.slice (some ⟨W4.heap.size, 0, none⟩) 1 1) #[.int .u8 4] 35 (by kernel_rfl)) ?_
              rintro _ W11 ⟨rfl, hb6, ch10, sz6⟩
              have zz10 := ch10.size
              refine Wk.rEx 2 (some 55) _ rfl rfl (by kernel_rfl) (Wk.append_run (.tmp 53) (.tmp 54) 33 35 rfl Try.underlying33 (.int .u8 0) 1 1 (by kernel_rfl) rfl (by omega) w.heap.size (.slice A3 k c3) k (wants (outsTo most budget l k)) (some ⟨W4.heap.size, 0, none⟩) 1 1 ([.int .u8 4]) (by kernel_rfl) (by kernel_rfl) (Wk.own_chg (Wk.own_chg (Wk.own_chg (Wk.own_chg HO ch1 (fun g e _ _ => trivial)) ch2 (fun g e _ _ => trivial)) ch3 (fun g e _ _ => ⟨by have := LT g e; omega, trivial⟩)) ch10 (fun g e _ _ => trivial)) (Wk.sl_blk 1 1 hb6 rfl) (fun h => by cases h) (by intro v hv; simp at hv; subst hv; rfl) (by omega) (by unfold maxLen; omega) (by omega)) ?_
              rintro vv4 W12 ⟨HO4, ch11, ha4⟩
              obtain ⟨AA4, nn4, rfl, hcc4, hmm5, hN4, HS4, hl4⟩ := Wk.own_sl HO4
              have lt4 := World.ownsRow.lt HO4
              have zz11 := ch11.size
              refine Wk.rPure 3 (some 7) (.slice AA4 (k + 1) nn4) rfl rfl (by kernel_rfl) (by kernel_rfl) ?_
              refine Wk.rEnd 4 rfl ?_
              refine Wk.inN ?_
              refine Wk.nxt ?_
              refine wp_exit ?_
              refine Wk.thX ?_
              refine Wk.inX ?_
              refine Wk.nxt ?_
              refine Wk.reg ?_
              refine Wk.rPure 0 (some 18) (.int .i64 ((k : Nat) : Int)) rfl rfl (by kernel_rfl) (by kernel_rfl) ?_
              refine Wk.rPure 1 (some 19) (.int .i64 ((k + 1 : Nat) : Int)) rfl rfl (by kernel_rfl) (Wk.int64 (n := ((k : Nat) : Int) + 1) (z := ((k + 1 : Nat) : Int)) (by omega) (by omega) (by omega) (by kernel_rfl)) ?_
              refine Wk.rPure 2 (some 11) (.int .i64 ((k + 1 : Nat) : Int)) rfl rfl (by kernel_rfl) (by kernel_rfl) ?_
              refine Wk.rEnd 3 rfl ?_
              refine Wk.nxt ?_
              have kk14 := Wk.Chg.step kk1 ch2 trivial
              have kk15 := Wk.Chg.step kk14 ch3 ⟨.inr (by omega), trivial⟩
              have kk16 := Wk.Chg.step kk15 ch10 trivial
              have kk17 := Wk.Chg.step kk16 ch11 (Wk.newOr_blk (fun g hg => by have := LT g hg; omega))
              have hR2 : refTo most budget l (k + 1) = ⟨3, fd, bg, 4⟩ := by rw [refTo_succ HX.out HRR.out HX0.out]; simp [Ref.next, *]
              refine ⟨_, ?_, k + 1, AA4, nn4, 3, fd, bg, 4, rfl, by kernel_rfl, ⟨by omega, by omega⟩, hR2, own_next HO4 hR2, kk17⟩
              · omega
          · refine Wk.rPure 1 (some 46) (.bool false) rfl rfl (by kernel_rfl) (Wk.boolF (b := (st == (2 : Int))) (beq_eq_false_iff_ne.2 (by first | exact hx2 | omega)) (by kernel_rfl)) ?_
            refine Wk.rEnd 2 rfl ?_
            refine Wk.nxt ?_
            refine wp_cond_false (by kernel_rfl) ?_
            refine wp_skip ?_
            refine Wk.nxt ?_
            refine wp_seq ?_
            refine wp_seq ?_
            refine Wk.reg ?_
            refine Wk.rPure 0 (some 62) (.int .i64 st) rfl rfl (by kernel_rfl) (by kernel_rfl) ?_
            by_cases hx3 : st = (1 : Int)
            · refine Wk.rPure 1 (some 63) (.bool true) rfl rfl (by kernel_rfl) (Wk.boolT (b := (st == (1 : Int))) (beq_iff_eq.2 (by first | exact hx3 | omega)) (by kernel_rfl)) ?_
              refine Wk.rEnd 2 rfl ?_
              refine Wk.nxt ?_
              refine wp_cond_true (by kernel_rfl) ?_
              refine wp_seq ?_
              refine wp_seq ?_
              refine Wk.reg ?_
              refine Wk.rPure 0 (some 64) (.pointer (some ⟨W2.heap.size, 5, none⟩)) rfl rfl (by kernel_rfl) (by kernel_rfl) ?_
              refine Wk.rPure 1 (some 65) (.bool b5) rfl rfl (by kernel_rfl) (Wk.load1 4 (.tmp 64) rfl (by kernel_rfl) ⟨W2.heap.size, 5, none⟩ (by kernel_rfl) (.bool b5) ((cell_of_row _ _ 5 _ _ _ hb2).trans rfl)) ?_
              refine Wk.rPure 2 (some 66) (.bool (!b5)) rfl rfl (by kernel_rfl) (by kernel_rfl) ?_
              refine Wk.rPure 3 (some 67) (.bool (!b5)) rfl rfl (by kernel_rfl) (by kernel_rfl) ?_
              cases b5
              · refine Wk.rPure 4 (some 68) (.int .i64 x) rfl rfl (by kernel_rfl) (by kernel_rfl) ?_
                refine Wk.rPure 5 (some 69) (.int .i64 bg) rfl rfl (by kernel_rfl) (by kernel_rfl) ?_
                refine Wk.rPure 6 (some 70) (.int .i64 budget) rfl rfl (by kernel_rfl) (by kernel_rfl) ?_
                refine Wk.rPure 7 (some 71) (.int .i64 (bg + budget)) rfl rfl (by kernel_rfl) (Wk.int64 (n := bg + budget) (z := bg + budget) (by omega) (by omega) (by omega) (by kernel_rfl)) ?_
                by_cases hx4 : x < (bg + budget)
                · refine Wk.rPure 8 (some 72) (.bool true) rfl rfl (by kernel_rfl) (Wk.boolT (b := decide (x < (bg + budget))) (decide_eq_true (by first | exact hx4 | omega)) (by kernel_rfl)) ?_
                  refine Wk.rPure 9 (some 73) (.bool true) rfl rfl (by kernel_rfl) (by kernel_rfl) ?_
                  refine Wk.rEnd 10 rfl ?_
                  refine Wk.nxt ?_
                  refine wp_cond_true (by kernel_rfl) ?_
                  refine wp_seq ?_
                  refine Wk.reg ?_
                  refine Wk.rPure 0 (some 74) (.slice A3 k c3) rfl rfl (by kernel_rfl) (by kernel_rfl) ?_
                  refine Wk.rEx 1 (some 75) _ rfl rfl (by kernel_rfl) (Wk.new_ex (.slice (some ⟨W4.heap.size, 0, none⟩) 1 1) #[.int .u8 2] 35 (by kernel_rfl)) ?_
                  rintro _ W13 ⟨rfl, hb7, ch12, sz7⟩
                  have zz12 := ch12.size
                  refine Wk.rEx 2 (some 76) _ rfl rfl (by kernel_rfl) (Wk.append_run (.tmp 74) (.tmp 75) 33 35 rfl Try.underlying33 (.int .u8 0) 1 1 (by kernel_rfl) rfl (by omega) w.heap.size (.slice A3 k c3) k (wants (outsTo most budget l k)) (some ⟨W4.heap.size, 0, none⟩) 1 1 ([.int .u8 2]) (by kernel_rfl) (by kernel_rfl) (Wk.own_chg (Wk.own_chg (Wk.own_chg (Wk.own_chg HO ch1 (fun g e _ _ => trivial)) ch2 (fun g e _ _ => trivial)) ch3 (fun g e _ _ => ⟨by have := LT g e; omega, trivial⟩)) ch12 (fun g e _ _ => trivial)) (Wk.sl_blk 1 1 hb7 rfl) (fun h => by cases h) (by intro v hv; simp at hv; subst hv; rfl) (by omega) (by unfold maxLen; omega) (by omega)) ?_
                  rintro vv5 W14 ⟨HO5, ch13, ha5⟩
                  obtain ⟨AA5, nn5, rfl, hcc5, hmm6, hN5, HS5, hl5⟩ := Wk.own_sl HO5
                  have lt5 := World.ownsRow.lt HO5
                  have zz13 := ch13.size
                  refine Wk.rPure 3 (some 7) (.slice AA5 (k + 1) nn5) rfl rfl (by kernel_rfl) (by kernel_rfl) ?_
                  refine Wk.rEnd 4 rfl ?_
                  refine Wk.nxt ?_
                  refine wp_exit ?_
                  refine Wk.thX ?_
                  refine Wk.thX ?_
                  refine Wk.inX ?_
                  refine Wk.nxt ?_
                  refine Wk.reg ?_
                  refine Wk.rPure 0 (some 18) (.int .i64 ((k : Nat) : Int)) rfl rfl (by kernel_rfl) (by kernel_rfl) ?_
                  refine Wk.rPure 1 (some 19) (.int .i64 ((k + 1 : Nat) : Int)) rfl rfl (by kernel_rfl) (Wk.int64 (n := ((k : Nat) : Int) + 1) (z := ((k + 1 : Nat) : Int)) (by omega) (by omega) (by omega) (by kernel_rfl)) ?_
                  refine Wk.rPure 2 (some 11) (.int .i64 ((k + 1 : Nat) : Int)) rfl rfl (by kernel_rfl) (by kernel_rfl) ?_
                  refine Wk.rEnd 3 rfl ?_
                  refine Wk.nxt ?_
                  have kk18 := Wk.Chg.step kk1 ch2 trivial
                  have kk19 := Wk.Chg.step kk18 ch3 ⟨.inr (by omega), trivial⟩
                  have kk20 := Wk.Chg.step kk19 ch12 trivial
                  have kk21 := Wk.Chg.step kk20 ch13 (Wk.newOr_blk (fun g hg => by have := LT g hg; omega))
                  have hR2 : refTo most budget l (k + 1) = ⟨st, fd, bg, 2⟩ := by rw [refTo_succ HX.out HRR.out HX0.out]; simp [Ref.next, *]
                  refine ⟨_, ?_, k + 1, AA5, nn5, st, fd, bg, 2, rfl, by kernel_rfl, ⟨by omega, by omega⟩, hR2, own_next HO5 hR2, kk21⟩
                  · omega
                · refine Wk.rPure 8 (some 72) (.bool false) rfl rfl (by kernel_rfl) (Wk.boolF (b := decide (x < (bg + budget))) (decide_eq_false (by first | exact hx4 | omega)) (by kernel_rfl)) ?_
                  refine Wk.rPure 9 (some 73) (.bool false) rfl rfl (by kernel_rfl) (by kernel_rfl) ?_
                  refine Wk.rEnd 10 rfl ?_
                  refine Wk.nxt ?_
                  refine wp_cond_false (by kernel_rfl) ?_
                  refine wp_skip ?_
                  refine Wk.nxt ?_
                  refine wp_seq ?_
                  refine Wk.reg ?_
                  refine Wk.rPure 0 (some 9) (.bool true) rfl rfl (by kernel_rfl) (by kernel_rfl) ?_
                  refine Wk.rEnd 1 rfl ?_
                  refine Wk.nxt ?_
                  refine Wk.reg ?_
                  refine Wk.rPure 0 (some 8) (.int .i64 0) rfl rfl (by kernel_rfl) (by kernel_rfl) ?_
                  refine Wk.rEnd 1 rfl ?_
                  refine Wk.nxt ?_
                  refine wp_block ?_
                  refine wp_seq ?_
                  refine Wk.reg ?_
                  refine Wk.rPure 0 (some 81) (.pointer (some ⟨W2.heap.size, 1, none⟩)) rfl rfl (by kernel_rfl) (by kernel_rfl) ?_
                  refine Wk.rPure 1 (some 82) (.bool b1) rfl rfl (by kernel_rfl) (Wk.load1 4 (.tmp 81) rfl (by kernel_rfl) ⟨W2.heap.size, 1, none⟩ (by kernel_rfl) (.bool b1) ((cell_of_row _ _ 1 _ _ _ hb2).trans rfl)) ?_
                  refine Wk.rPure 2 (some 83) (.bool b1) rfl rfl (by kernel_rfl) (by kernel_rfl) ?_
                  cases b1
                  · refine Wk.rPass 3 (some 84) rfl rfl (by kernel_rfl) ?_
                    refine Wk.rPass 4 (some 85) rfl rfl (by kernel_rfl) ?_
                    refine Wk.rPure 5 (some 86) (.bool false) rfl rfl (by kernel_rfl) (by kernel_rfl) ?_
                    refine Wk.rPure 6 (some 80) (.bool false) rfl rfl (by kernel_rfl) (by kernel_rfl) ?_
                    refine Wk.rEnd 7 rfl ?_
                    refine Wk.nxt ?_
                    refine wp_cond_false (by kernel_rfl) ?_
                    refine wp_seq ?_
                    refine Wk.reg ?_
                    refine Wk.rPure 0 (some 92) (.pointer (some ⟨W2.heap.size, 3, none⟩)) rfl rfl (by kernel_rfl) (by kernel_rfl) ?_
                    refine Wk.rPure 1 (some 93) (.bool b3) rfl rfl (by kernel_rfl) (Wk.load1 4 (.tmp 92) rfl (by kernel_rfl) ⟨W2.heap.size, 3, none⟩ (by kernel_rfl) (.bool b3) ((cell_of_row _ _ 3 _ _ _ hb2).trans rfl)) ?_
                    refine Wk.rPure 2 (some 94) (.bool b3) rfl rfl (by kernel_rfl) (by kernel_rfl) ?_
                    cases b3
                    · refine Wk.rPure 3 (some 95) (.int .i64 x) rfl rfl (by kernel_rfl) (by kernel_rfl) ?_
                      refine Wk.rPure 4 (some 96) (.slice (some ⟨g, off, none⟩) n c) rfl rfl (by kernel_rfl) (by kernel_rfl) ?_
                      refine Wk.rPure 5 (some 97) (.pointer (some ⟨g, off + 0 * 9, none⟩)) rfl rfl (by kernel_rfl) (Wk.index_sl 26 32 (.tmp 96) (.const (.int .i64 0)) rfl Try.underlying26 9 (by kernel_rfl) g off n c 0 .i64 (by kernel_rfl) (by kernel_rfl) (by omega)) ?_
                      refine Wk.rPure 6 (some 98) (.pointer (some ⟨g, off + 0 * 9, none⟩)) rfl rfl (by kernel_rfl) (by kernel_rfl) ?_
                      have kk22 := Wk.Chg.step kk1 ch2 trivial
                      have kk23 := Wk.Chg.step kk22 ch3 ⟨.inr (by omega), trivial⟩
                      refine Wk.rPure 7 (some 99) (.int .i64 x0) rfl rfl (by kernel_rfl) (Wk.load1 3 (.tmp 98) rfl (by kernel_rfl) ⟨g, off + 0 * 9, none⟩ (by kernel_rfl) (.int .i64 x0) (Wk.Chg.cell kk23 qz trivial)) ?_
                      refine Wk.rPure 8 (some 100) (.int .i64 most) rfl rfl (by kernel_rfl) (by kernel_rfl) ?_
                      refine Wk.rPure 9 (some 101) (.int .i64 (x0 + most)) rfl rfl (by kernel_rfl) (Wk.int64 (n := x0 + most) (z := x0 + most) (by omega) (by omega) (by omega) (by kernel_rfl)) ?_
                      by_cases hx5 : x ≥ (x0 + most)
                      · refine Wk.rPure 10 (some 102) (.bool true) rfl rfl (by kernel_rfl) (Wk.boolT (b := decide (x ≥ (x0 + most))) (decide_eq_true (by first | exact hx5 | omega)) (by kernel_rfl)) ?_
                        refine Wk.rPure 11 (some 103) (.bool true) rfl rfl (by kernel_rfl) (by kernel_rfl) ?_
                        refine Wk.rPure 12 (some 91) (.bool true) rfl rfl (by kernel_rfl) (by kernel_rfl) ?_
                        refine Wk.rEnd 13 rfl ?_
                        refine Wk.nxt ?_
                        refine wp_cond_true (by kernel_rfl) ?_
                        refine wp_seq ?_
                        refine Wk.reg ?_
                        refine Wk.rPure 0 (some 8) (.int .i64 2) rfl rfl (by kernel_rfl) (by kernel_rfl) ?_
                        refine Wk.rEnd 1 rfl ?_
                        refine Wk.nxt ?_
                        refine Wk.reg ?_
                        refine Wk.rPure 0 (some 104) (.slice A3 k c3) rfl rfl (by kernel_rfl) (by kernel_rfl) ?_
                        refine Wk.rEx 1 (some 105) _ rfl rfl (by kernel_rfl) (Wk.new_ex (.slice (some ⟨W4.heap.size, 0, none⟩) 1 1) #[.int .u8 3] 35 (by kernel_rfl)) ?_
                        rintro _ W15 ⟨rfl, hb8, ch14, sz8⟩
                        have zz14 := ch14.size
                        refine Wk.rEx 2 (some 106) _ rfl rfl (by kernel_rfl) (Wk.append_run (.tmp 104) (.tmp 105) 33 35 rfl Try.underlying33 (.int .u8 0) 1 1 (by kernel_rfl) rfl (by omega) w.heap.size (.slice A3 k c3) k (wants (outsTo most budget l k)) (some ⟨W4.heap.size, 0, none⟩) 1 1 ([.int .u8 3]) (by kernel_rfl) (by kernel_rfl) (Wk.own_chg (Wk.own_chg (Wk.own_chg (Wk.own_chg HO ch1 (fun g e _ _ => trivial)) ch2 (fun g e _ _ => trivial)) ch3 (fun g e _ _ => ⟨by have := LT g e; omega, trivial⟩)) ch14 (fun g e _ _ => trivial)) (Wk.sl_blk 1 1 hb8 rfl) (fun h => by cases h) (by intro v hv; simp at hv; subst hv; rfl) (by omega) (by unfold maxLen; omega) (by omega)) ?_
                        rintro vv6 W16 ⟨HO6, ch15, ha6⟩
                        obtain ⟨AA6, nn6, rfl, hcc6, hmm7, hN6, HS6, hl6⟩ := Wk.own_sl HO6
                        have lt6 := World.ownsRow.lt HO6
                        have zz15 := ch15.size
                        refine Wk.rPure 3 (some 7) (.slice AA6 (k + 1) nn6) rfl rfl (by kernel_rfl) (by kernel_rfl) ?_
                        refine Wk.rEnd 4 rfl ?_
                        refine Wk.inN ?_
                        refine Wk.inN ?_
                        refine Wk.nxt ?_
                        refine Wk.reg ?_
                        refine Wk.rPure 0 (some 18) (.int .i64 ((k : Nat) : Int)) rfl rfl (by kernel_rfl) (by kernel_rfl) ?_
                        refine Wk.rPure 1 (some 19) (.int .i64 ((k + 1 : Nat) : Int)) rfl rfl (by kernel_rfl) (Wk.int64 (n := ((k : Nat) : Int) + 1) (z := ((k + 1 : Nat) : Int)) (by omega) (by omega) (by omega) (by kernel_rfl)) ?_
                        refine Wk.rPure 2 (some 11) (.int .i64 ((k + 1 : Nat) : Int)) rfl rfl (by kernel_rfl) (by kernel_rfl) ?_
                        refine Wk.rEnd 3 rfl ?_
                        refine Wk.nxt ?_
                        have kk24 := Wk.Chg.step kk23 ch14 trivial
                        have kk25 := Wk.Chg.step kk24 ch15 (Wk.newOr_blk (fun g hg => by have := LT g hg; omega))
                        have hR2 : refTo most budget l (k + 1) = ⟨2, true, bg, 3⟩ := by rw [refTo_succ HX.out HRR.out HX0.out]; simp [Ref.next, Ref.look, *]
                        refine ⟨_, ?_, k + 1, AA6, nn6, 2, true, bg, 3, rfl, by kernel_rfl, ⟨by omega, by omega⟩, hR2, own_next HO6 hR2, kk25⟩
                        · omega
                      · refine Wk.rPure 10 (some 102) (.bool false) rfl rfl (by kernel_rfl) (Wk.boolF (b := decide (x ≥ (x0 + most))) (decide_eq_false (by first | exact hx5 | omega)) (by kernel_rfl)) ?_
                        refine Wk.rPure 11 (some 103) (.bool false) rfl rfl (by kernel_rfl) (by kernel_rfl) ?_
                        refine Wk.rPure 12 (some 91) (.bool false) rfl rfl (by kernel_rfl) (by kernel_rfl) ?_
                        refine Wk.rEnd 13 rfl ?_
                        refine Wk.nxt ?_
                        refine wp_cond_false (by kernel_rfl) ?_
                        refine wp_seq ?_
                        refine Wk.reg ?_
                        refine Wk.rPure 0 (some 108) (.pointer (some ⟨W2.heap.size, 2, none⟩)) rfl rfl (by kernel_rfl) (by kernel_rfl) ?_
                        refine Wk.rPure 1 (some 109) (.bool b2) rfl rfl (by kernel_rfl) (Wk.load1 4 (.tmp 108) rfl (by kernel_rfl) ⟨W2.heap.size, 2, none⟩ (by kernel_rfl) (.bool b2) ((cell_of_row _ _ 2 _ _ _ hb2).trans rfl)) ?_
                        refine Wk.rPure 2 (some 107) (.bool b2) rfl rfl (by kernel_rfl) (by kernel_rfl) ?_
                        refine Wk.rEnd 3 rfl ?_
                        refine Wk.nxt ?_
                        cases b2
                        · refine wp_cond_false (by kernel_rfl) ?_
                          refine Wk.reg ?_
                          refine Wk.rPure 0 (some 77) (.slice A3 k c3) rfl rfl (by kernel_rfl) (by kernel_rfl) ?_
                          refine Wk.rEx 1 (some 78) _ rfl rfl (by kernel_rfl) (Wk.new_ex (.slice (some ⟨W4.heap.size, 0, none⟩) 1 1) #[.int .u8 1] 35 (by kernel_rfl)) ?_
                          rintro _ W17 ⟨rfl, hb9, ch16, sz9⟩
                          have zz16 := ch16.size
                          refine Wk.rEx 2 (some 79) _ rfl rfl (by kernel_rfl) (Wk.append_run (.tmp 77) (.tmp 78) 33 35 rfl Try.underlying33 (.int .u8 0) 1 1 (by kernel_rfl) rfl (by omega) w.heap.size (.slice A3 k c3) k (wants (outsTo most budget l k)) (some ⟨W4.heap.size, 0, none⟩) 1 1 ([.int .u8 1]) (by kernel_rfl) (by kernel_rfl) (Wk.own_chg (Wk.own_chg (Wk.own_chg (Wk.own_chg HO ch1 (fun g e _ _ => trivial)) ch2 (fun g e _ _ => trivial)) ch3 (fun g e _ _ => ⟨by have := LT g e; omega, trivial⟩)) ch16 (fun g e _ _ => trivial)) (Wk.sl_blk 1 1 hb9 rfl) (fun h => by cases h) (by intro v hv; simp at hv; subst hv; rfl) (by omega) (by unfold maxLen; omega) (by omega)) ?_
                          rintro vv7 W18 ⟨HO7, ch17, ha7⟩
                          obtain ⟨AA7, nn7, rfl, hcc7, hmm8, hN7, HS7, hl7⟩ := Wk.own_sl HO7
                          have lt7 := World.ownsRow.lt HO7
                          have zz17 := ch17.size
                          refine Wk.rPure 3 (some 7) (.slice AA7 (k + 1) nn7) rfl rfl (by kernel_rfl) (by kernel_rfl) ?_
                          refine Wk.rEnd 4 rfl ?_
                          refine Wk.inN ?_
                          refine Wk.inN ?_
                          refine Wk.nxt ?_
                          refine Wk.reg ?_
                          refine Wk.rPure 0 (some 18) (.int .i64 ((k : Nat) : Int)) rfl rfl (by kernel_rfl) (by kernel_rfl) ?_
                          refine Wk.rPure 1 (some 19) (.int .i64 ((k + 1 : Nat) : Int)) rfl rfl (by kernel_rfl) (Wk.int64 (n := ((k : Nat) : Int) + 1) (z := ((k + 1 : Nat) : Int)) (by omega) (by omega) (by omega) (by kernel_rfl)) ?_
                          refine Wk.rPure 2 (some 11) (.int .i64 ((k + 1 : Nat) : Int)) rfl rfl (by kernel_rfl) (by kernel_rfl) ?_
                          refine Wk.rEnd 3 rfl ?_
                          refine Wk.nxt ?_
                          have kk26 := Wk.Chg.step kk23 ch16 trivial
                          have kk27 := Wk.Chg.step kk26 ch17 (Wk.newOr_blk (fun g hg => by have := LT g hg; omega))
                          have hR2 : refTo most budget l (k + 1) = ⟨0, true, bg, 1⟩ := by rw [refTo_succ HX.out HRR.out HX0.out]; simp [Ref.next, Ref.look, *]
                          refine ⟨_, ?_, k + 1, AA7, nn7, 0, true, bg, 1, rfl, by kernel_rfl, ⟨by omega, by omega⟩, hR2, own_next HO7 hR2, kk27⟩
                          · omega
                        · refine wp_cond_true (by kernel_rfl) ?_
                          refine Wk.reg ?_
                          refine Wk.rPure 0 (some 110) (.slice A3 k c3) rfl rfl (by kernel_rfl) (by kernel_rfl) ?_
                          refine Wk.rEx 1 (some 111) _ rfl rfl (by kernel_rfl) (Wk.new_ex (.slice (some ⟨W4.heap.size, 0, none⟩) 1 1) #[.int .u8 0] 35 (by kernel_rfl)) ?_
                          rintro _ W19 ⟨rfl, hb10, ch18, sz10⟩
                          have zz18 := ch18.size
                          refine Wk.rEx 2 (some 112) _ rfl rfl (by kernel_rfl) (Wk.append_run (.tmp 110) (.tmp 111) 33 35 rfl Try.underlying33 (.int .u8 0) 1 1 (by kernel_rfl) rfl (by omega) w.heap.size (.slice A3 k c3) k (wants (outsTo most budget l k)) (some ⟨W4.heap.size, 0, none⟩) 1 1 ([.int .u8 0]) (by kernel_rfl) (by kernel_rfl) (Wk.own_chg (Wk.own_chg (Wk.own_chg (Wk.own_chg HO ch1 (fun g e _ _ => trivial)) ch2 (fun g e _ _ => trivial)) ch3 (fun g e _ _ => ⟨by have := LT g e; omega, trivial⟩)) ch18 (fun g e _ _ => trivial)) (Wk.sl_blk 1 1 hb10 rfl) (fun h => by cases h) (by intro v hv; simp at hv; subst hv; rfl) (by omega) (by unfold maxLen; omega) (by omega)) ?_
                          rintro vv8 W20 ⟨HO8, ch19, ha8⟩
                          obtain ⟨AA8, nn8, rfl, hcc8, hmm9, hN8, HS8, hl8⟩ := Wk.own_sl HO8
                          have lt8 := World.ownsRow.lt HO8
                          have zz19 := ch19.size
                          refine Wk.rPure 3 (some 7) (.slice AA8 (k + 1) nn8) rfl rfl (by kernel_rfl) (by kernel_rfl) ?_
                          refine Wk.rEnd 4 rfl ?_
                          refine Wk.inN ?_
                          refine Wk.inN ?_
                          refine Wk.nxt ?_
                          refine Wk.reg ?_
                          refine Wk.rPure 0 (some 18) (.int .i64 ((k : Nat) : Int)) rfl rfl (by kernel_rfl) (by kernel_rfl) ?_
                          refine Wk.rPure 1 (some 19) (.int .i64 ((k + 1 : Nat) : Int)) rfl rfl (by kernel_rfl) (Wk.int64 (n := ((k : Nat) : Int) + 1) (z := ((k + 1 : Nat) : Int)) (by omega) (by omega) (by omega) (by kernel_rfl)) ?_
                          refine Wk.rPure 2 (some 11) (.int .i64 ((k + 1 : Nat) : Int)) rfl rfl (by kernel_rfl) (by kernel_rfl) ?_
                          refine Wk.rEnd 3 rfl ?_
                          refine Wk.nxt ?_
                          have kk28 := Wk.Chg.step kk23 ch18 trivial
                          have kk29 := Wk.Chg.step kk28 ch19 (Wk.newOr_blk (fun g hg => by have := LT g hg; omega))
                          have hR2 : refTo most budget l (k + 1) = ⟨0, true, bg, 0⟩ := by rw [refTo_succ HX.out HRR.out HX0.out]; simp [Ref.next, Ref.look, *]
                          refine ⟨_, ?_, k + 1, AA8, nn8, 0, true, bg, 0, rfl, by kernel_rfl, ⟨by omega, by omega⟩, hR2, own_next HO8 hR2, kk29⟩
                          · omega
                    · refine Wk.rPass 3 (some 95) rfl rfl (by kernel_rfl) ?_
                      refine Wk.rPass 4 (some 96) rfl rfl (by kernel_rfl) ?_
                      refine Wk.rPass 5 (some 97) rfl rfl (by kernel_rfl) ?_
                      refine Wk.rPass 6 (some 98) rfl rfl (by kernel_rfl) ?_
                      refine Wk.rPass 7 (some 99) rfl rfl (by kernel_rfl) ?_
                      refine Wk.rPass 8 (some 100) rfl rfl (by kernel_rfl) ?_
                      refine Wk.rPass 9 (some 101) rfl rfl (by kernel_rfl) ?_
                      refine Wk.rPass 10 (some 102) rfl rfl (by kernel_rfl) ?_
                      refine Wk.rPure 11 (some 103) (.bool true) rfl rfl (by kernel_rfl) (by kernel_rfl) ?_
                      refine Wk.rPure 12 (some 91) (.bool true) rfl rfl (by kernel_rfl) (by kernel_rfl) ?_
                      refine Wk.rEnd 13 rfl ?_
                      refine Wk.nxt ?_
                      refine wp_cond_true (by kernel_rfl) ?_
                      refine wp_seq ?_
                      refine Wk.reg ?_
                      refine Wk.rPure 0 (some 8) (.int .i64 2) rfl rfl (by kernel_rfl) (by kernel_rfl) ?_
                      refine Wk.rEnd 1 rfl ?_
                      refine Wk.nxt ?_
                      refine Wk.reg ?_
                      refine Wk.rPure 0 (some 104) (.slice A3 k c3) rfl rfl (by kernel_rfl) (by kernel_rfl) ?_
                      refine Wk.rEx 1 (some 105) _ rfl rfl (by kernel_rfl) (Wk.new_ex (.slice (some ⟨W4.heap.size, 0, none⟩) 1 1) #[.int .u8 3] 35 (by kernel_rfl)) ?_
                      rintro _ W21 ⟨rfl, hb11, ch20, sz11⟩
                      have zz20 := ch20.size
                      refine Wk.rEx 2 (some 106) _ rfl rfl (by kernel_rfl) (Wk.append_run (.tmp 104) (.tmp 105) 33 35 rfl Try.underlying33 (.int .u8 0) 1 1 (by kernel_rfl) rfl (by omega) w.heap.size (.slice A3 k c3) k (wants (outsTo most budget l k)) (some ⟨W4.heap.size, 0, none⟩) 1 1 ([.int .u8 3]) (by kernel_rfl) (by kernel_rfl) (Wk.own_chg (Wk.own_chg (Wk.own_chg (Wk.own_chg HO ch1 (fun g e _ _ => trivial)) ch2 (fun g e _ _ => trivial)) ch3 (fun g e _ _ => ⟨by have := LT g e; omega, trivial⟩)) ch20 (fun g e _ _ => trivial)) (Wk.sl_blk 1 1 hb11 rfl) (fun h => by cases h) (by intro v hv; simp at hv; subst hv; rfl) (by omega) (by unfold maxLen; omega) (by omega)) ?_
                      rintro vv9 W22 ⟨HO9, ch21, ha9⟩
                      obtain ⟨AA9, nn9, rfl, hcc9, hmm10, hN9, HS9, hl9⟩ := Wk.own_sl HO9
                      have lt9 := World.ownsRow.lt HO9
                      have zz21 := ch21.size
                      refine Wk.rPure 3 (some 7) (.slice AA9 (k + 1) nn9) rfl rfl (by kernel_rfl) (by kernel_rfl) ?_
                      refine Wk.rEnd 4 rfl ?_
                      refine Wk.inN ?_
                      refine Wk.inN ?_
                      refine Wk.nxt ?_
                      refine Wk.reg ?_
                      refine Wk.rPure 0 (some 18) (.int .i64 ((k : Nat) : Int)) rfl rfl (by kernel_rfl) (by kernel_rfl) ?_
                      refine Wk.rPure 1 (some 19) (.int .i64 ((k + 1 : Nat) : Int)) rfl rfl (by kernel_rfl) (Wk.int64 (n := ((k : Nat) : Int) + 1) (z := ((k + 1 : Nat) : Int)) (by omega) (by omega) (by omega) (by kernel_rfl)) ?_
                      refine Wk.rPure 2 (some 11) (.int .i64 ((k + 1 : Nat) : Int)) rfl rfl (by kernel_rfl) (by kernel_rfl) ?_
                      refine Wk.rEnd 3 rfl ?_
                      refine Wk.nxt ?_
                      have kk30 := Wk.Chg.step kk1 ch2 trivial
                      have kk31 := Wk.Chg.step kk30 ch3 ⟨.inr (by omega), trivial⟩
                      have kk32 := Wk.Chg.step kk31 ch20 trivial
                      have kk33 := Wk.Chg.step kk32 ch21 (Wk.newOr_blk (fun g hg => by have := LT g hg; omega))
                      have hR2 : refTo most budget l (k + 1) = ⟨2, true, bg, 3⟩ := by rw [refTo_succ HX.out HRR.out HX0.out]; simp [Ref.next, Ref.look, *]
                      refine ⟨_, ?_, k + 1, AA9, nn9, 2, true, bg, 3, rfl, by kernel_rfl, ⟨by omega, by omega⟩, hR2, own_next HO9 hR2, kk33⟩
                      · omega
                  · refine Wk.rPure 3 (some 84) (.bool true) rfl rfl (by kernel_rfl) (by kernel_rfl) ?_
                    refine Wk.rPure 4 (some 85) (.bool false) rfl rfl (by kernel_rfl) (by kernel_rfl) ?_
                    refine Wk.rPure 5 (some 86) (.bool false) rfl rfl (by kernel_rfl) (by kernel_rfl) ?_
                    refine Wk.rPure 6 (some 80) (.bool false) rfl rfl (by kernel_rfl) (by kernel_rfl) ?_
                    refine Wk.rEnd 7 rfl ?_
                    refine Wk.nxt ?_
                    refine wp_cond_false (by kernel_rfl) ?_
                    refine wp_seq ?_
                    refine Wk.reg ?_
                    refine Wk.rPure 0 (some 92) (.pointer (some ⟨W2.heap.size, 3, none⟩)) rfl rfl (by kernel_rfl) (by kernel_rfl) ?_
                    refine Wk.rPure 1 (some 93) (.bool b3) rfl rfl (by kernel_rfl) (Wk.load1 4 (.tmp 92) rfl (by kernel_rfl) ⟨W2.heap.size, 3, none⟩ (by kernel_rfl) (.bool b3) ((cell_of_row _ _ 3 _ _ _ hb2).trans rfl)) ?_
                    refine Wk.rPure 2 (some 94) (.bool b3) rfl rfl (by kernel_rfl) (by kernel_rfl) ?_
                    cases b3
                    · refine Wk.rPure 3 (some 95) (.int .i64 x) rfl rfl (by kernel_rfl) (by kernel_rfl) ?_
                      refine Wk.rPure 4 (some 96) (.slice (some ⟨g, off, none⟩) n c) rfl rfl (by kernel_rfl) (by kernel_rfl) ?_
                      refine Wk.rPure 5 (some 97) (.pointer (some ⟨g, off + 0 * 9, none⟩)) rfl rfl (by kernel_rfl) (Wk.index_sl 26 32 (.tmp 96) (.const (.int .i64 0)) rfl Try.underlying26 9 (by kernel_rfl) g off n c 0 .i64 (by kernel_rfl) (by kernel_rfl) (by omega)) ?_
                      refine Wk.rPure 6 (some 98) (.pointer (some ⟨g, off + 0 * 9, none⟩)) rfl rfl (by kernel_rfl) (by kernel_rfl) ?_
                      have kk34 := Wk.Chg.step kk1 ch2 trivial
                      have kk35 := Wk.Chg.step kk34 ch3 ⟨.inr (by omega), trivial⟩
                      refine Wk.rPure 7 (some 99) (.int .i64 x0) rfl rfl (by kernel_rfl) (Wk.load1 3 (.tmp 98) rfl (by kernel_rfl) ⟨g, off + 0 * 9, none⟩ (by kernel_rfl) (.int .i64 x0) (Wk.Chg.cell kk35 qz trivial)) ?_
                      refine Wk.rPure 8 (some 100) (.int .i64 most) rfl rfl (by kernel_rfl) (by kernel_rfl) ?_
                      refine Wk.rPure 9 (some 101) (.int .i64 (x0 + most)) rfl rfl (by kernel_rfl) (Wk.int64 (n := x0 + most) (z := x0 + most) (by omega) (by omega) (by omega) (by kernel_rfl)) ?_
                      by_cases hx6 : x ≥ (x0 + most)
                      · refine Wk.rPure 10 (some 102) (.bool true) rfl rfl (by kernel_rfl) (Wk.boolT (b := decide (x ≥ (x0 + most))) (decide_eq_true (by first | exact hx6 | omega)) (by kernel_rfl)) ?_
                        refine Wk.rPure 11 (some 103) (.bool true) rfl rfl (by kernel_rfl) (by kernel_rfl) ?_
                        refine Wk.rPure 12 (some 91) (.bool true) rfl rfl (by kernel_rfl) (by kernel_rfl) ?_
                        refine Wk.rEnd 13 rfl ?_
                        refine Wk.nxt ?_
                        refine wp_cond_true (by kernel_rfl) ?_
                        refine wp_seq ?_
                        refine Wk.reg ?_
                        refine Wk.rPure 0 (some 8) (.int .i64 2) rfl rfl (by kernel_rfl) (by kernel_rfl) ?_
                        refine Wk.rEnd 1 rfl ?_
                        refine Wk.nxt ?_
                        refine Wk.reg ?_
                        refine Wk.rPure 0 (some 104) (.slice A3 k c3) rfl rfl (by kernel_rfl) (by kernel_rfl) ?_
                        refine Wk.rEx 1 (some 105) _ rfl rfl (by kernel_rfl) (Wk.new_ex (.slice (some ⟨W4.heap.size, 0, none⟩) 1 1) #[.int .u8 3] 35 (by kernel_rfl)) ?_
                        rintro _ W23 ⟨rfl, hb12, ch22, sz12⟩
                        have zz22 := ch22.size
                        refine Wk.rEx 2 (some 106) _ rfl rfl (by kernel_rfl) (Wk.append_run (.tmp 104) (.tmp 105) 33 35 rfl Try.underlying33 (.int .u8 0) 1 1 (by kernel_rfl) rfl (by omega) w.heap.size (.slice A3 k c3) k (wants (outsTo most budget l k)) (some ⟨W4.heap.size, 0, none⟩) 1 1 ([.int .u8 3]) (by kernel_rfl) (by kernel_rfl) (Wk.own_chg (Wk.own_chg (Wk.own_chg (Wk.own_chg HO ch1 (fun g e _ _ => trivial)) ch2 (fun g e _ _ => trivial)) ch3 (fun g e _ _ => ⟨by have := LT g e; omega, trivial⟩)) ch22 (fun g e _ _ => trivial)) (Wk.sl_blk 1 1 hb12 rfl) (fun h => by cases h) (by intro v hv; simp at hv; subst hv; rfl) (by omega) (by unfold maxLen; omega) (by omega)) ?_
                        rintro vv10 W24 ⟨HO10, ch23, ha10⟩
                        obtain ⟨AA10, nn10, rfl, hcc10, hmm11, hN10, HS10, hl10⟩ := Wk.own_sl HO10
                        have lt10 := World.ownsRow.lt HO10
                        have zz23 := ch23.size
                        refine Wk.rPure 3 (some 7) (.slice AA10 (k + 1) nn10) rfl rfl (by kernel_rfl) (by kernel_rfl) ?_
                        refine Wk.rEnd 4 rfl ?_
                        refine Wk.inN ?_
                        refine Wk.inN ?_
                        refine Wk.nxt ?_
                        refine Wk.reg ?_
                        refine Wk.rPure 0 (some 18) (.int .i64 ((k : Nat) : Int)) rfl rfl (by kernel_rfl) (by kernel_rfl) ?_
                        refine Wk.rPure 1 (some 19) (.int .i64 ((k + 1 : Nat) : Int)) rfl rfl (by kernel_rfl) (Wk.int64 (n := ((k : Nat) : Int) + 1) (z := ((k + 1 : Nat) : Int)) (by omega) (by omega) (by omega) (by kernel_rfl)) ?_
                        refine Wk.rPure 2 (some 11) (.int .i64 ((k + 1 : Nat) : Int)) rfl rfl (by kernel_rfl) (by kernel_rfl) ?_
                        refine Wk.rEnd 3 rfl ?_
                        refine Wk.nxt ?_
                        have kk36 := Wk.Chg.step kk35 ch22 trivial
                        have kk37 := Wk.Chg.step kk36 ch23 (Wk.newOr_blk (fun g hg => by have := LT g hg; omega))
                        have hR2 : refTo most budget l (k + 1) = ⟨2, true, bg, 3⟩ := by rw [refTo_succ HX.out HRR.out HX0.out]; simp [Ref.next, Ref.look, *]
                        refine ⟨_, ?_, k + 1, AA10, nn10, 2, true, bg, 3, rfl, by kernel_rfl, ⟨by omega, by omega⟩, hR2, own_next HO10 hR2, kk37⟩
                        · omega
                      · refine Wk.rPure 10 (some 102) (.bool false) rfl rfl (by kernel_rfl) (Wk.boolF (b := decide (x ≥ (x0 + most))) (decide_eq_false (by first | exact hx6 | omega)) (by kernel_rfl)) ?_
                        refine Wk.rPure 11 (some 103) (.bool false) rfl rfl (by kernel_rfl) (by kernel_rfl) ?_
                        refine Wk.rPure 12 (some 91) (.bool false) rfl rfl (by kernel_rfl) (by kernel_rfl) ?_
                        refine Wk.rEnd 13 rfl ?_
                        refine Wk.nxt ?_
                        refine wp_cond_false (by kernel_rfl) ?_
                        refine wp_seq ?_
                        refine Wk.reg ?_
                        refine Wk.rPure 0 (some 108) (.pointer (some ⟨W2.heap.size, 2, none⟩)) rfl rfl (by kernel_rfl) (by kernel_rfl) ?_
                        refine Wk.rPure 1 (some 109) (.bool b2) rfl rfl (by kernel_rfl) (Wk.load1 4 (.tmp 108) rfl (by kernel_rfl) ⟨W2.heap.size, 2, none⟩ (by kernel_rfl) (.bool b2) ((cell_of_row _ _ 2 _ _ _ hb2).trans rfl)) ?_
                        refine Wk.rPure 2 (some 107) (.bool b2) rfl rfl (by kernel_rfl) (by kernel_rfl) ?_
                        refine Wk.rEnd 3 rfl ?_
                        refine Wk.nxt ?_
                        cases b2
                        · refine wp_cond_false (by kernel_rfl) ?_
                          refine Wk.reg ?_
                          refine Wk.rPure 0 (some 77) (.slice A3 k c3) rfl rfl (by kernel_rfl) (by kernel_rfl) ?_
                          refine Wk.rEx 1 (some 78) _ rfl rfl (by kernel_rfl) (Wk.new_ex (.slice (some ⟨W4.heap.size, 0, none⟩) 1 1) #[.int .u8 1] 35 (by kernel_rfl)) ?_
                          rintro _ W25 ⟨rfl, hb13, ch24, sz13⟩
                          have zz24 := ch24.size
                          refine Wk.rEx 2 (some 79) _ rfl rfl (by kernel_rfl) (Wk.append_run (.tmp 77) (.tmp 78) 33 35 rfl Try.underlying33 (.int .u8 0) 1 1 (by kernel_rfl) rfl (by omega) w.heap.size (.slice A3 k c3) k (wants (outsTo most budget l k)) (some ⟨W4.heap.size, 0, none⟩) 1 1 ([.int .u8 1]) (by kernel_rfl) (by kernel_rfl) (Wk.own_chg (Wk.own_chg (Wk.own_chg (Wk.own_chg HO ch1 (fun g e _ _ => trivial)) ch2 (fun g e _ _ => trivial)) ch3 (fun g e _ _ => ⟨by have := LT g e; omega, trivial⟩)) ch24 (fun g e _ _ => trivial)) (Wk.sl_blk 1 1 hb13 rfl) (fun h => by cases h) (by intro v hv; simp at hv; subst hv; rfl) (by omega) (by unfold maxLen; omega) (by omega)) ?_
                          rintro vv11 W26 ⟨HO11, ch25, ha11⟩
                          obtain ⟨AA11, nn11, rfl, hcc11, hmm12, hN11, HS11, hl11⟩ := Wk.own_sl HO11
                          have lt11 := World.ownsRow.lt HO11
                          have zz25 := ch25.size
                          refine Wk.rPure 3 (some 7) (.slice AA11 (k + 1) nn11) rfl rfl (by kernel_rfl) (by kernel_rfl) ?_
                          refine Wk.rEnd 4 rfl ?_
                          refine Wk.inN ?_
                          refine Wk.inN ?_
                          refine Wk.nxt ?_
                          refine Wk.reg ?_
                          refine Wk.rPure 0 (some 18) (.int .i64 ((k : Nat) : Int)) rfl rfl (by kernel_rfl) (by kernel_rfl) ?_
                          refine Wk.rPure 1 (some 19) (.int .i64 ((k + 1 : Nat) : Int)) rfl rfl (by kernel_rfl) (Wk.int64 (n := ((k : Nat) : Int) + 1) (z := ((k + 1 : Nat) : Int)) (by omega) (by omega) (by omega) (by kernel_rfl)) ?_
                          refine Wk.rPure 2 (some 11) (.int .i64 ((k + 1 : Nat) : Int)) rfl rfl (by kernel_rfl) (by kernel_rfl) ?_
                          refine Wk.rEnd 3 rfl ?_
                          refine Wk.nxt ?_
                          have kk38 := Wk.Chg.step kk35 ch24 trivial
                          have kk39 := Wk.Chg.step kk38 ch25 (Wk.newOr_blk (fun g hg => by have := LT g hg; omega))
                          have hR2 : refTo most budget l (k + 1) = ⟨0, true, bg, 1⟩ := by rw [refTo_succ HX.out HRR.out HX0.out]; simp [Ref.next, Ref.look, *]
                          refine ⟨_, ?_, k + 1, AA11, nn11, 0, true, bg, 1, rfl, by kernel_rfl, ⟨by omega, by omega⟩, hR2, own_next HO11 hR2, kk39⟩
                          · omega
                        · refine wp_cond_true (by kernel_rfl) ?_
                          refine Wk.reg ?_
                          refine Wk.rPure 0 (some 110) (.slice A3 k c3) rfl rfl (by kernel_rfl) (by kernel_rfl) ?_
                          refine Wk.rEx 1 (some 111) _ rfl rfl (by kernel_rfl) (Wk.new_ex (.slice (some ⟨W4.heap.size, 0, none⟩) 1 1) #[.int .u8 0] 35 (by kernel_rfl)) ?_
                          rintro _ W27 ⟨rfl, hb14, ch26, sz14⟩
                          have zz26 := ch26.size
                          refine Wk.rEx 2 (some 112) _ rfl rfl (by kernel_rfl) (Wk.append_run (.tmp 110) (.tmp 111) 33 35 rfl Try.underlying33 (.int .u8 0) 1 1 (by kernel_rfl) rfl (by omega) w.heap.size (.slice A3 k c3) k (wants (outsTo most budget l k)) (some ⟨W4.heap.size, 0, none⟩) 1 1 ([.int .u8 0]) (by kernel_rfl) (by kernel_rfl) (Wk.own_chg (Wk.own_chg (Wk.own_chg (Wk.own_chg HO ch1 (fun g e _ _ => trivial)) ch2 (fun g e _ _ => trivial)) ch3 (fun g e _ _ => ⟨by have := LT g e; omega, trivial⟩)) ch26 (fun g e _ _ => trivial)) (Wk.sl_blk 1 1 hb14 rfl) (fun h => by cases h) (by intro v hv; simp at hv; subst hv; rfl) (by omega) (by unfold maxLen; omega) (by omega)) ?_
                          rintro vv12 W28 ⟨HO12, ch27, ha12⟩
                          obtain ⟨AA12, nn12, rfl, hcc12, hmm13, hN12, HS12, hl12⟩ := Wk.own_sl HO12
                          have lt12 := World.ownsRow.lt HO12
                          have zz27 := ch27.size
                          refine Wk.rPure 3 (some 7) (.slice AA12 (k + 1) nn12) rfl rfl (by kernel_rfl) (by kernel_rfl) ?_
                          refine Wk.rEnd 4 rfl ?_
                          refine Wk.inN ?_
                          refine Wk.inN ?_
                          refine Wk.nxt ?_
                          refine Wk.reg ?_
                          refine Wk.rPure 0 (some 18) (.int .i64 ((k : Nat) : Int)) rfl rfl (by kernel_rfl) (by kernel_rfl) ?_
                          refine Wk.rPure 1 (some 19) (.int .i64 ((k + 1 : Nat) : Int)) rfl rfl (by kernel_rfl) (Wk.int64 (n := ((k : Nat) : Int) + 1) (z := ((k + 1 : Nat) : Int)) (by omega) (by omega) (by omega) (by kernel_rfl)) ?_
                          refine Wk.rPure 2 (some 11) (.int .i64 ((k + 1 : Nat) : Int)) rfl rfl (by kernel_rfl) (by kernel_rfl) ?_
                          refine Wk.rEnd 3 rfl ?_
                          refine Wk.nxt ?_
                          have kk40 := Wk.Chg.step kk35 ch26 trivial
                          have kk41 := Wk.Chg.step kk40 ch27 (Wk.newOr_blk (fun g hg => by have := LT g hg; omega))
                          have hR2 : refTo most budget l (k + 1) = ⟨0, true, bg, 0⟩ := by rw [refTo_succ HX.out HRR.out HX0.out]; simp [Ref.next, Ref.look, *]
                          refine ⟨_, ?_, k + 1, AA12, nn12, 0, true, bg, 0, rfl, by kernel_rfl, ⟨by omega, by omega⟩, hR2, own_next HO12 hR2, kk41⟩
                          · omega
                    · refine Wk.rPass 3 (some 95) rfl rfl (by kernel_rfl) ?_
                      refine Wk.rPass 4 (some 96) rfl rfl (by kernel_rfl) ?_
                      refine Wk.rPass 5 (some 97) rfl rfl (by kernel_rfl) ?_
                      refine Wk.rPass 6 (some 98) rfl rfl (by kernel_rfl) ?_
                      refine Wk.rPass 7 (some 99) rfl rfl (by kernel_rfl) ?_
                      refine Wk.rPass 8 (some 100) rfl rfl (by kernel_rfl) ?_
                      refine Wk.rPass 9 (some 101) rfl rfl (by kernel_rfl) ?_
                      refine Wk.rPass 10 (some 102) rfl rfl (by kernel_rfl) ?_
                      refine Wk.rPure 11 (some 103) (.bool true) rfl rfl (by kernel_rfl) (by kernel_rfl) ?_
                      refine Wk.rPure 12 (some 91) (.bool true) rfl rfl (by kernel_rfl) (by kernel_rfl) ?_
                      refine Wk.rEnd 13 rfl ?_
                      refine Wk.nxt ?_
                      refine wp_cond_true (by kernel_rfl) ?_
                      refine wp_seq ?_
                      refine Wk.reg ?_
                      refine Wk.rPure 0 (some 8) (.int .i64 2) rfl rfl (by kernel_rfl) (by kernel_rfl) ?_
                      refine Wk.rEnd 1 rfl ?_
                      refine Wk.nxt ?_
                      refine Wk.reg ?_
                      refine Wk.rPure 0 (some 104) (.slice A3 k c3) rfl rfl (by kernel_rfl) (by kernel_rfl) ?_
                      refine Wk.rEx 1 (some 105) _ rfl rfl (by kernel_rfl) (Wk.new_ex (.slice (some ⟨W4.heap.size, 0, none⟩) 1 1) #[.int .u8 3] 35 (by kernel_rfl)) ?_
                      rintro _ W29 ⟨rfl, hb15, ch28, sz15⟩
                      have zz28 := ch28.size
                      refine Wk.rEx 2 (some 106) _ rfl rfl (by kernel_rfl) (Wk.append_run (.tmp 104) (.tmp 105) 33 35 rfl Try.underlying33 (.int .u8 0) 1 1 (by kernel_rfl) rfl (by omega) w.heap.size (.slice A3 k c3) k (wants (outsTo most budget l k)) (some ⟨W4.heap.size, 0, none⟩) 1 1 ([.int .u8 3]) (by kernel_rfl) (by kernel_rfl) (Wk.own_chg (Wk.own_chg (Wk.own_chg (Wk.own_chg HO ch1 (fun g e _ _ => trivial)) ch2 (fun g e _ _ => trivial)) ch3 (fun g e _ _ => ⟨by have := LT g e; omega, trivial⟩)) ch28 (fun g e _ _ => trivial)) (Wk.sl_blk 1 1 hb15 rfl) (fun h => by cases h) (by intro v hv; simp at hv; subst hv; rfl) (by omega) (by unfold maxLen; omega) (by omega)) ?_
                      rintro vv13 W30 ⟨HO13, ch29, ha13⟩
                      obtain ⟨AA13, nn13, rfl, hcc13, hmm14, hN13, HS13, hl13⟩ := Wk.own_sl HO13
                      have lt13 := World.ownsRow.lt HO13
                      have zz29 := ch29.size
                      refine Wk.rPure 3 (some 7) (.slice AA13 (k + 1) nn13) rfl rfl (by kernel_rfl) (by kernel_rfl) ?_
                      refine Wk.rEnd 4 rfl ?_
                      refine Wk.inN ?_
                      refine Wk.inN ?_
                      refine Wk.nxt ?_
                      refine Wk.reg ?_
                      refine Wk.rPure 0 (some 18) (.int .i64 ((k : Nat) : Int)) rfl rfl (by kernel_rfl) (by kernel_rfl) ?_
                      refine Wk.rPure 1 (some 19) (.int .i64 ((k + 1 : Nat) : Int)) rfl rfl (by kernel_rfl) (Wk.int64 (n := ((k : Nat) : Int) + 1) (z := ((k + 1 : Nat) : Int)) (by omega) (by omega) (by omega) (by kernel_rfl)) ?_
                      refine Wk.rPure 2 (some 11) (.int .i64 ((k + 1 : Nat) : Int)) rfl rfl (by kernel_rfl) (by kernel_rfl) ?_
                      refine Wk.rEnd 3 rfl ?_
                      refine Wk.nxt ?_
                      have kk42 := Wk.Chg.step kk1 ch2 trivial
                      have kk43 := Wk.Chg.step kk42 ch3 ⟨.inr (by omega), trivial⟩
                      have kk44 := Wk.Chg.step kk43 ch28 trivial
                      have kk45 := Wk.Chg.step kk44 ch29 (Wk.newOr_blk (fun g hg => by have := LT g hg; omega))
                      have hR2 : refTo most budget l (k + 1) = ⟨2, true, bg, 3⟩ := by rw [refTo_succ HX.out HRR.out HX0.out]; simp [Ref.next, Ref.look, *]
                      refine ⟨_, ?_, k + 1, AA13, nn13, 2, true, bg, 3, rfl, by kernel_rfl, ⟨by omega, by omega⟩, hR2, own_next HO13 hR2, kk45⟩
                      · omega
              · refine Wk.rPass 4 (some 68) rfl rfl (by kernel_rfl) ?_
                refine Wk.rPass 5 (some 69) rfl rfl (by kernel_rfl) ?_
                refine Wk.rPass 6 (some 70) rfl rfl (by kernel_rfl) ?_
                refine Wk.rPass 7 (some 71) rfl rfl (by kernel_rfl) ?_
                refine Wk.rPass 8 (some 72) rfl rfl (by kernel_rfl) ?_
                refine Wk.rPure 9 (some 73) (.bool false) rfl rfl (by kernel_rfl) (by kernel_rfl) ?_
                refine Wk.rEnd 10 rfl ?_
                refine Wk.nxt ?_
                refine wp_cond_false (by kernel_rfl) ?_
                refine wp_skip ?_
                refine Wk.nxt ?_
                refine wp_seq ?_
                refine Wk.reg ?_
                refine Wk.rPure 0 (some 9) (.bool true) rfl rfl (by kernel_rfl) (by kernel_rfl) ?_
                refine Wk.rEnd 1 rfl ?_
                refine Wk.nxt ?_
                refine Wk.reg ?_
                refine Wk.rPure 0 (some 8) (.int .i64 0) rfl rfl (by kernel_rfl) (by kernel_rfl) ?_
                refine Wk.rEnd 1 rfl ?_
                refine Wk.nxt ?_
                refine wp_block ?_
                refine wp_seq ?_
                refine Wk.reg ?_
                refine Wk.rPure 0 (some 81) (.pointer (some ⟨W2.heap.size, 1, none⟩)) rfl rfl (by kernel_rfl) (by kernel_rfl) ?_
                refine Wk.rPure 1 (some 82) (.bool b1) rfl rfl (by kernel_rfl) (Wk.load1 4 (.tmp 81) rfl (by kernel_rfl) ⟨W2.heap.size, 1, none⟩ (by kernel_rfl) (.bool b1) ((cell_of_row _ _ 1 _ _ _ hb2).trans rfl)) ?_
                refine Wk.rPure 2 (some 83) (.bool b1) rfl rfl (by kernel_rfl) (by kernel_rfl) ?_
                cases b1
                · refine Wk.rPass 3 (some 84) rfl rfl (by kernel_rfl) ?_
                  refine Wk.rPass 4 (some 85) rfl rfl (by kernel_rfl) ?_
                  refine Wk.rPure 5 (some 86) (.bool false) rfl rfl (by kernel_rfl) (by kernel_rfl) ?_
                  refine Wk.rPure 6 (some 80) (.bool false) rfl rfl (by kernel_rfl) (by kernel_rfl) ?_
                  refine Wk.rEnd 7 rfl ?_
                  refine Wk.nxt ?_
                  refine wp_cond_false (by kernel_rfl) ?_
                  refine wp_seq ?_
                  refine Wk.reg ?_
                  refine Wk.rPure 0 (some 92) (.pointer (some ⟨W2.heap.size, 3, none⟩)) rfl rfl (by kernel_rfl) (by kernel_rfl) ?_
                  refine Wk.rPure 1 (some 93) (.bool b3) rfl rfl (by kernel_rfl) (Wk.load1 4 (.tmp 92) rfl (by kernel_rfl) ⟨W2.heap.size, 3, none⟩ (by kernel_rfl) (.bool b3) ((cell_of_row _ _ 3 _ _ _ hb2).trans rfl)) ?_
                  refine Wk.rPure 2 (some 94) (.bool b3) rfl rfl (by kernel_rfl) (by kernel_rfl) ?_
                  cases b3
                  · refine Wk.rPure 3 (some 95) (.int .i64 x) rfl rfl (by kernel_rfl) (by kernel_rfl) ?_
                    refine Wk.rPure 4 (some 96) (.slice (some ⟨g, off, none⟩) n c) rfl rfl (by kernel_rfl) (by kernel_rfl) ?_
                    refine Wk.rPure 5 (some 97) (.pointer (some ⟨g, off + 0 * 9, none⟩)) rfl rfl (by kernel_rfl) (Wk.index_sl 26 32 (.tmp 96) (.const (.int .i64 0)) rfl Try.underlying26 9 (by kernel_rfl) g off n c 0 .i64 (by kernel_rfl) (by kernel_rfl) (by omega)) ?_
                    refine Wk.rPure 6 (some 98) (.pointer (some ⟨g, off + 0 * 9, none⟩)) rfl rfl (by kernel_rfl) (by kernel_rfl) ?_
                    have kk46 := Wk.Chg.step kk1 ch2 trivial
                    have kk47 := Wk.Chg.step kk46 ch3 ⟨.inr (by omega), trivial⟩
                    refine Wk.rPure 7 (some 99) (.int .i64 x0) rfl rfl (by kernel_rfl) (Wk.load1 3 (.tmp 98) rfl (by kernel_rfl) ⟨g, off + 0 * 9, none⟩ (by kernel_rfl) (.int .i64 x0) (Wk.Chg.cell kk47 qz trivial)) ?_
                    refine Wk.rPure 8 (some 100) (.int .i64 most) rfl rfl (by kernel_rfl) (by kernel_rfl) ?_
                    refine Wk.rPure 9 (some 101) (.int .i64 (x0 + most)) rfl rfl (by kernel_rfl) (Wk.int64 (n := x0 + most) (z := x0 + most) (by omega) (by omega) (by omega) (by kernel_rfl)) ?_
                    by_cases hx7 : x ≥ (x0 + most)
                    · refine Wk.rPure 10 (some 102) (.bool true) rfl rfl (by kernel_rfl) (Wk.boolT (b := decide (x ≥ (x0 + most))) (decide_eq_true (by first | exact hx7 | omega)) (by kernel_rfl)) ?_
                      refine Wk.rPure 11 (some 103) (.bool true) rfl rfl (by kernel_rfl) (by kernel_rfl) ?_
                      refine Wk.rPure 12 (some 91) (.bool true) rfl rfl (by kernel_rfl) (by kernel_rfl) ?_
                      refine Wk.rEnd 13 rfl ?_
                      refine Wk.nxt ?_
                      refine wp_cond_true (by kernel_rfl) ?_
                      refine wp_seq ?_
                      refine Wk.reg ?_
                      refine Wk.rPure 0 (some 8) (.int .i64 2) rfl rfl (by kernel_rfl) (by kernel_rfl) ?_
                      refine Wk.rEnd 1 rfl ?_
                      refine Wk.nxt ?_
                      refine Wk.reg ?_
                      refine Wk.rPure 0 (some 104) (.slice A3 k c3) rfl rfl (by kernel_rfl) (by kernel_rfl) ?_
                      refine Wk.rEx 1 (some 105) _ rfl rfl (by kernel_rfl) (Wk.new_ex (.slice (some ⟨W4.heap.size, 0, none⟩) 1 1) #[.int .u8 3] 35 (by kernel_rfl)) ?_
                      rintro _ W31 ⟨rfl, hb16, ch30, sz16⟩
                      have zz30 := ch30.size
                      refine Wk.rEx 2 (some 106) _ rfl rfl (by kernel_rfl) (Wk.append_run (.tmp 104) (.tmp 105) 33 35 rfl Try.underlying33 (.int .u8 0) 1 1 (by kernel_rfl) rfl (by omega) w.heap.size (.slice A3 k c3) k (wants (outsTo most budget l k)) (some ⟨W4.heap.size, 0, none⟩) 1 1 ([.int .u8 3]) (by kernel_rfl) (by kernel_rfl) (Wk.own_chg (Wk.own_chg (Wk.own_chg (Wk.own_chg HO ch1 (fun g e _ _ => trivial)) ch2 (fun g e _ _ => trivial)) ch3 (fun g e _ _ => ⟨by have := LT g e; omega, trivial⟩)) ch30 (fun g e _ _ => trivial)) (Wk.sl_blk 1 1 hb16 rfl) (fun h => by cases h) (by intro v hv; simp at hv; subst hv; rfl) (by omega) (by unfold maxLen; omega) (by omega)) ?_
                      rintro vv14 W32 ⟨HO14, ch31, ha14⟩
                      obtain ⟨AA14, nn14, rfl, hcc14, hmm15, hN14, HS14, hl14⟩ := Wk.own_sl HO14
                      have lt14 := World.ownsRow.lt HO14
                      have zz31 := ch31.size
                      refine Wk.rPure 3 (some 7) (.slice AA14 (k + 1) nn14) rfl rfl (by kernel_rfl) (by kernel_rfl) ?_
                      refine Wk.rEnd 4 rfl ?_
                      refine Wk.inN ?_
                      refine Wk.inN ?_
                      refine Wk.nxt ?_
                      refine Wk.reg ?_
                      refine Wk.rPure 0 (some 18) (.int .i64 ((k : Nat) : Int)) rfl rfl (by kernel_rfl) (by kernel_rfl) ?_
                      refine Wk.rPure 1 (some 19) (.int .i64 ((k + 1 : Nat) : Int)) rfl rfl (by kernel_rfl) (Wk.int64 (n := ((k : Nat) : Int) + 1) (z := ((k + 1 : Nat) : Int)) (by omega) (by omega) (by omega) (by kernel_rfl)) ?_
                      refine Wk.rPure 2 (some 11) (.int .i64 ((k + 1 : Nat) : Int)) rfl rfl (by kernel_rfl) (by kernel_rfl) ?_
                      refine Wk.rEnd 3 rfl ?_
                      refine Wk.nxt ?_
                      have kk48 := Wk.Chg.step kk47 ch30 trivial
                      have kk49 := Wk.Chg.step kk48 ch31 (Wk.newOr_blk (fun g hg => by have := LT g hg; omega))
                      have hR2 : refTo most budget l (k + 1) = ⟨2, true, bg, 3⟩ := by rw [refTo_succ HX.out HRR.out HX0.out]; simp [Ref.next, Ref.look, *]
                      refine ⟨_, ?_, k + 1, AA14, nn14, 2, true, bg, 3, rfl, by kernel_rfl, ⟨by omega, by omega⟩, hR2, own_next HO14 hR2, kk49⟩
                      · omega
                    · refine Wk.rPure 10 (some 102) (.bool false) rfl rfl (by kernel_rfl) (Wk.boolF (b := decide (x ≥ (x0 + most))) (decide_eq_false (by first | exact hx7 | omega)) (by kernel_rfl)) ?_
                      refine Wk.rPure 11 (some 103) (.bool false) rfl rfl (by kernel_rfl) (by kernel_rfl) ?_
                      refine Wk.rPure 12 (some 91) (.bool false) rfl rfl (by kernel_rfl) (by kernel_rfl) ?_
                      refine Wk.rEnd 13 rfl ?_
                      refine Wk.nxt ?_
                      refine wp_cond_false (by kernel_rfl) ?_
                      refine wp_seq ?_
                      refine Wk.reg ?_
                      refine Wk.rPure 0 (some 108) (.pointer (some ⟨W2.heap.size, 2, none⟩)) rfl rfl (by kernel_rfl) (by kernel_rfl) ?_
                      refine Wk.rPure 1 (some 109) (.bool b2) rfl rfl (by kernel_rfl) (Wk.load1 4 (.tmp 108) rfl (by kernel_rfl) ⟨W2.heap.size, 2, none⟩ (by kernel_rfl) (.bool b2) ((cell_of_row _ _ 2 _ _ _ hb2).trans rfl)) ?_
                      refine Wk.rPure 2 (some 107) (.bool b2) rfl rfl (by kernel_rfl) (by kernel_rfl) ?_
                      refine Wk.rEnd 3 rfl ?_
                      refine Wk.nxt ?_
                      cases b2
                      · refine wp_cond_false (by kernel_rfl) ?_
                        refine Wk.reg ?_
                        refine Wk.rPure 0 (some 77) (.slice A3 k c3) rfl rfl (by kernel_rfl) (by kernel_rfl) ?_
                        refine Wk.rEx 1 (some 78) _ rfl rfl (by kernel_rfl) (Wk.new_ex (.slice (some ⟨W4.heap.size, 0, none⟩) 1 1) #[.int .u8 1] 35 (by kernel_rfl)) ?_
                        rintro _ W33 ⟨rfl, hb17, ch32, sz17⟩
                        have zz32 := ch32.size
                        refine Wk.rEx 2 (some 79) _ rfl rfl (by kernel_rfl) (Wk.append_run (.tmp 77) (.tmp 78) 33 35 rfl Try.underlying33 (.int .u8 0) 1 1 (by kernel_rfl) rfl (by omega) w.heap.size (.slice A3 k c3) k (wants (outsTo most budget l k)) (some ⟨W4.heap.size, 0, none⟩) 1 1 ([.int .u8 1]) (by kernel_rfl) (by kernel_rfl) (Wk.own_chg (Wk.own_chg (Wk.own_chg (Wk.own_chg HO ch1 (fun g e _ _ => trivial)) ch2 (fun g e _ _ => trivial)) ch3 (fun g e _ _ => ⟨by have := LT g e; omega, trivial⟩)) ch32 (fun g e _ _ => trivial)) (Wk.sl_blk 1 1 hb17 rfl) (fun h => by cases h) (by intro v hv; simp at hv; subst hv; rfl) (by omega) (by unfold maxLen; omega) (by omega)) ?_
                        rintro vv15 W34 ⟨HO15, ch33, ha15⟩
                        obtain ⟨AA15, nn15, rfl, hcc15, hmm16, hN15, HS15, hl15⟩ := Wk.own_sl HO15
                        have lt15 := World.ownsRow.lt HO15
                        have zz33 := ch33.size
                        refine Wk.rPure 3 (some 7) (.slice AA15 (k + 1) nn15) rfl rfl (by kernel_rfl) (by kernel_rfl) ?_
                        refine Wk.rEnd 4 rfl ?_
                        refine Wk.inN ?_
                        refine Wk.inN ?_
                        refine Wk.nxt ?_
                        refine Wk.reg ?_
                        refine Wk.rPure 0 (some 18) (.int .i64 ((k : Nat) : Int)) rfl rfl (by kernel_rfl) (by kernel_rfl) ?_
                        refine Wk.rPure 1 (some 19) (.int .i64 ((k + 1 : Nat) : Int)) rfl rfl (by kernel_rfl) (Wk.int64 (n := ((k : Nat) : Int) + 1) (z := ((k + 1 : Nat) : Int)) (by omega) (by omega) (by omega) (by kernel_rfl)) ?_
                        refine Wk.rPure 2 (some 11) (.int .i64 ((k + 1 : Nat) : Int)) rfl rfl (by kernel_rfl) (by kernel_rfl) ?_
                        refine Wk.rEnd 3 rfl ?_
                        refine Wk.nxt ?_
                        have kk50 := Wk.Chg.step kk47 ch32 trivial
                        have kk51 := Wk.Chg.step kk50 ch33 (Wk.newOr_blk (fun g hg => by have := LT g hg; omega))
                        have hR2 : refTo most budget l (k + 1) = ⟨0, true, bg, 1⟩ := by rw [refTo_succ HX.out HRR.out HX0.out]; simp [Ref.next, Ref.look, *]
                        refine ⟨_, ?_, k + 1, AA15, nn15, 0, true, bg, 1, rfl, by kernel_rfl, ⟨by omega, by omega⟩, hR2, own_next HO15 hR2, kk51⟩
                        · omega
                      · refine wp_cond_true (by kernel_rfl) ?_
                        refine Wk.reg ?_
                        refine Wk.rPure 0 (some 110) (.slice A3 k c3) rfl rfl (by kernel_rfl) (by kernel_rfl) ?_
                        refine Wk.rEx 1 (some 111) _ rfl rfl (by kernel_rfl) (Wk.new_ex (.slice (some ⟨W4.heap.size, 0, none⟩) 1 1) #[.int .u8 0] 35 (by kernel_rfl)) ?_
                        rintro _ W35 ⟨rfl, hb18, ch34, sz18⟩
                        have zz34 := ch34.size
                        refine Wk.rEx 2 (some 112) _ rfl rfl (by kernel_rfl) (Wk.append_run (.tmp 110) (.tmp 111) 33 35 rfl Try.underlying33 (.int .u8 0) 1 1 (by kernel_rfl) rfl (by omega) w.heap.size (.slice A3 k c3) k (wants (outsTo most budget l k)) (some ⟨W4.heap.size, 0, none⟩) 1 1 ([.int .u8 0]) (by kernel_rfl) (by kernel_rfl) (Wk.own_chg (Wk.own_chg (Wk.own_chg (Wk.own_chg HO ch1 (fun g e _ _ => trivial)) ch2 (fun g e _ _ => trivial)) ch3 (fun g e _ _ => ⟨by have := LT g e; omega, trivial⟩)) ch34 (fun g e _ _ => trivial)) (Wk.sl_blk 1 1 hb18 rfl) (fun h => by cases h) (by intro v hv; simp at hv; subst hv; rfl) (by omega) (by unfold maxLen; omega) (by omega)) ?_
                        rintro vv16 W36 ⟨HO16, ch35, ha16⟩
                        obtain ⟨AA16, nn16, rfl, hcc16, hmm17, hN16, HS16, hl16⟩ := Wk.own_sl HO16
                        have lt16 := World.ownsRow.lt HO16
                        have zz35 := ch35.size
                        refine Wk.rPure 3 (some 7) (.slice AA16 (k + 1) nn16) rfl rfl (by kernel_rfl) (by kernel_rfl) ?_
                        refine Wk.rEnd 4 rfl ?_
                        refine Wk.inN ?_
                        refine Wk.inN ?_
                        refine Wk.nxt ?_
                        refine Wk.reg ?_
                        refine Wk.rPure 0 (some 18) (.int .i64 ((k : Nat) : Int)) rfl rfl (by kernel_rfl) (by kernel_rfl) ?_
                        refine Wk.rPure 1 (some 19) (.int .i64 ((k + 1 : Nat) : Int)) rfl rfl (by kernel_rfl) (Wk.int64 (n := ((k : Nat) : Int) + 1) (z := ((k + 1 : Nat) : Int)) (by omega) (by omega) (by omega) (by kernel_rfl)) ?_
                        refine Wk.rPure 2 (some 11) (.int .i64 ((k + 1 : Nat) : Int)) rfl rfl (by kernel_rfl) (by kernel_rfl) ?_
                        refine Wk.rEnd 3 rfl ?_
                        refine Wk.nxt ?_
                        have kk52 := Wk.Chg.step kk47 ch34 trivial
                        have kk53 := Wk.Chg.step kk52 ch35 (Wk.newOr_blk (fun g hg => by have := LT g hg; omega))
                        have hR2 : refTo most budget l (k + 1) = ⟨0, true, bg, 0⟩ := by rw [refTo_succ HX.out HRR.out HX0.out]; simp [Ref.next, Ref.look, *]
                        refine ⟨_, ?_, k + 1, AA16, nn16, 0, true, bg, 0, rfl, by kernel_rfl, ⟨by omega, by omega⟩, hR2, own_next HO16 hR2, kk53⟩
                        · omega
                  · refine Wk.rPass 3 (some 95) rfl rfl (by kernel_rfl) ?_
                    refine Wk.rPass 4 (some 96) rfl rfl (by kernel_rfl) ?_
                    refine Wk.rPass 5 (some 97) rfl rfl (by kernel_rfl) ?_
                    refine Wk.rPass 6 (some 98) rfl rfl (by kernel_rfl) ?_
                    refine Wk.rPass 7 (some 99) rfl rfl (by kernel_rfl) ?_
                    refine Wk.rPass 8 (some 100) rfl rfl (by kernel_rfl) ?_
                    refine Wk.rPass 9 (some 101) rfl rfl (by kernel_rfl) ?_
                    refine Wk.rPass 10 (some 102) rfl rfl (by kernel_rfl) ?_
                    refine Wk.rPure 11 (some 103) (.bool true) rfl rfl (by kernel_rfl) (by kernel_rfl) ?_
                    refine Wk.rPure 12 (some 91) (.bool true) rfl rfl (by kernel_rfl) (by kernel_rfl) ?_
                    refine Wk.rEnd 13 rfl ?_
                    refine Wk.nxt ?_
                    refine wp_cond_true (by kernel_rfl) ?_
                    refine wp_seq ?_
                    refine Wk.reg ?_
                    refine Wk.rPure 0 (some 8) (.int .i64 2) rfl rfl (by kernel_rfl) (by kernel_rfl) ?_
                    refine Wk.rEnd 1 rfl ?_
                    refine Wk.nxt ?_
                    refine Wk.reg ?_
                    refine Wk.rPure 0 (some 104) (.slice A3 k c3) rfl rfl (by kernel_rfl) (by kernel_rfl) ?_
                    refine Wk.rEx 1 (some 105) _ rfl rfl (by kernel_rfl) (Wk.new_ex (.slice (some ⟨W4.heap.size, 0, none⟩) 1 1) #[.int .u8 3] 35 (by kernel_rfl)) ?_
                    rintro _ W37 ⟨rfl, hb19, ch36, sz19⟩
                    have zz36 := ch36.size
                    refine Wk.rEx 2 (some 106) _ rfl rfl (by kernel_rfl) (Wk.append_run (.tmp 104) (.tmp 105) 33 35 rfl Try.underlying33 (.int .u8 0) 1 1 (by kernel_rfl) rfl (by omega) w.heap.size (.slice A3 k c3) k (wants (outsTo most budget l k)) (some ⟨W4.heap.size, 0, none⟩) 1 1 ([.int .u8 3]) (by kernel_rfl) (by kernel_rfl) (Wk.own_chg (Wk.own_chg (Wk.own_chg (Wk.own_chg HO ch1 (fun g e _ _ => trivial)) ch2 (fun g e _ _ => trivial)) ch3 (fun g e _ _ => ⟨by have := LT g e; omega, trivial⟩)) ch36 (fun g e _ _ => trivial)) (Wk.sl_blk 1 1 hb19 rfl) (fun h => by cases h) (by intro v hv; simp at hv; subst hv; rfl) (by omega) (by unfold maxLen; omega) (by omega)) ?_
                    rintro vv17 W38 ⟨HO17, ch37, ha17⟩
                    obtain ⟨AA17, nn17, rfl, hcc17, hmm18, hN17, HS17, hl17⟩ := Wk.own_sl HO17
                    have lt17 := World.ownsRow.lt HO17
                    have zz37 := ch37.size
                    refine Wk.rPure 3 (some 7) (.slice AA17 (k + 1) nn17) rfl rfl (by kernel_rfl) (by kernel_rfl) ?_
                    refine Wk.rEnd 4 rfl ?_
                    refine Wk.inN ?_
                    refine Wk.inN ?_
                    refine Wk.nxt ?_
                    refine Wk.reg ?_
                    refine Wk.rPure 0 (some 18) (.int .i64 ((k : Nat) : Int)) rfl rfl (by kernel_rfl) (by kernel_rfl) ?_
                    refine Wk.rPure 1 (some 19) (.int .i64 ((k + 1 : Nat) : Int)) rfl rfl (by kernel_rfl) (Wk.int64 (n := ((k : Nat) : Int) + 1) (z := ((k + 1 : Nat) : Int)) (by omega) (by omega) (by omega) (by kernel_rfl)) ?_
                    refine Wk.rPure 2 (some 11) (.int .i64 ((k + 1 : Nat) : Int)) rfl rfl (by kernel_rfl) (by kernel_rfl) ?_
                    refine Wk.rEnd 3 rfl ?_
                    refine Wk.nxt ?_
                    have kk54 := Wk.Chg.step kk1 ch2 trivial
                    have kk55 := Wk.Chg.step kk54 ch3 ⟨.inr (by omega), trivial⟩
                    have kk56 := Wk.Chg.step kk55 ch36 trivial
                    have kk57 := Wk.Chg.step kk56 ch37 (Wk.newOr_blk (fun g hg => by have := LT g hg; omega))
                    have hR2 : refTo most budget l (k + 1) = ⟨2, true, bg, 3⟩ := by rw [refTo_succ HX.out HRR.out HX0.out]; simp [Ref.next, Ref.look, *]
                    refine ⟨_, ?_, k + 1, AA17, nn17, 2, true, bg, 3, rfl, by kernel_rfl, ⟨by omega, by omega⟩, hR2, own_next HO17 hR2, kk57⟩
                    · omega
                · refine Wk.rPure 3 (some 84) (.bool true) rfl rfl (by kernel_rfl) (by kernel_rfl) ?_
                  refine Wk.rPure 4 (some 85) (.bool false) rfl rfl (by kernel_rfl) (by kernel_rfl) ?_
                  refine Wk.rPure 5 (some 86) (.bool false) rfl rfl (by kernel_rfl) (by kernel_rfl) ?_
                  refine Wk.rPure 6 (some 80) (.bool false) rfl rfl (by kernel_rfl) (by kernel_rfl) ?_
                  refine Wk.rEnd 7 rfl ?_
                  refine Wk.nxt ?_
                  refine wp_cond_false (by kernel_rfl) ?_
                  refine wp_seq ?_
                  refine Wk.reg ?_
                  refine Wk.rPure 0 (some 92) (.pointer (some ⟨W2.heap.size, 3, none⟩)) rfl rfl (by kernel_rfl) (by kernel_rfl) ?_
                  refine Wk.rPure 1 (some 93) (.bool b3) rfl rfl (by kernel_rfl) (Wk.load1 4 (.tmp 92) rfl (by kernel_rfl) ⟨W2.heap.size, 3, none⟩ (by kernel_rfl) (.bool b3) ((cell_of_row _ _ 3 _ _ _ hb2).trans rfl)) ?_
                  refine Wk.rPure 2 (some 94) (.bool b3) rfl rfl (by kernel_rfl) (by kernel_rfl) ?_
                  cases b3
                  · refine Wk.rPure 3 (some 95) (.int .i64 x) rfl rfl (by kernel_rfl) (by kernel_rfl) ?_
                    refine Wk.rPure 4 (some 96) (.slice (some ⟨g, off, none⟩) n c) rfl rfl (by kernel_rfl) (by kernel_rfl) ?_
                    refine Wk.rPure 5 (some 97) (.pointer (some ⟨g, off + 0 * 9, none⟩)) rfl rfl (by kernel_rfl) (Wk.index_sl 26 32 (.tmp 96) (.const (.int .i64 0)) rfl Try.underlying26 9 (by kernel_rfl) g off n c 0 .i64 (by kernel_rfl) (by kernel_rfl) (by omega)) ?_
                    refine Wk.rPure 6 (some 98) (.pointer (some ⟨g, off + 0 * 9, none⟩)) rfl rfl (by kernel_rfl) (by kernel_rfl) ?_
                    have kk58 := Wk.Chg.step kk1 ch2 trivial
                    have kk59 := Wk.Chg.step kk58 ch3 ⟨.inr (by omega), trivial⟩
                    refine Wk.rPure 7 (some 99) (.int .i64 x0) rfl rfl (by kernel_rfl) (Wk.load1 3 (.tmp 98) rfl (by kernel_rfl) ⟨g, off + 0 * 9, none⟩ (by kernel_rfl) (.int .i64 x0) (Wk.Chg.cell kk59 qz trivial)) ?_
                    refine Wk.rPure 8 (some 100) (.int .i64 most) rfl rfl (by kernel_rfl) (by kernel_rfl) ?_
                    refine Wk.rPure 9 (some 101) (.int .i64 (x0 + most)) rfl rfl (by kernel_rfl) (Wk.int64 (n := x0 + most) (z := x0 + most) (by omega) (by omega) (by omega) (by kernel_rfl)) ?_
                    by_cases hx8 : x ≥ (x0 + most)
                    · refine Wk.rPure 10 (some 102) (.bool true) rfl rfl (by kernel_rfl) (Wk.boolT (b := decide (x ≥ (x0 + most))) (decide_eq_true (by first | exact hx8 | omega)) (by kernel_rfl)) ?_
                      refine Wk.rPure 11 (some 103) (.bool true) rfl rfl (by kernel_rfl) (by kernel_rfl) ?_
                      refine Wk.rPure 12 (some 91) (.bool true) rfl rfl (by kernel_rfl) (by kernel_rfl) ?_
                      refine Wk.rEnd 13 rfl ?_
                      refine Wk.nxt ?_
                      refine wp_cond_true (by kernel_rfl) ?_
                      refine wp_seq ?_
                      refine Wk.reg ?_
                      refine Wk.rPure 0 (some 8) (.int .i64 2) rfl rfl (by kernel_rfl) (by kernel_rfl) ?_
                      refine Wk.rEnd 1 rfl ?_
                      refine Wk.nxt ?_
                      refine Wk.reg ?_
                      refine Wk.rPure 0 (some 104) (.slice A3 k c3) rfl rfl (by kernel_rfl) (by kernel_rfl) ?_
                      refine Wk.rEx 1 (some 105) _ rfl rfl (by kernel_rfl) (Wk.new_ex (.slice (some ⟨W4.heap.size, 0, none⟩) 1 1) #[.int .u8 3] 35 (by kernel_rfl)) ?_
                      rintro _ W39 ⟨rfl, hb20, ch38, sz20⟩
                      have zz38 := ch38.size
                      refine Wk.rEx 2 (some 106) _ rfl rfl (by kernel_rfl) (Wk.append_run (.tmp 104) (.tmp 105) 33 35 rfl Try.underlying33 (.int .u8 0) 1 1 (by kernel_rfl) rfl (by omega) w.heap.size (.slice A3 k c3) k (wants (outsTo most budget l k)) (some ⟨W4.heap.size, 0, none⟩) 1 1 ([.int .u8 3]) (by kernel_rfl) (by kernel_rfl) (Wk.own_chg (Wk.own_chg (Wk.own_chg (Wk.own_chg HO ch1 (fun g e _ _ => trivial)) ch2 (fun g e _ _ => trivial)) ch3 (fun g e _ _ => ⟨by have := LT g e; omega, trivial⟩)) ch38 (fun g e _ _ => trivial)) (Wk.sl_blk 1 1 hb20 rfl) (fun h => by cases h) (by intro v hv; simp at hv; subst hv; rfl) (by omega) (by unfold maxLen; omega) (by omega)) ?_
                      rintro vv18 W40 ⟨HO18, ch39, ha18⟩
                      obtain ⟨AA18, nn18, rfl, hcc18, hmm19, hN18, HS18, hl18⟩ := Wk.own_sl HO18
                      have lt18 := World.ownsRow.lt HO18
                      have zz39 := ch39.size
                      refine Wk.rPure 3 (some 7) (.slice AA18 (k + 1) nn18) rfl rfl (by kernel_rfl) (by kernel_rfl) ?_
                      refine Wk.rEnd 4 rfl ?_
                      refine Wk.inN ?_
                      refine Wk.inN ?_
                      refine Wk.nxt ?_
                      refine Wk.reg ?_
                      refine Wk.rPure 0 (some 18) (.int .i64 ((k : Nat) : Int)) rfl rfl (by kernel_rfl) (by kernel_rfl) ?_
                      refine Wk.rPure 1 (some 19) (.int .i64 ((k + 1 : Nat) : Int)) rfl rfl (by kernel_rfl) (Wk.int64 (n := ((k : Nat) : Int) + 1) (z := ((k + 1 : Nat) : Int)) (by omega) (by omega) (by omega) (by kernel_rfl)) ?_
                      refine Wk.rPure 2 (some 11) (.int .i64 ((k + 1 : Nat) : Int)) rfl rfl (by kernel_rfl) (by kernel_rfl) ?_
                      refine Wk.rEnd 3 rfl ?_
                      refine Wk.nxt ?_
                      have kk60 := Wk.Chg.step kk59 ch38 trivial
                      have kk61 := Wk.Chg.step kk60 ch39 (Wk.newOr_blk (fun g hg => by have := LT g hg; omega))
                      have hR2 : refTo most budget l (k + 1) = ⟨2, true, bg, 3⟩ := by rw [refTo_succ HX.out HRR.out HX0.out]; simp [Ref.next, Ref.look, *]
                      refine ⟨_, ?_, k + 1, AA18, nn18, 2, true, bg, 3, rfl, by kernel_rfl, ⟨by omega, by omega⟩, hR2, own_next HO18 hR2, kk61⟩
                      · omega
                    · refine Wk.rPure 10 (some 102) (.bool false) rfl rfl (by kernel_rfl) (Wk.boolF (b := decide (x ≥ (x0 + most))) (decide_eq_false (by first | exact hx8 | omega)) (by kernel_rfl)) ?_
                      refine Wk.rPure 11 (some 103) (.bool false) rfl rfl (by kernel_rfl) (by kernel_rfl) ?_
                      refine Wk.rPure 12 (some 91) (.bool false) rfl rfl (by kernel_rfl) (by kernel_rfl) ?_
                      refine Wk.rEnd 13 rfl ?_
                      refine Wk.nxt ?_
                      refine wp_cond_false (by kernel_rfl) ?_
                      refine wp_seq ?_
                      refine Wk.reg ?_
                      refine Wk.rPure 0 (some 108) (.pointer (some ⟨W2.heap.size, 2, none⟩)) rfl rfl (by kernel_rfl) (by kernel_rfl) ?_
                      refine Wk.rPure 1 (some 109) (.bool b2) rfl rfl (by kernel_rfl) (Wk.load1 4 (.tmp 108) rfl (by kernel_rfl) ⟨W2.heap.size, 2, none⟩ (by kernel_rfl) (.bool b2) ((cell_of_row _ _ 2 _ _ _ hb2).trans rfl)) ?_
                      refine Wk.rPure 2 (some 107) (.bool b2) rfl rfl (by kernel_rfl) (by kernel_rfl) ?_
                      refine Wk.rEnd 3 rfl ?_
                      refine Wk.nxt ?_
                      cases b2
                      · refine wp_cond_false (by kernel_rfl) ?_
                        refine Wk.reg ?_
                        refine Wk.rPure 0 (some 77) (.slice A3 k c3) rfl rfl (by kernel_rfl) (by kernel_rfl) ?_
                        refine Wk.rEx 1 (some 78) _ rfl rfl (by kernel_rfl) (Wk.new_ex (.slice (some ⟨W4.heap.size, 0, none⟩) 1 1) #[.int .u8 1] 35 (by kernel_rfl)) ?_
                        rintro _ W41 ⟨rfl, hb21, ch40, sz21⟩
                        have zz40 := ch40.size
                        refine Wk.rEx 2 (some 79) _ rfl rfl (by kernel_rfl) (Wk.append_run (.tmp 77) (.tmp 78) 33 35 rfl Try.underlying33 (.int .u8 0) 1 1 (by kernel_rfl) rfl (by omega) w.heap.size (.slice A3 k c3) k (wants (outsTo most budget l k)) (some ⟨W4.heap.size, 0, none⟩) 1 1 ([.int .u8 1]) (by kernel_rfl) (by kernel_rfl) (Wk.own_chg (Wk.own_chg (Wk.own_chg (Wk.own_chg HO ch1 (fun g e _ _ => trivial)) ch2 (fun g e _ _ => trivial)) ch3 (fun g e _ _ => ⟨by have := LT g e; omega, trivial⟩)) ch40 (fun g e _ _ => trivial)) (Wk.sl_blk 1 1 hb21 rfl) (fun h => by cases h) (by intro v hv; simp at hv; subst hv; rfl) (by omega) (by unfold maxLen; omega) (by omega)) ?_
                        rintro vv19 W42 ⟨HO19, ch41, ha19⟩
                        obtain ⟨AA19, nn19, rfl, hcc19, hmm20, hN19, HS19, hl19⟩ := Wk.own_sl HO19
                        have lt19 := World.ownsRow.lt HO19
                        have zz41 := ch41.size
                        refine Wk.rPure 3 (some 7) (.slice AA19 (k + 1) nn19) rfl rfl (by kernel_rfl) (by kernel_rfl) ?_
                        refine Wk.rEnd 4 rfl ?_
                        refine Wk.inN ?_
                        refine Wk.inN ?_
                        refine Wk.nxt ?_
                        refine Wk.reg ?_
                        refine Wk.rPure 0 (some 18) (.int .i64 ((k : Nat) : Int)) rfl rfl (by kernel_rfl) (by kernel_rfl) ?_
                        refine Wk.rPure 1 (some 19) (.int .i64 ((k + 1 : Nat) : Int)) rfl rfl (by kernel_rfl) (Wk.int64 (n := ((k : Nat) : Int) + 1) (z := ((k + 1 : Nat) : Int)) (by omega) (by omega) (by omega) (by kernel_rfl)) ?_
                        refine Wk.rPure 2 (some 11) (.int .i64 ((k + 1 : Nat) : Int)) rfl rfl (by kernel_rfl) (by kernel_rfl) ?_
                        refine Wk.rEnd 3 rfl ?_
                        refine Wk.nxt ?_
                        have kk62 := Wk.Chg.step kk59 ch40 trivial
                        have kk63 := Wk.Chg.step kk62 ch41 (Wk.newOr_blk (fun g hg => by have := LT g hg; omega))
                        have hR2 : refTo most budget l (k + 1) = ⟨0, true, bg, 1⟩ := by rw [refTo_succ HX.out HRR.out HX0.out]; simp [Ref.next, Ref.look, *]
                        refine ⟨_, ?_, k + 1, AA19, nn19, 0, true, bg, 1, rfl, by kernel_rfl, ⟨by omega, by omega⟩, hR2, own_next HO19 hR2, kk63⟩
                        · omega
                      · refine wp_cond_true (by kernel_rfl) ?_
                        refine Wk.reg ?_
                        refine Wk.rPure 0 (some 110) (.slice A3 k c3) rfl rfl (by kernel_rfl) (by kernel_rfl) ?_
                        refine Wk.rEx 1 (some 111) _ rfl rfl (by kernel_rfl) (Wk.new_ex (.slice (some ⟨W4.heap.size, 0, none⟩) 1 1) #[.int .u8 0] 35 (by kernel_rfl)) ?_
                        rintro _ W43 ⟨rfl, hb22, ch42, sz22⟩
                        have zz42 := ch42.size
                        refine Wk.rEx 2 (some 112) _ rfl rfl (by kernel_rfl) (Wk.append_run (.tmp 110) (.tmp 111) 33 35 rfl Try.underlying33 (.int .u8 0) 1 1 (by kernel_rfl) rfl (by omega) w.heap.size (.slice A3 k c3) k (wants (outsTo most budget l k)) (some ⟨W4.heap.size, 0, none⟩) 1 1 ([.int .u8 0]) (by kernel_rfl) (by kernel_rfl) (Wk.own_chg (Wk.own_chg (Wk.own_chg (Wk.own_chg HO ch1 (fun g e _ _ => trivial)) ch2 (fun g e _ _ => trivial)) ch3 (fun g e _ _ => ⟨by have := LT g e; omega, trivial⟩)) ch42 (fun g e _ _ => trivial)) (Wk.sl_blk 1 1 hb22 rfl) (fun h => by cases h) (by intro v hv; simp at hv; subst hv; rfl) (by omega) (by unfold maxLen; omega) (by omega)) ?_
                        rintro vv20 W44 ⟨HO20, ch43, ha20⟩
                        obtain ⟨AA20, nn20, rfl, hcc20, hmm21, hN20, HS20, hl20⟩ := Wk.own_sl HO20
                        have lt20 := World.ownsRow.lt HO20
                        have zz43 := ch43.size
                        refine Wk.rPure 3 (some 7) (.slice AA20 (k + 1) nn20) rfl rfl (by kernel_rfl) (by kernel_rfl) ?_
                        refine Wk.rEnd 4 rfl ?_
                        refine Wk.inN ?_
                        refine Wk.inN ?_
                        refine Wk.nxt ?_
                        refine Wk.reg ?_
                        refine Wk.rPure 0 (some 18) (.int .i64 ((k : Nat) : Int)) rfl rfl (by kernel_rfl) (by kernel_rfl) ?_
                        refine Wk.rPure 1 (some 19) (.int .i64 ((k + 1 : Nat) : Int)) rfl rfl (by kernel_rfl) (Wk.int64 (n := ((k : Nat) : Int) + 1) (z := ((k + 1 : Nat) : Int)) (by omega) (by omega) (by omega) (by kernel_rfl)) ?_
                        refine Wk.rPure 2 (some 11) (.int .i64 ((k + 1 : Nat) : Int)) rfl rfl (by kernel_rfl) (by kernel_rfl) ?_
                        refine Wk.rEnd 3 rfl ?_
                        refine Wk.nxt ?_
                        have kk64 := Wk.Chg.step kk59 ch42 trivial
                        have kk65 := Wk.Chg.step kk64 ch43 (Wk.newOr_blk (fun g hg => by have := LT g hg; omega))
                        have hR2 : refTo most budget l (k + 1) = ⟨0, true, bg, 0⟩ := by rw [refTo_succ HX.out HRR.out HX0.out]; simp [Ref.next, Ref.look, *]
                        refine ⟨_, ?_, k + 1, AA20, nn20, 0, true, bg, 0, rfl, by kernel_rfl, ⟨by omega, by omega⟩, hR2, own_next HO20 hR2, kk65⟩
                        · omega
                  · refine Wk.rPass 3 (some 95) rfl rfl (by kernel_rfl) ?_
                    refine Wk.rPass 4 (some 96) rfl rfl (by kernel_rfl) ?_
                    refine Wk.rPass 5 (some 97) rfl rfl (by kernel_rfl) ?_
                    refine Wk.rPass 6 (some 98) rfl rfl (by kernel_rfl) ?_
                    refine Wk.rPass 7 (some 99) rfl rfl (by kernel_rfl) ?_
                    refine Wk.rPass 8 (some 100) rfl rfl (by kernel_rfl) ?_
                    refine Wk.rPass 9 (some 101) rfl rfl (by kernel_rfl) ?_
                    refine Wk.rPass 10 (some 102) rfl rfl (by kernel_rfl) ?_
                    refine Wk.rPure 11 (some 103) (.bool true) rfl rfl (by kernel_rfl) (by kernel_rfl) ?_
                    refine Wk.rPure 12 (some 91) (.bool true) rfl rfl (by kernel_rfl) (by kernel_rfl) ?_
                    refine Wk.rEnd 13 rfl ?_
                    refine Wk.nxt ?_
                    refine wp_cond_true (by kernel_rfl) ?_
                    refine wp_seq ?_
                    refine Wk.reg ?_
                    refine Wk.rPure 0 (some 8) (.int .i64 2) rfl rfl (by kernel_rfl) (by kernel_rfl) ?_
                    refine Wk.rEnd 1 rfl ?_
                    refine Wk.nxt ?_
                    refine Wk.reg ?_
                    refine Wk.rPure 0 (some 104) (.slice A3 k c3) rfl rfl (by kernel_rfl) (by kernel_rfl) ?_
                    refine Wk.rEx 1 (some 105) _ rfl rfl (by kernel_rfl) (Wk.new_ex (.slice (some ⟨W4.heap.size, 0, none⟩) 1 1) #[.int .u8 3] 35 (by kernel_rfl)) ?_
                    rintro _ W45 ⟨rfl, hb23, ch44, sz23⟩
                    have zz44 := ch44.size
                    refine Wk.rEx 2 (some 106) _ rfl rfl (by kernel_rfl) (Wk.append_run (.tmp 104) (.tmp 105) 33 35 rfl Try.underlying33 (.int .u8 0) 1 1 (by kernel_rfl) rfl (by omega) w.heap.size (.slice A3 k c3) k (wants (outsTo most budget l k)) (some ⟨W4.heap.size, 0, none⟩) 1 1 ([.int .u8 3]) (by kernel_rfl) (by kernel_rfl) (Wk.own_chg (Wk.own_chg (Wk.own_chg (Wk.own_chg HO ch1 (fun g e _ _ => trivial)) ch2 (fun g e _ _ => trivial)) ch3 (fun g e _ _ => ⟨by have := LT g e; omega, trivial⟩)) ch44 (fun g e _ _ => trivial)) (Wk.sl_blk 1 1 hb23 rfl) (fun h => by cases h) (by intro v hv; simp at hv; subst hv; rfl) (by omega) (by unfold maxLen; omega) (by omega)) ?_
                    rintro vv21 W46 ⟨HO21, ch45, ha21⟩
                    obtain ⟨AA21, nn21, rfl, hcc21, hmm22, hN21, HS21, hl21⟩ := Wk.own_sl HO21
                    have lt21 := World.ownsRow.lt HO21
                    have zz45 := ch45.size
                    refine Wk.rPure 3 (some 7) (.slice AA21 (k + 1) nn21) rfl rfl (by kernel_rfl) (by kernel_rfl) ?_
                    refine Wk.rEnd 4 rfl ?_
                    refine Wk.inN ?_
                    refine Wk.inN ?_
                    refine Wk.nxt ?_
                    refine Wk.reg ?_
                    refine Wk.rPure 0 (some 18) (.int .i64 ((k : Nat) : Int)) rfl rfl (by kernel_rfl) (by kernel_rfl) ?_
                    refine Wk.rPure 1 (some 19) (.int .i64 ((k + 1 : Nat) : Int)) rfl rfl (by kernel_rfl) (Wk.int64 (n := ((k : Nat) : Int) + 1) (z := ((k + 1 : Nat) : Int)) (by omega) (by omega) (by omega) (by kernel_rfl)) ?_
                    refine Wk.rPure 2 (some 11) (.int .i64 ((k + 1 : Nat) : Int)) rfl rfl (by kernel_rfl) (by kernel_rfl) ?_
                    refine Wk.rEnd 3 rfl ?_
                    refine Wk.nxt ?_
                    have kk66 := Wk.Chg.step kk1 ch2 trivial
                    have kk67 := Wk.Chg.step kk66 ch3 ⟨.inr (by omega), trivial⟩
                    have kk68 := Wk.Chg.step kk67 ch44 trivial
                    have kk69 := Wk.Chg.step kk68 ch45 (Wk.newOr_blk (fun g hg => by have := LT g hg; omega))
                    have hR2 : refTo most budget l (k + 1) = ⟨2, true, bg, 3⟩ := by rw [refTo_succ HX.out HRR.out HX0.out]; simp [Ref.next, Ref.look, *]
                    refine ⟨_, ?_, k + 1, AA21, nn21, 2, true, bg, 3, rfl, by kernel_rfl, ⟨by omega, by omega⟩, hR2, own_next HO21 hR2, kk69⟩
                    · omega
            · refine Wk.rPure 1 (some 63) (.bool false) rfl rfl (by kernel_rfl) (Wk.boolF (b := (st == (1 : Int))) (beq_eq_false_iff_ne.2 (by first | exact hx3 | omega)) (by kernel_rfl)) ?_
              refine Wk.rEnd 2 rfl ?_
              refine Wk.nxt ?_
              refine wp_cond_false (by kernel_rfl) ?_
              refine wp_skip ?_
              refine Wk.nxt ?_
              refine wp_block ?_
              refine wp_seq ?_
              refine Wk.reg ?_
              refine Wk.rPure 0 (some 81) (.pointer (some ⟨W2.heap.size, 1, none⟩)) rfl rfl (by kernel_rfl) (by kernel_rfl) ?_
              refine Wk.rPure 1 (some 82) (.bool b1) rfl rfl (by kernel_rfl) (Wk.load1 4 (.tmp 81) rfl (by kernel_rfl) ⟨W2.heap.size, 1, none⟩ (by kernel_rfl) (.bool b1) ((cell_of_row _ _ 1 _ _ _ hb2).trans rfl)) ?_
              refine Wk.rPure 2 (some 83) (.bool b1) rfl rfl (by kernel_rfl) (by kernel_rfl) ?_
              cases b1
              · refine Wk.rPass 3 (some 84) rfl rfl (by kernel_rfl) ?_
                refine Wk.rPass 4 (some 85) rfl rfl (by kernel_rfl) ?_
                refine Wk.rPure 5 (some 86) (.bool false) rfl rfl (by kernel_rfl) (by kernel_rfl) ?_
                refine Wk.rPure 6 (some 80) (.bool false) rfl rfl (by kernel_rfl) (by kernel_rfl) ?_
                refine Wk.rEnd 7 rfl ?_
                refine Wk.nxt ?_
                refine wp_cond_false (by kernel_rfl) ?_
                refine wp_seq ?_
                refine Wk.reg ?_
                refine Wk.rPure 0 (some 92) (.pointer (some ⟨W2.heap.size, 3, none⟩)) rfl rfl (by kernel_rfl) (by kernel_rfl) ?_
                refine Wk.rPure 1 (some 93) (.bool b3) rfl rfl (by kernel_rfl) (Wk.load1 4 (.tmp 92) rfl (by kernel_rfl) ⟨W2.heap.size, 3, none⟩ (by kernel_rfl) (.bool b3) ((cell_of_row _ _ 3 _ _ _ hb2).trans rfl)) ?_
                refine Wk.rPure 2 (some 94) (.bool b3) rfl rfl (by kernel_rfl) (by kernel_rfl) ?_
                cases b3
                · refine Wk.rPure 3 (some 95) (.int .i64 x) rfl rfl (by kernel_rfl) (by kernel_rfl) ?_
                  refine Wk.rPure 4 (some 96) (.slice (some ⟨g, off, none⟩) n c) rfl rfl (by kernel_rfl) (by kernel_rfl) ?_
                  refine Wk.rPure 5 (some 97) (.pointer (some ⟨g, off + 0 * 9, none⟩)) rfl rfl (by kernel_rfl) (Wk.index_sl 26 32 (.tmp 96) (.const (.int .i64 0)) rfl Try.underlying26 9 (by kernel_rfl) g off n c 0 .i64 (by kernel_rfl) (by kernel_rfl) (by omega)) ?_
                  refine Wk.rPure 6 (some 98) (.pointer (some ⟨g, off + 0 * 9, none⟩)) rfl rfl (by kernel_rfl) (by kernel_rfl) ?_
                  have kk70 := Wk.Chg.step kk1 ch2 trivial
                  have kk71 := Wk.Chg.step kk70 ch3 ⟨.inr (by omega), trivial⟩
                  refine Wk.rPure 7 (some 99) (.int .i64 x0) rfl rfl (by kernel_rfl) (Wk.load1 3 (.tmp 98) rfl (by kernel_rfl) ⟨g, off + 0 * 9, none⟩ (by kernel_rfl) (.int .i64 x0) (Wk.Chg.cell kk71 qz trivial)) ?_
                  refine Wk.rPure 8 (some 100) (.int .i64 most) rfl rfl (by kernel_rfl) (by kernel_rfl) ?_
                  refine Wk.rPure 9 (some 101) (.int .i64 (x0 + most)) rfl rfl (by kernel_rfl) (Wk.int64 (n := x0 + most) (z := x0 + most) (by omega) (by omega) (by omega) (by kernel_rfl)) ?_
                  by_cases hx9 : x ≥ (x0 + most)
                  · refine Wk.rPure 10 (some 102) (.bool true) rfl rfl (by kernel_rfl) (Wk.boolT (b := decide (x ≥ (x0 + most))) (decide_eq_true (by first | exact hx9 | omega)) (by kernel_rfl)) ?_
                    refine Wk.rPure 11 (some 103) (.bool true) rfl rfl (by kernel_rfl) (by kernel_rfl) ?_
                    refine Wk.rPure 12 (some 91) (.bool true) rfl rfl (by kernel_rfl) (by kernel_rfl) ?_
                    refine Wk.rEnd 13 rfl ?_
                    refine Wk.nxt ?_
                    refine wp_cond_true (by kernel_rfl) ?_
                    refine wp_seq ?_
                    refine Wk.reg ?_
                    refine Wk.rPure 0 (some 8) (.int .i64 2) rfl rfl (by kernel_rfl) (by kernel_rfl) ?_
                    refine Wk.rEnd 1 rfl ?_
                    refine Wk.nxt ?_
                    refine Wk.reg ?_
                    refine Wk.rPure 0 (some 104) (.slice A3 k c3) rfl rfl (by kernel_rfl) (by kernel_rfl) ?_
                    refine Wk.rEx 1 (some 105) _ rfl rfl (by kernel_rfl) (Wk.new_ex (.slice (some ⟨W4.heap.size, 0, none⟩) 1 1) #[.int .u8 3] 35 (by kernel_rfl)) ?_
                    rintro _ W47 ⟨rfl, hb24, ch46, sz24⟩
                    have zz46 := ch46.size
                    refine Wk.rEx 2 (some 106) _ rfl rfl (by kernel_rfl) (Wk.append_run (.tmp 104) (.tmp 105) 33 35 rfl Try.underlying33 (.int .u8 0) 1 1 (by kernel_rfl) rfl (by omega) w.heap.size (.slice A3 k c3) k (wants (outsTo most budget l k)) (some ⟨W4.heap.size, 0, none⟩) 1 1 ([.int .u8 3]) (by kernel_rfl) (by kernel_rfl) (Wk.own_chg (Wk.own_chg (Wk.own_chg (Wk.own_chg HO ch1 (fun g e _ _ => trivial)) ch2 (fun g e _ _ => trivial)) ch3 (fun g e _ _ => ⟨by have := LT g e; omega, trivial⟩)) ch46 (fun g e _ _ => trivial)) (Wk.sl_blk 1 1 hb24 rfl) (fun h => by cases h) (by intro v hv; simp at hv; subst hv; rfl) (by omega) (by unfold maxLen; omega) (by omega)) ?_
                    rintro vv22 W48 ⟨HO22, ch47, ha22⟩
                    obtain ⟨AA22, nn22, rfl, hcc22, hmm23, hN22, HS22, hl22⟩ := Wk.own_sl HO22
                    have lt22 := World.ownsRow.lt HO22
                    have zz47 := ch47.size
                    refine Wk.rPure 3 (some 7) (.slice AA22 (k + 1) nn22) rfl rfl (by kernel_rfl) (by kernel_rfl) ?_
                    refine Wk.rEnd 4 rfl ?_
                    refine Wk.inN ?_
                    refine Wk.inN ?_
                    refine Wk.nxt ?_
                    refine Wk.reg ?_
                    refine Wk.rPure 0 (some 18) (.int .i64 ((k : Nat) : Int)) rfl rfl (by kernel_rfl) (by kernel_rfl) ?_
                    refine Wk.rPure 1 (some 19) (.int .i64 ((k + 1 : Nat) : Int)) rfl rfl (by kernel_rfl) (Wk.int64 (n := ((k : Nat) : Int) + 1) (z := ((k + 1 : Nat) : Int)) (by omega) (by omega) (by omega) (by kernel_rfl)) ?_
                    refine Wk.rPure 2 (some 11) (.int .i64 ((k + 1 : Nat) : Int)) rfl rfl (by kernel_rfl) (by kernel_rfl) ?_
                    refine Wk.rEnd 3 rfl ?_
                    refine Wk.nxt ?_
                    have kk72 := Wk.Chg.step kk71 ch46 trivial
                    have kk73 := Wk.Chg.step kk72 ch47 (Wk.newOr_blk (fun g hg => by have := LT g hg; omega))
                    have hR2 : refTo most budget l (k + 1) = ⟨2, fd, bg, 3⟩ := by rw [refTo_succ HX.out HRR.out HX0.out]; simp [Ref.next, Ref.look, *]
                    refine ⟨_, ?_, k + 1, AA22, nn22, 2, fd, bg, 3, rfl, by kernel_rfl, ⟨by omega, by omega⟩, hR2, own_next HO22 hR2, kk73⟩
                    · omega
                  · refine Wk.rPure 10 (some 102) (.bool false) rfl rfl (by kernel_rfl) (Wk.boolF (b := decide (x ≥ (x0 + most))) (decide_eq_false (by first | exact hx9 | omega)) (by kernel_rfl)) ?_
                    refine Wk.rPure 11 (some 103) (.bool false) rfl rfl (by kernel_rfl) (by kernel_rfl) ?_
                    refine Wk.rPure 12 (some 91) (.bool false) rfl rfl (by kernel_rfl) (by kernel_rfl) ?_
                    refine Wk.rEnd 13 rfl ?_
                    refine Wk.nxt ?_
                    refine wp_cond_false (by kernel_rfl) ?_
                    refine wp_seq ?_
                    refine Wk.reg ?_
                    refine Wk.rPure 0 (some 108) (.pointer (some ⟨W2.heap.size, 2, none⟩)) rfl rfl (by kernel_rfl) (by kernel_rfl) ?_
                    refine Wk.rPure 1 (some 109) (.bool b2) rfl rfl (by kernel_rfl) (Wk.load1 4 (.tmp 108) rfl (by kernel_rfl) ⟨W2.heap.size, 2, none⟩ (by kernel_rfl) (.bool b2) ((cell_of_row _ _ 2 _ _ _ hb2).trans rfl)) ?_
                    refine Wk.rPure 2 (some 107) (.bool b2) rfl rfl (by kernel_rfl) (by kernel_rfl) ?_
                    refine Wk.rEnd 3 rfl ?_
                    refine Wk.nxt ?_
                    cases b2
                    · refine wp_cond_false (by kernel_rfl) ?_
                      refine Wk.reg ?_
                      refine Wk.rPure 0 (some 77) (.slice A3 k c3) rfl rfl (by kernel_rfl) (by kernel_rfl) ?_
                      refine Wk.rEx 1 (some 78) _ rfl rfl (by kernel_rfl) (Wk.new_ex (.slice (some ⟨W4.heap.size, 0, none⟩) 1 1) #[.int .u8 1] 35 (by kernel_rfl)) ?_
                      rintro _ W49 ⟨rfl, hb25, ch48, sz25⟩
                      have zz48 := ch48.size
                      refine Wk.rEx 2 (some 79) _ rfl rfl (by kernel_rfl) (Wk.append_run (.tmp 77) (.tmp 78) 33 35 rfl Try.underlying33 (.int .u8 0) 1 1 (by kernel_rfl) rfl (by omega) w.heap.size (.slice A3 k c3) k (wants (outsTo most budget l k)) (some ⟨W4.heap.size, 0, none⟩) 1 1 ([.int .u8 1]) (by kernel_rfl) (by kernel_rfl) (Wk.own_chg (Wk.own_chg (Wk.own_chg (Wk.own_chg HO ch1 (fun g e _ _ => trivial)) ch2 (fun g e _ _ => trivial)) ch3 (fun g e _ _ => ⟨by have := LT g e; omega, trivial⟩)) ch48 (fun g e _ _ => trivial)) (Wk.sl_blk 1 1 hb25 rfl) (fun h => by cases h) (by intro v hv; simp at hv; subst hv; rfl) (by omega) (by unfold maxLen; omega) (by omega)) ?_
                      rintro vv23 W50 ⟨HO23, ch49, ha23⟩
                      obtain ⟨AA23, nn23, rfl, hcc23, hmm24, hN23, HS23, hl23⟩ := Wk.own_sl HO23
                      have lt23 := World.ownsRow.lt HO23
                      have zz49 := ch49.size
                      refine Wk.rPure 3 (some 7) (.slice AA23 (k + 1) nn23) rfl rfl (by kernel_rfl) (by kernel_rfl) ?_
                      refine Wk.rEnd 4 rfl ?_
                      refine Wk.inN ?_
                      refine Wk.inN ?_
                      refine Wk.nxt ?_
                      refine Wk.reg ?_
                      refine Wk.rPure 0 (some 18) (.int .i64 ((k : Nat) : Int)) rfl rfl (by kernel_rfl) (by kernel_rfl) ?_
                      refine Wk.rPure 1 (some 19) (.int .i64 ((k + 1 : Nat) : Int)) rfl rfl (by kernel_rfl) (Wk.int64 (n := ((k : Nat) : Int) + 1) (z := ((k + 1 : Nat) : Int)) (by omega) (by omega) (by omega) (by kernel_rfl)) ?_
                      refine Wk.rPure 2 (some 11) (.int .i64 ((k + 1 : Nat) : Int)) rfl rfl (by kernel_rfl) (by kernel_rfl) ?_
                      refine Wk.rEnd 3 rfl ?_
                      refine Wk.nxt ?_
                      have kk74 := Wk.Chg.step kk71 ch48 trivial
                      have kk75 := Wk.Chg.step kk74 ch49 (Wk.newOr_blk (fun g hg => by have := LT g hg; omega))
                      have hR2 : refTo most budget l (k + 1) = ⟨st, fd, bg, 1⟩ := by rw [refTo_succ HX.out HRR.out HX0.out]; simp [Ref.next, Ref.look, *]
                      refine ⟨_, ?_, k + 1, AA23, nn23, st, fd, bg, 1, rfl, by kernel_rfl, ⟨by omega, by omega⟩, hR2, own_next HO23 hR2, kk75⟩
                      · omega
                    · refine wp_cond_true (by kernel_rfl) ?_
                      refine Wk.reg ?_
                      refine Wk.rPure 0 (some 110) (.slice A3 k c3) rfl rfl (by kernel_rfl) (by kernel_rfl) ?_
                      refine Wk.rEx 1 (some 111) _ rfl rfl (by kernel_rfl) (Wk.new_ex (.slice (some ⟨W4.heap.size, 0, none⟩) 1 1) #[.int .u8 0] 35 (by kernel_rfl)) ?_
                      rintro _ W51 ⟨rfl, hb26, ch50, sz26⟩
                      have zz50 := ch50.size
                      refine Wk.rEx 2 (some 112) _ rfl rfl (by kernel_rfl) (Wk.append_run (.tmp 110) (.tmp 111) 33 35 rfl Try.underlying33 (.int .u8 0) 1 1 (by kernel_rfl) rfl (by omega) w.heap.size (.slice A3 k c3) k (wants (outsTo most budget l k)) (some ⟨W4.heap.size, 0, none⟩) 1 1 ([.int .u8 0]) (by kernel_rfl) (by kernel_rfl) (Wk.own_chg (Wk.own_chg (Wk.own_chg (Wk.own_chg HO ch1 (fun g e _ _ => trivial)) ch2 (fun g e _ _ => trivial)) ch3 (fun g e _ _ => ⟨by have := LT g e; omega, trivial⟩)) ch50 (fun g e _ _ => trivial)) (Wk.sl_blk 1 1 hb26 rfl) (fun h => by cases h) (by intro v hv; simp at hv; subst hv; rfl) (by omega) (by unfold maxLen; omega) (by omega)) ?_
                      rintro vv24 W52 ⟨HO24, ch51, ha24⟩
                      obtain ⟨AA24, nn24, rfl, hcc24, hmm25, hN24, HS24, hl24⟩ := Wk.own_sl HO24
                      have lt24 := World.ownsRow.lt HO24
                      have zz51 := ch51.size
                      refine Wk.rPure 3 (some 7) (.slice AA24 (k + 1) nn24) rfl rfl (by kernel_rfl) (by kernel_rfl) ?_
                      refine Wk.rEnd 4 rfl ?_
                      refine Wk.inN ?_
                      refine Wk.inN ?_
                      refine Wk.nxt ?_
                      refine Wk.reg ?_
                      refine Wk.rPure 0 (some 18) (.int .i64 ((k : Nat) : Int)) rfl rfl (by kernel_rfl) (by kernel_rfl) ?_
                      refine Wk.rPure 1 (some 19) (.int .i64 ((k + 1 : Nat) : Int)) rfl rfl (by kernel_rfl) (Wk.int64 (n := ((k : Nat) : Int) + 1) (z := ((k + 1 : Nat) : Int)) (by omega) (by omega) (by omega) (by kernel_rfl)) ?_
                      refine Wk.rPure 2 (some 11) (.int .i64 ((k + 1 : Nat) : Int)) rfl rfl (by kernel_rfl) (by kernel_rfl) ?_
                      refine Wk.rEnd 3 rfl ?_
                      refine Wk.nxt ?_
                      have kk76 := Wk.Chg.step kk71 ch50 trivial
                      have kk77 := Wk.Chg.step kk76 ch51 (Wk.newOr_blk (fun g hg => by have := LT g hg; omega))
                      have hR2 : refTo most budget l (k + 1) = ⟨st, fd, bg, 0⟩ := by rw [refTo_succ HX.out HRR.out HX0.out]; simp [Ref.next, Ref.look, *]
                      refine ⟨_, ?_, k + 1, AA24, nn24, st, fd, bg, 0, rfl, by kernel_rfl, ⟨by omega, by omega⟩, hR2, own_next HO24 hR2, kk77⟩
                      · omega
                · refine Wk.rPass 3 (some 95) rfl rfl (by kernel_rfl) ?_
                  refine Wk.rPass 4 (some 96) rfl rfl (by kernel_rfl) ?_
                  refine Wk.rPass 5 (some 97) rfl rfl (by kernel_rfl) ?_
                  refine Wk.rPass 6 (some 98) rfl rfl (by kernel_rfl) ?_
                  refine Wk.rPass 7 (some 99) rfl rfl (by kernel_rfl) ?_
                  refine Wk.rPass 8 (some 100) rfl rfl (by kernel_rfl) ?_
                  refine Wk.rPass 9 (some 101) rfl rfl (by kernel_rfl) ?_
                  refine Wk.rPass 10 (some 102) rfl rfl (by kernel_rfl) ?_
                  refine Wk.rPure 11 (some 103) (.bool true) rfl rfl (by kernel_rfl) (by kernel_rfl) ?_
                  refine Wk.rPure 12 (some 91) (.bool true) rfl rfl (by kernel_rfl) (by kernel_rfl) ?_
                  refine Wk.rEnd 13 rfl ?_
                  refine Wk.nxt ?_
                  refine wp_cond_true (by kernel_rfl) ?_
                  refine wp_seq ?_
                  refine Wk.reg ?_
                  refine Wk.rPure 0 (some 8) (.int .i64 2) rfl rfl (by kernel_rfl) (by kernel_rfl) ?_
                  refine Wk.rEnd 1 rfl ?_
                  refine Wk.nxt ?_
                  refine Wk.reg ?_
                  refine Wk.rPure 0 (some 104) (.slice A3 k c3) rfl rfl (by kernel_rfl) (by kernel_rfl) ?_
                  refine Wk.rEx 1 (some 105) _ rfl rfl (by kernel_rfl) (Wk.new_ex (.slice (some ⟨W4.heap.size, 0, none⟩) 1 1) #[.int .u8 3] 35 (by kernel_rfl)) ?_
                  rintro _ W53 ⟨rfl, hb27, ch52, sz27⟩
                  have zz52 := ch52.size
                  refine Wk.rEx 2 (some 106) _ rfl rfl (by kernel_rfl) (Wk.append_run (.tmp 104) (.tmp 105) 33 35 rfl Try.underlying33 (.int .u8 0) 1 1 (by kernel_rfl) rfl (by omega) w.heap.size (.slice A3 k c3) k (wants (outsTo most budget l k)) (some ⟨W4.heap.size, 0, none⟩) 1 1 ([.int .u8 3]) (by kernel_rfl) (by kernel_rfl) (Wk.own_chg (Wk.own_chg (Wk.own_chg (Wk.own_chg HO ch1 (fun g e _ _ => trivial)) ch2 (fun g e _ _ => trivial)) ch3 (fun g e _ _ => ⟨by have := LT g e; omega, trivial⟩)) ch52 (fun g e _ _ => trivial)) (Wk.sl_blk 1 1 hb27 rfl) (fun h => by cases h) (by intro v hv; simp at hv; subst hv; rfl) (by omega) (by unfold maxLen; omega) (by omega)) ?_
                  rintro vv25 W54 ⟨HO25, ch53, ha25⟩
                  obtain ⟨AA25, nn25, rfl, hcc25, hmm26, hN25, HS25, hl25⟩ := Wk.own_sl HO25
                  have lt25 := World.ownsRow.lt HO25
                  have zz53 := ch53.size
                  refine Wk.rPure 3 (some 7) (.slice AA25 (k + 1) nn25) rfl rfl (by kernel_rfl) (by kernel_rfl) ?_
                  refine Wk.rEnd 4 rfl ?_
                  refine Wk.inN ?_
                  refine Wk.inN ?_
                  refine Wk.nxt ?_
                  refine Wk.reg ?_
                  refine Wk.rPure 0 (some 18) (.int .i64 ((k : Nat) : Int)) rfl rfl (by kernel_rfl) (by kernel_rfl) ?_
                  refine Wk.rPure 1 (some 19) (.int .i64 ((k + 1 : Nat) : Int)) rfl rfl (by kernel_rfl) (Wk.int64 (n := ((k : Nat) : Int) + 1) (z := ((k + 1 : Nat) : Int)) (by omega) (by omega) (by omega) (by kernel_rfl)) ?_
                  refine Wk.rPure 2 (some 11) (.int .i64 ((k + 1 : Nat) : Int)) rfl rfl (by kernel_rfl) (by kernel_rfl) ?_
                  refine Wk.rEnd 3 rfl ?_
                  refine Wk.nxt ?_
                  have kk78 := Wk.Chg.step kk1 ch2 trivial
                  have kk79 := Wk.Chg.step kk78 ch3 ⟨.inr (by omega), trivial⟩
                  have kk80 := Wk.Chg.step kk79 ch52 trivial
                  have kk81 := Wk.Chg.step kk80 ch53 (Wk.newOr_blk (fun g hg => by have := LT g hg; omega))
                  have hR2 : refTo most budget l (k + 1) = ⟨2, fd, bg, 3⟩ := by rw [refTo_succ HX.out HRR.out HX0.out]; simp [Ref.next, Ref.look, *]
                  refine ⟨_, ?_, k + 1, AA25, nn25, 2, fd, bg, 3, rfl, by kernel_rfl, ⟨by omega, by omega⟩, hR2, own_next HO25 hR2, kk81⟩
                  · omega
              · refine Wk.rPure 3 (some 84) (.bool fd) rfl rfl (by kernel_rfl) (by kernel_rfl) ?_
                refine Wk.rPure 4 (some 85) (.bool (!fd)) rfl rfl (by kernel_rfl) (by kernel_rfl) ?_
                refine Wk.rPure 5 (some 86) (.bool (!fd)) rfl rfl (by kernel_rfl) (by kernel_rfl) ?_
                refine Wk.rPure 6 (some 80) (.bool (!fd)) rfl rfl (by kernel_rfl) (by kernel_rfl) ?_
                refine Wk.rEnd 7 rfl ?_
                refine Wk.nxt ?_
                cases fd
                · refine wp_cond_true (by kernel_rfl) ?_
                  refine wp_seq ?_
                  refine Wk.reg ?_
                  refine Wk.rPure 0 (some 8) (.int .i64 1) rfl rfl (by kernel_rfl) (by kernel_rfl) ?_
                  refine Wk.rEnd 1 rfl ?_
                  refine Wk.nxt ?_
                  refine wp_seq ?_
                  refine Wk.reg ?_
                  refine Wk.rPure 0 (some 87) (.int .i64 x) rfl rfl (by kernel_rfl) (by kernel_rfl) ?_
                  refine Wk.rPure 1 (some 10) (.int .i64 x) rfl rfl (by kernel_rfl) (by kernel_rfl) ?_
                  refine Wk.rEnd 2 rfl ?_
                  refine Wk.nxt ?_
                  refine Wk.reg ?_
                  refine Wk.rPure 0 (some 88) (.slice A3 k c3) rfl rfl (by kernel_rfl) (by kernel_rfl) ?_
                  refine Wk.rEx 1 (some 89) _ rfl rfl (by kernel_rfl) (Wk.new_ex (.slice (some ⟨W4.heap.size, 0, none⟩) 1 1) #[.int .u8 2] 35 (by kernel_rfl)) ?_
                  rintro _ W55 ⟨rfl, hb28, ch54, sz28⟩
                  have zz54 := ch54.size
                  refine Wk.rEx 2 (some 90) _ rfl rfl (by kernel_rfl) (Wk.append_run (.tmp 88) (.tmp 89) 33 35 rfl Try.underlying33 (.int .u8 0) 1 1 (by kernel_rfl) rfl (by omega) w.heap.size (.slice A3 k c3) k (wants (outsTo most budget l k)) (some ⟨W4.heap.size, 0, none⟩) 1 1 ([.int .u8 2]) (by kernel_rfl) (by kernel_rfl) (Wk.own_chg (Wk.own_chg (Wk.own_chg (Wk.own_chg HO ch1 (fun g e _ _ => trivial)) ch2 (fun g e _ _ => trivial)) ch3 (fun g e _ _ => ⟨by have := LT g e; omega, trivial⟩)) ch54 (fun g e _ _ => trivial)) (Wk.sl_blk 1 1 hb28 rfl) (fun h => by cases h) (by intro v hv; simp at hv; subst hv; rfl) (by omega) (by unfold maxLen; omega) (by omega)) ?_
                  rintro vv26 W56 ⟨HO26, ch55, ha26⟩
                  obtain ⟨AA26, nn26, rfl, hcc26, hmm27, hN26, HS26, hl26⟩ := Wk.own_sl HO26
                  have lt26 := World.ownsRow.lt HO26
                  have zz55 := ch55.size
                  refine Wk.rPure 3 (some 7) (.slice AA26 (k + 1) nn26) rfl rfl (by kernel_rfl) (by kernel_rfl) ?_
                  refine Wk.rEnd 4 rfl ?_
                  refine Wk.inN ?_
                  refine Wk.inN ?_
                  refine Wk.nxt ?_
                  refine Wk.reg ?_
                  refine Wk.rPure 0 (some 18) (.int .i64 ((k : Nat) : Int)) rfl rfl (by kernel_rfl) (by kernel_rfl) ?_
                  refine Wk.rPure 1 (some 19) (.int .i64 ((k + 1 : Nat) : Int)) rfl rfl (by kernel_rfl) (Wk.int64 (n := ((k : Nat) : Int) + 1) (z := ((k + 1 : Nat) : Int)) (by omega) (by omega) (by omega) (by kernel_rfl)) ?_
                  refine Wk.rPure 2 (some 11) (.int .i64 ((k + 1 : Nat) : Int)) rfl rfl (by kernel_rfl) (by kernel_rfl) ?_
                  refine Wk.rEnd 3 rfl ?_
                  refine Wk.nxt ?_
                  have kk82 := Wk.Chg.step kk1 ch2 trivial
                  have kk83 := Wk.Chg.step kk82 ch3 ⟨.inr (by omega), trivial⟩
                  have kk84 := Wk.Chg.step kk83 ch54 trivial
                  have kk85 := Wk.Chg.step kk84 ch55 (Wk.newOr_blk (fun g hg => by have := LT g hg; omega))
                  have hR2 : refTo most budget l (k + 1) = ⟨1, false, x, 2⟩ := by rw [refTo_succ HX.out HRR.out HX0.out]; simp [Ref.next, Ref.look, *]
                  refine ⟨_, ?_, k + 1, AA26, nn26, 1, false, x, 2, rfl, by kernel_rfl, ⟨by omega, by omega⟩, hR2, own_next HO26 hR2, kk85⟩
                  · omega
                · refine wp_cond_false (by kernel_rfl) ?_
                  refine wp_seq ?_
                  refine Wk.reg ?_
                  refine Wk.rPure 0 (some 92) (.pointer (some ⟨W2.heap.size, 3, none⟩)) rfl rfl (by kernel_rfl) (by kernel_rfl) ?_
                  refine Wk.rPure 1 (some 93) (.bool b3) rfl rfl (by kernel_rfl) (Wk.load1 4 (.tmp 92) rfl (by kernel_rfl) ⟨W2.heap.size, 3, none⟩ (by kernel_rfl) (.bool b3) ((cell_of_row _ _ 3 _ _ _ hb2).trans rfl)) ?_
                  refine Wk.rPure 2 (some 94) (.bool b3) rfl rfl (by kernel_rfl) (by kernel_rfl) ?_
                  cases b3
                  · refine Wk.rPure 3 (some 95) (.int .i64 x) rfl rfl (by kernel_rfl) (by kernel_rfl) ?_
                    refine Wk.rPure 4 (some 96) (.slice (some ⟨g, off, none⟩) n c) rfl rfl (by kernel_rfl) (by kernel_rfl) ?_
                    refine Wk.rPure 5 (some 97) (.pointer (some ⟨g, off + 0 * 9, none⟩)) rfl rfl (by kernel_rfl) (Wk.index_sl 26 32 (.tmp 96) (.const (.int .i64 0)) rfl Try.underlying26 9 (by kernel_rfl) g off n c 0 .i64 (by kernel_rfl) (by kernel_rfl) (by omega)) ?_
                    refine Wk.rPure 6 (some 98) (.pointer (some ⟨g, off + 0 * 9, none⟩)) rfl rfl (by kernel_rfl) (by kernel_rfl) ?_
                    have kk86 := Wk.Chg.step kk1 ch2 trivial
                    have kk87 := Wk.Chg.step kk86 ch3 ⟨.inr (by omega), trivial⟩
                    refine Wk.rPure 7 (some 99) (.int .i64 x0) rfl rfl (by kernel_rfl) (Wk.load1 3 (.tmp 98) rfl (by kernel_rfl) ⟨g, off + 0 * 9, none⟩ (by kernel_rfl) (.int .i64 x0) (Wk.Chg.cell kk87 qz trivial)) ?_
                    refine Wk.rPure 8 (some 100) (.int .i64 most) rfl rfl (by kernel_rfl) (by kernel_rfl) ?_
                    refine Wk.rPure 9 (some 101) (.int .i64 (x0 + most)) rfl rfl (by kernel_rfl) (Wk.int64 (n := x0 + most) (z := x0 + most) (by omega) (by omega) (by omega) (by kernel_rfl)) ?_
                    by_cases hx10 : x ≥ (x0 + most)
                    · refine Wk.rPure 10 (some 102) (.bool true) rfl rfl (by kernel_rfl) (Wk.boolT (b := decide (x ≥ (x0 + most))) (decide_eq_true (by first | exact hx10 | omega)) (by kernel_rfl)) ?_
                      refine Wk.rPure 11 (some 103) (.bool true) rfl rfl (by kernel_rfl) (by kernel_rfl) ?_
                      refine Wk.rPure 12 (some 91) (.bool true) rfl rfl (by kernel_rfl) (by kernel_rfl) ?_
                      refine Wk.rEnd 13 rfl ?_
                      refine Wk.nxt ?_
                      refine wp_cond_true (by kernel_rfl) ?_
                      refine wp_seq ?_
                      refine Wk.reg ?_
                      refine Wk.rPure 0 (some 8) (.int .i64 2) rfl rfl (by kernel_rfl) (by kernel_rfl) ?_
                      refine Wk.rEnd 1 rfl ?_
                      refine Wk.nxt ?_
                      refine Wk.reg ?_
                      refine Wk.rPure 0 (some 104) (.slice A3 k c3) rfl rfl (by kernel_rfl) (by kernel_rfl) ?_
                      refine Wk.rEx 1 (some 105) _ rfl rfl (by kernel_rfl) (Wk.new_ex (.slice (some ⟨W4.heap.size, 0, none⟩) 1 1) #[.int .u8 3] 35 (by kernel_rfl)) ?_
                      rintro _ W57 ⟨rfl, hb29, ch56, sz29⟩
                      have zz56 := ch56.size
                      refine Wk.rEx 2 (some 106) _ rfl rfl (by kernel_rfl) (Wk.append_run (.tmp 104) (.tmp 105) 33 35 rfl Try.underlying33 (.int .u8 0) 1 1 (by kernel_rfl) rfl (by omega) w.heap.size (.slice A3 k c3) k (wants (outsTo most budget l k)) (some ⟨W4.heap.size, 0, none⟩) 1 1 ([.int .u8 3]) (by kernel_rfl) (by kernel_rfl) (Wk.own_chg (Wk.own_chg (Wk.own_chg (Wk.own_chg HO ch1 (fun g e _ _ => trivial)) ch2 (fun g e _ _ => trivial)) ch3 (fun g e _ _ => ⟨by have := LT g e; omega, trivial⟩)) ch56 (fun g e _ _ => trivial)) (Wk.sl_blk 1 1 hb29 rfl) (fun h => by cases h) (by intro v hv; simp at hv; subst hv; rfl) (by omega) (by unfold maxLen; omega) (by omega)) ?_
                      rintro vv27 W58 ⟨HO27, ch57, ha27⟩
                      obtain ⟨AA27, nn27, rfl, hcc27, hmm28, hN27, HS27, hl27⟩ := Wk.own_sl HO27
                      have lt27 := World.ownsRow.lt HO27
                      have zz57 := ch57.size
                      refine Wk.rPure 3 (some 7) (.slice AA27 (k + 1) nn27) rfl rfl (by kernel_rfl) (by kernel_rfl) ?_
                      refine Wk.rEnd 4 rfl ?_
                      refine Wk.inN ?_
                      refine Wk.inN ?_
                      refine Wk.nxt ?_
                      refine Wk.reg ?_
                      refine Wk.rPure 0 (some 18) (.int .i64 ((k : Nat) : Int)) rfl rfl (by kernel_rfl) (by kernel_rfl) ?_
                      refine Wk.rPure 1 (some 19) (.int .i64 ((k + 1 : Nat) : Int)) rfl rfl (by kernel_rfl) (Wk.int64 (n := ((k : Nat) : Int) + 1) (z := ((k + 1 : Nat) : Int)) (by omega) (by omega) (by omega) (by kernel_rfl)) ?_
                      refine Wk.rPure 2 (some 11) (.int .i64 ((k + 1 : Nat) : Int)) rfl rfl (by kernel_rfl) (by kernel_rfl) ?_
                      refine Wk.rEnd 3 rfl ?_
                      refine Wk.nxt ?_
                      have kk88 := Wk.Chg.step kk87 ch56 trivial
                      have kk89 := Wk.Chg.step kk88 ch57 (Wk.newOr_blk (fun g hg => by have := LT g hg; omega))
                      have hR2 : refTo most budget l (k + 1) = ⟨2, true, bg, 3⟩ := by rw [refTo_succ HX.out HRR.out HX0.out]; simp [Ref.next, Ref.look, *]
                      refine ⟨_, ?_, k + 1, AA27, nn27, 2, true, bg, 3, rfl, by kernel_rfl, ⟨by omega, by omega⟩, hR2, own_next HO27 hR2, kk89⟩
                      · omega
                    · refine Wk.rPure 10 (some 102) (.bool false) rfl rfl (by kernel_rfl) (Wk.boolF (b := decide (x ≥ (x0 + most))) (decide_eq_false (by first | exact hx10 | omega)) (by kernel_rfl)) ?_
                      refine Wk.rPure 11 (some 103) (.bool false) rfl rfl (by kernel_rfl) (by kernel_rfl) ?_
                      refine Wk.rPure 12 (some 91) (.bool false) rfl rfl (by kernel_rfl) (by kernel_rfl) ?_
                      refine Wk.rEnd 13 rfl ?_
                      refine Wk.nxt ?_
                      refine wp_cond_false (by kernel_rfl) ?_
                      refine wp_seq ?_
                      refine Wk.reg ?_
                      refine Wk.rPure 0 (some 108) (.pointer (some ⟨W2.heap.size, 2, none⟩)) rfl rfl (by kernel_rfl) (by kernel_rfl) ?_
                      refine Wk.rPure 1 (some 109) (.bool b2) rfl rfl (by kernel_rfl) (Wk.load1 4 (.tmp 108) rfl (by kernel_rfl) ⟨W2.heap.size, 2, none⟩ (by kernel_rfl) (.bool b2) ((cell_of_row _ _ 2 _ _ _ hb2).trans rfl)) ?_
                      refine Wk.rPure 2 (some 107) (.bool b2) rfl rfl (by kernel_rfl) (by kernel_rfl) ?_
                      refine Wk.rEnd 3 rfl ?_
                      refine Wk.nxt ?_
                      cases b2
                      · refine wp_cond_false (by kernel_rfl) ?_
                        refine Wk.reg ?_
                        refine Wk.rPure 0 (some 77) (.slice A3 k c3) rfl rfl (by kernel_rfl) (by kernel_rfl) ?_
                        refine Wk.rEx 1 (some 78) _ rfl rfl (by kernel_rfl) (Wk.new_ex (.slice (some ⟨W4.heap.size, 0, none⟩) 1 1) #[.int .u8 1] 35 (by kernel_rfl)) ?_
                        rintro _ W59 ⟨rfl, hb30, ch58, sz30⟩
                        have zz58 := ch58.size
                        refine Wk.rEx 2 (some 79) _ rfl rfl (by kernel_rfl) (Wk.append_run (.tmp 77) (.tmp 78) 33 35 rfl Try.underlying33 (.int .u8 0) 1 1 (by kernel_rfl) rfl (by omega) w.heap.size (.slice A3 k c3) k (wants (outsTo most budget l k)) (some ⟨W4.heap.size, 0, none⟩) 1 1 ([.int .u8 1]) (by kernel_rfl) (by kernel_rfl) (Wk.own_chg (Wk.own_chg (Wk.own_chg (Wk.own_chg HO ch1 (fun g e _ _ => trivial)) ch2 (fun g e _ _ => trivial)) ch3 (fun g e _ _ => ⟨by have := LT g e; omega, trivial⟩)) ch58 (fun g e _ _ => trivial)) (Wk.sl_blk 1 1 hb30 rfl) (fun h => by cases h) (by intro v hv; simp at hv; subst hv; rfl) (by omega) (by unfold maxLen; omega) (by omega)) ?_
                        rintro vv28 W60 ⟨HO28, ch59, ha28⟩
                        obtain ⟨AA28, nn28, rfl, hcc28, hmm29, hN28, HS28, hl28⟩ := Wk.own_sl HO28
                        have lt28 := World.ownsRow.lt HO28
                        have zz59 := ch59.size
                        refine Wk.rPure 3 (some 7) (.slice AA28 (k + 1) nn28) rfl rfl (by kernel_rfl) (by kernel_rfl) ?_
                        refine Wk.rEnd 4 rfl ?_
                        refine Wk.inN ?_
                        refine Wk.inN ?_
                        refine Wk.nxt ?_
                        refine Wk.reg ?_
                        refine Wk.rPure 0 (some 18) (.int .i64 ((k : Nat) : Int)) rfl rfl (by kernel_rfl) (by kernel_rfl) ?_
                        refine Wk.rPure 1 (some 19) (.int .i64 ((k + 1 : Nat) : Int)) rfl rfl (by kernel_rfl) (Wk.int64 (n := ((k : Nat) : Int) + 1) (z := ((k + 1 : Nat) : Int)) (by omega) (by omega) (by omega) (by kernel_rfl)) ?_
                        refine Wk.rPure 2 (some 11) (.int .i64 ((k + 1 : Nat) : Int)) rfl rfl (by kernel_rfl) (by kernel_rfl) ?_
                        refine Wk.rEnd 3 rfl ?_
                        refine Wk.nxt ?_
                        have kk90 := Wk.Chg.step kk87 ch58 trivial
                        have kk91 := Wk.Chg.step kk90 ch59 (Wk.newOr_blk (fun g hg => by have := LT g hg; omega))
                        have hR2 : refTo most budget l (k + 1) = ⟨st, true, bg, 1⟩ := by rw [refTo_succ HX.out HRR.out HX0.out]; simp [Ref.next, Ref.look, *]
                        refine ⟨_, ?_, k + 1, AA28, nn28, st, true, bg, 1, rfl, by kernel_rfl, ⟨by omega, by omega⟩, hR2, own_next HO28 hR2, kk91⟩
                        · omega
                      · refine wp_cond_true (by kernel_rfl) ?_
                        refine Wk.reg ?_
                        refine Wk.rPure 0 (some 110) (.slice A3 k c3) rfl rfl (by kernel_rfl) (by kernel_rfl) ?_
                        refine Wk.rEx 1 (some 111) _ rfl rfl (by kernel_rfl) (Wk.new_ex (.slice (some ⟨W4.heap.size, 0, none⟩) 1 1) #[.int .u8 0] 35 (by kernel_rfl)) ?_
                        rintro _ W61 ⟨rfl, hb31, ch60, sz31⟩
                        have zz60 := ch60.size
                        refine Wk.rEx 2 (some 112) _ rfl rfl (by kernel_rfl) (Wk.append_run (.tmp 110) (.tmp 111) 33 35 rfl Try.underlying33 (.int .u8 0) 1 1 (by kernel_rfl) rfl (by omega) w.heap.size (.slice A3 k c3) k (wants (outsTo most budget l k)) (some ⟨W4.heap.size, 0, none⟩) 1 1 ([.int .u8 0]) (by kernel_rfl) (by kernel_rfl) (Wk.own_chg (Wk.own_chg (Wk.own_chg (Wk.own_chg HO ch1 (fun g e _ _ => trivial)) ch2 (fun g e _ _ => trivial)) ch3 (fun g e _ _ => ⟨by have := LT g e; omega, trivial⟩)) ch60 (fun g e _ _ => trivial)) (Wk.sl_blk 1 1 hb31 rfl) (fun h => by cases h) (by intro v hv; simp at hv; subst hv; rfl) (by omega) (by unfold maxLen; omega) (by omega)) ?_
                        rintro vv29 W62 ⟨HO29, ch61, ha29⟩
                        obtain ⟨AA29, nn29, rfl, hcc29, hmm30, hN29, HS29, hl29⟩ := Wk.own_sl HO29
                        have lt29 := World.ownsRow.lt HO29
                        have zz61 := ch61.size
                        refine Wk.rPure 3 (some 7) (.slice AA29 (k + 1) nn29) rfl rfl (by kernel_rfl) (by kernel_rfl) ?_
                        refine Wk.rEnd 4 rfl ?_
                        refine Wk.inN ?_
                        refine Wk.inN ?_
                        refine Wk.nxt ?_
                        refine Wk.reg ?_
                        refine Wk.rPure 0 (some 18) (.int .i64 ((k : Nat) : Int)) rfl rfl (by kernel_rfl) (by kernel_rfl) ?_
                        refine Wk.rPure 1 (some 19) (.int .i64 ((k + 1 : Nat) : Int)) rfl rfl (by kernel_rfl) (Wk.int64 (n := ((k : Nat) : Int) + 1) (z := ((k + 1 : Nat) : Int)) (by omega) (by omega) (by omega) (by kernel_rfl)) ?_
                        refine Wk.rPure 2 (some 11) (.int .i64 ((k + 1 : Nat) : Int)) rfl rfl (by kernel_rfl) (by kernel_rfl) ?_
                        refine Wk.rEnd 3 rfl ?_
                        refine Wk.nxt ?_
                        have kk92 := Wk.Chg.step kk87 ch60 trivial
                        have kk93 := Wk.Chg.step kk92 ch61 (Wk.newOr_blk (fun g hg => by have := LT g hg; omega))
                        have hR2 : refTo most budget l (k + 1) = ⟨st, true, bg, 0⟩ := by rw [refTo_succ HX.out HRR.out HX0.out]; simp [Ref.next, Ref.look, *]
                        refine ⟨_, ?_, k + 1, AA29, nn29, st, true, bg, 0, rfl, by kernel_rfl, ⟨by omega, by omega⟩, hR2, own_next HO29 hR2, kk93⟩
                        · omega
                  · refine Wk.rPass 3 (some 95) rfl rfl (by kernel_rfl) ?_
                    refine Wk.rPass 4 (some 96) rfl rfl (by kernel_rfl) ?_
                    refine Wk.rPass 5 (some 97) rfl rfl (by kernel_rfl) ?_
                    refine Wk.rPass 6 (some 98) rfl rfl (by kernel_rfl) ?_
                    refine Wk.rPass 7 (some 99) rfl rfl (by kernel_rfl) ?_
                    refine Wk.rPass 8 (some 100) rfl rfl (by kernel_rfl) ?_
                    refine Wk.rPass 9 (some 101) rfl rfl (by kernel_rfl) ?_
                    refine Wk.rPass 10 (some 102) rfl rfl (by kernel_rfl) ?_
                    refine Wk.rPure 11 (some 103) (.bool true) rfl rfl (by kernel_rfl) (by kernel_rfl) ?_
                    refine Wk.rPure 12 (some 91) (.bool true) rfl rfl (by kernel_rfl) (by kernel_rfl) ?_
                    refine Wk.rEnd 13 rfl ?_
                    refine Wk.nxt ?_
                    refine wp_cond_true (by kernel_rfl) ?_
                    refine wp_seq ?_
                    refine Wk.reg ?_
                    refine Wk.rPure 0 (some 8) (.int .i64 2) rfl rfl (by kernel_rfl) (by kernel_rfl) ?_
                    refine Wk.rEnd 1 rfl ?_
                    refine Wk.nxt ?_
                    refine Wk.reg ?_
                    refine Wk.rPure 0 (some 104) (.slice A3 k c3) rfl rfl (by kernel_rfl) (by kernel_rfl) ?_
                    refine Wk.rEx 1 (some 105) _ rfl rfl (by kernel_rfl) (Wk.new_ex (.slice (some ⟨W4.heap.size, 0, none⟩) 1 1) #[.int .u8 3] 35 (by kernel_rfl)) ?_
                    rintro _ W63 ⟨rfl, hb32, ch62, sz32⟩
                    have zz62 := ch62.size
                    refine Wk.rEx 2 (some 106) _ rfl rfl (by kernel_rfl) (Wk.append_run (.tmp 104) (.tmp 105) 33 35 rfl Try.underlying33 (.int .u8 0) 1 1 (by kernel_rfl) rfl (by omega) w.heap.size (.slice A3 k c3) k (wants (outsTo most budget l k)) (some ⟨W4.heap.size, 0, none⟩) 1 1 ([.int .u8 3]) (by kernel_rfl) (by kernel_rfl) (Wk.own_chg (Wk.own_chg (Wk.own_chg (Wk.own_chg HO ch1 (fun g e _ _ => trivial)) ch2 (fun g e _ _ => trivial)) ch3 (fun g e _ _ => ⟨by have := LT g e; omega, trivial⟩)) ch62 (fun g e _ _ => trivial)) (Wk.sl_blk 1 1 hb32 rfl) (fun h => by cases h) (by intro v hv; simp at hv; subst hv; rfl) (by omega) (by unfold maxLen; omega) (by omega)) ?_
                    rintro vv30 W64 ⟨HO30, ch63, ha30⟩
                    obtain ⟨AA30, nn30, rfl, hcc30, hmm31, hN30, HS30, hl30⟩ := Wk.own_sl HO30
                    have lt30 := World.ownsRow.lt HO30
                    have zz63 := ch63.size
                    refine Wk.rPure 3 (some 7) (.slice AA30 (k + 1) nn30) rfl rfl (by kernel_rfl) (by kernel_rfl) ?_
                    refine Wk.rEnd 4 rfl ?_
                    refine Wk.inN ?_
                    refine Wk.inN ?_
                    refine Wk.nxt ?_
                    refine Wk.reg ?_
                    refine Wk.rPure 0 (some 18) (.int .i64 ((k : Nat) : Int)) rfl rfl (by kernel_rfl) (by kernel_rfl) ?_
                    refine Wk.rPure 1 (some 19) (.int .i64 ((k + 1 : Nat) : Int)) rfl rfl (by kernel_rfl) (Wk.int64 (n := ((k : Nat) : Int) + 1) (z := ((k + 1 : Nat) : Int)) (by omega) (by omega) (by omega) (by kernel_rfl)) ?_
                    refine Wk.rPure 2 (some 11) (.int .i64 ((k + 1 : Nat) : Int)) rfl rfl (by kernel_rfl) (by kernel_rfl) ?_
                    refine Wk.rEnd 3 rfl ?_
                    refine Wk.nxt ?_
                    have kk94 := Wk.Chg.step kk1 ch2 trivial
                    have kk95 := Wk.Chg.step kk94 ch3 ⟨.inr (by omega), trivial⟩
                    have kk96 := Wk.Chg.step kk95 ch62 trivial
                    have kk97 := Wk.Chg.step kk96 ch63 (Wk.newOr_blk (fun g hg => by have := LT g hg; omega))
                    have hR2 : refTo most budget l (k + 1) = ⟨2, true, bg, 3⟩ := by rw [refTo_succ HX.out HRR.out HX0.out]; simp [Ref.next, Ref.look, *]
                    refine ⟨_, ?_, k + 1, AA30, nn30, 2, true, bg, 3, rfl, by kernel_rfl, ⟨by omega, by omega⟩, hR2, own_next HO30 hR2, kk97⟩
                    · omega
        · refine wp_cond_true (by kernel_rfl) ?_
          refine wp_seq ?_
          refine Wk.reg ?_
          refine Wk.rPure 0 (some 8) (.int .i64 3) rfl rfl (by kernel_rfl) (by kernel_rfl) ?_
          refine Wk.rEnd 1 rfl ?_
          refine Wk.nxt ?_
          refine wp_seq ?_
          refine Wk.reg ?_
          refine Wk.rPure 0 (some 42) (.slice A3 k c3) rfl rfl (by kernel_rfl) (by kernel_rfl) ?_
          refine Wk.rEx 1 (some 43) _ rfl rfl (by kernel_rfl) (Wk.new_ex (.slice (some ⟨W4.heap.size, 0, none⟩) 1 1) #[.int .u8 4] 35 (by kernel_rfl)) ?_
          rintro _ W65 ⟨rfl, hb33, ch64, sz33⟩
          have zz64 := ch64.size
          refine Wk.rEx 2 (some 44) _ rfl rfl (by kernel_rfl) (Wk.append_run (.tmp 42) (.tmp 43) 33 35 rfl Try.underlying33 (.int .u8 0) 1 1 (by kernel_rfl) rfl (by omega) w.heap.size (.slice A3 k c3) k (wants (outsTo most budget l k)) (some ⟨W4.heap.size, 0, none⟩) 1 1 ([.int .u8 4]) (by kernel_rfl) (by kernel_rfl) (Wk.own_chg (Wk.own_chg (Wk.own_chg (Wk.own_chg HO ch1 (fun g e _ _ => trivial)) ch2 (fun g e _ _ => trivial)) ch3 (fun g e _ _ => ⟨by have := LT g e; omega, trivial⟩)) ch64 (fun g e _ _ => trivial)) (Wk.sl_blk 1 1 hb33 rfl) (fun h => by cases h) (by intro v hv; simp at hv; subst hv; rfl) (by omega) (by unfold maxLen; omega) (by omega)) ?_
          rintro vv31 W66 ⟨HO31, ch65, ha31⟩
          obtain ⟨AA31, nn31, rfl, hcc31, hmm32, hN31, HS31, hl31⟩ := Wk.own_sl HO31
          have lt31 := World.ownsRow.lt HO31
          have zz65 := ch65.size
          refine Wk.rPure 3 (some 7) (.slice AA31 (k + 1) nn31) rfl rfl (by kernel_rfl) (by kernel_rfl) ?_
          refine Wk.rEnd 4 rfl ?_
          refine Wk.nxt ?_
          refine wp_exit ?_
          refine Wk.thX ?_
          refine Wk.inX ?_
          refine Wk.nxt ?_
          refine Wk.reg ?_
          refine Wk.rPure 0 (some 18) (.int .i64 ((k : Nat) : Int)) rfl rfl (by kernel_rfl) (by kernel_rfl) ?_
          refine Wk.rPure 1 (some 19) (.int .i64 ((k + 1 : Nat) : Int)) rfl rfl (by kernel_rfl) (Wk.int64 (n := ((k : Nat) : Int) + 1) (z := ((k + 1 : Nat) : Int)) (by omega) (by omega) (by omega) (by kernel_rfl)) ?_
          refine Wk.rPure 2 (some 11) (.int .i64 ((k + 1 : Nat) : Int)) rfl rfl (by kernel_rfl) (by kernel_rfl) ?_
          refine Wk.rEnd 3 rfl ?_
          refine Wk.nxt ?_
          have kk98 := Wk.Chg.step kk1 ch2 trivial
          have kk99 := Wk.Chg.step kk98 ch3 ⟨.inr (by omega), trivial⟩
          have kk100 := Wk.Chg.step kk99 ch64 trivial
          have kk101 := Wk.Chg.step kk100 ch65 (Wk.newOr_blk (fun g hg => by have := LT g hg; omega))
          have hR2 : refTo most budget l (k + 1) = ⟨3, fd, bg, 4⟩ := by rw [refTo_succ HX.out HRR.out HX0.out]; simp [Ref.next, *]
          refine ⟨_, ?_, k + 1, AA31, nn31, 3, fd, bg, 4, rfl, by kernel_rfl, ⟨by omega, by omega⟩, hR2, own_next HO31 hR2, kk101⟩
          · omega
    · obtain rfl : k = n := by omega
      refine wp_seq ?_
      refine wp_seq ?_
      refine Wk.reg ?_
      refine Wk.rPure 0 (some 14) (.int .i64 ((k : Nat) : Int)) rfl rfl (by kernel_rfl) (by kernel_rfl) ?_
      refine Wk.rPure 1 (some 15) (.slice A k c) rfl rfl (by kernel_rfl) (by kernel_rfl) ?_
      refine Wk.rPure 2 (some 16) (.int .i64 ((k : Nat) : Int)) rfl rfl (by kernel_rfl) (by kernel_rfl) ?_
      refine Wk.rPure 3 (some 17) (.bool false) rfl rfl (by kernel_rfl) (Wk.boolF (b := decide (((k : Nat) : Int) < ((k : Nat) : Int))) (decide_eq_false (by omega)) (by kernel_rfl)) ?_
      refine Wk.rEnd 4 rfl ?_
      refine Wk.nxt ?_
      refine wp_cond_false (by kernel_rfl) ?_
      refine wp_exit ?_
      refine Wk.thX ?_
      refine Wk.thX ?_
      refine Wk.inX ?_
      refine Wk.nxt ?_
      refine wp_seq ?_
      refine Wk.reg ?_
      refine Wk.rPure 0 (some 113) (.slice A3 k c3) rfl rfl (by kernel_rfl) (by kernel_rfl) ?_
      refine Wk.rPure 1 (some 6) (.slice A3 k c3) rfl rfl (by kernel_rfl) (by kernel_rfl) ?_
      refine Wk.rEnd 2 rfl ?_
      refine Wk.nxt ?_
      refine wp_ret ?_
      refine Wk.ret (.slice A3 k c3) rfl (by kernel_rfl) ?_
      exact ⟨_, rfl, HO, Wk.Chg.below0 HB⟩
end Go.Proofs.Ytidhohnhhhooaaa
