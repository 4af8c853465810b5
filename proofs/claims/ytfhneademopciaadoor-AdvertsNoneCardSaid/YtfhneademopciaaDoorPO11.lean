/- adverts' document: Same, Less; what is known. Laws of adverts: what was met. No program in sight. AdvertsOrder, walked. -/
import Derived.Test.YtfhneademopciaaDoorPO10
namespace Go.Proofs.YtfhneademopciaaDoor
open Go.RowKit
open Mur (b8s Byt Own8 Seg Segs flat cutA attC Att SlA OwnA rowA)
set_option maxRecDepth 100000
set_option maxHeartbeats 4000000
def Sam20_F1 (b : Array Value) (u0 : Value) (u1 : Value) (u5 : Value) : Act := ⟨#[u0, u1, b.getD 2 undef, b.getD 3 undef, b.getD 4 undef, u5, b.getD 6 undef, b.getD 7 undef, b.getD 8 undef, b.getD 9 undef, b.getD 10 undef, b.getD 11 undef, b.getD 12 undef, b.getD 13 undef, b.getD 14 undef, b.getD 15 undef, b.getD 16 undef, b.getD 17 undef, b.getD 18 undef, b.getD 19 undef, b.getD 20 undef, b.getD 21 undef, b.getD 22 undef, b.getD 23 undef, b.getD 24 undef, b.getD 25 undef], []⟩
theorem Same20_any (A : Option Addr) (n c : Nat) (L : List Att) (B : Option Addr) (m d : Nat) (M : List Att) (w : World) (hA_ : SlA w A n L) (hB_ : SlA w B m M) (hn : n ≤ 9223372036854775807) : Calls Tryd.prog 17 #[.slice A n c, .slice B m d] w fun e w' => e = .returned (.bool (decide (L = M))) ∧ Wk.Chg [] w w' := by
  have hLl0 := hA_.len
  have hMl0 := hB_.len
  refine calls_of_wp Tryd.func17 rfl ?_
  refine wp_seq ?_
  refine Wk.reg ?_
  refine Wk.rPure 0 (some 4) (.bool false) rfl rfl (by kernel_rfl) (by kernel_rfl) ?_
  refine Wk.rEnd 1 rfl ?_
  refine Wk.nxt ?_
  refine wp_seq ?_
  refine wp_seq ?_
  refine Wk.reg ?_
  refine Wk.rPure 0 (some 6) (.slice A n c) rfl rfl (by kernel_rfl) (by kernel_rfl) ?_
  refine Wk.rPure 1 (some 7) (.int .i64 ((n : Nat) : Int)) rfl rfl (by kernel_rfl) (by kernel_rfl) ?_
  refine Wk.rPure 2 (some 8) (.slice B m d) rfl rfl (by kernel_rfl) (by kernel_rfl) ?_
  refine Wk.rPure 3 (some 9) (.int .i64 ((m : Nat) : Int)) rfl rfl (by kernel_rfl) (by kernel_rfl) ?_
  by_cases hx1 : ((n : Nat) : Int) ≠ ((m : Nat) : Int)
  · refine Wk.rPure 4 (some 10) (.bool true) rfl rfl (by kernel_rfl) (Wk.boolT (b := (((n : Nat) : Int) != ((m : Nat) : Int))) (bne_iff_ne.2 (by first | exact hx1 | omega)) (by kernel_rfl)) ?_
    refine Wk.rEnd 5 rfl ?_
    refine Wk.nxt ?_
    refine wp_cond_true (by kernel_rfl) ?_
    refine wp_seq ?_
    refine Wk.reg ?_
    refine Wk.rPure 0 (some 4) (.bool false) rfl rfl (by kernel_rfl) (by kernel_rfl) ?_
    refine Wk.rEnd 1 rfl ?_
    refine Wk.nxt ?_
    refine wp_ret ?_
    refine Wk.thR ?_
    refine Wk.ret (.bool false) rfl (by kernel_rfl) ?_
    exact ⟨by rw [decide_eq_false (fun q => by have h1 := hA_.len; have h2 := hB_.len; subst q; omega)], (Wk.Chg.refl _)⟩
  · refine Wk.rPure 4 (some 10) (.bool false) rfl rfl (by kernel_rfl) (Wk.boolF (b := (((n : Nat) : Int) != ((m : Nat) : Int))) (bne_eq_false_iff_eq.2 (by first | exact hx1 | omega)) (by kernel_rfl)) ?_
    refine Wk.rEnd 5 rfl ?_
    refine Wk.nxt ?_
    refine wp_cond_false (by kernel_rfl) ?_
    refine wp_skip ?_
    refine Wk.nxt ?_
    refine wp_seq ?_
    refine wp_seq ?_
    refine Wk.reg ?_
    refine Wk.rPure 0 (some 5) (.int .i64 0) rfl rfl (by kernel_rfl) (by kernel_rfl) ?_
    refine Wk.rEnd 1 rfl ?_
    refine Wk.nxt ?_
    refine wp_block ?_
    refine Wk.loop (fun m_ a wr => ∃ (i : Nat), m_ = n - i ∧ a = Sam20_F1 a.tmps (.slice A n c) (.slice B m d) (.int .i64 ((i : Nat) : Int)) ∧ i ≤ n ∧ L.take i = M.take i ∧ Wk.Chg [] w wr) (n - 0) ?_ ?_
    · refine ⟨0, rfl, by kernel_rfl, Nat.zero_le _, by simp, (Wk.Chg.refl _)⟩
    · rintro mm1 aa1 W1 ⟨i, hmm1, hF1, hi, htk, HB⟩
      generalize aa1.tmps = bb1 at hF1
      subst hF1
      have hzB := HB.size
      have hLl := hA_.len
      have hMl := hB_.len
      by_cases hlt : i < n
      · obtain ⟨g1, o1, rfl, _⟩ := hA_.ex (by omega)
        obtain ⟨g2, o2, rfl, _⟩ := hB_.ex (by omega)
        obtain ⟨x, hx⟩ : ∃ x, L[i]? = some x := ⟨_, List.getElem?_eq_getElem (by omega)⟩
        obtain ⟨y, hy⟩ : ∃ y, M[i]? = some y := ⟨_, List.getElem?_eq_getElem (by omega)⟩
        refine wp_seq ?_
        refine wp_seq ?_
        refine Wk.reg ?_
        refine Wk.rPure 0 (some 11) (.int .i64 ((i : Nat) : Int)) rfl rfl (by kernel_rfl) (by kernel_rfl) ?_
        refine Wk.rPure 1 (some 12) (.slice (some ⟨g1, o1, none⟩) n c) rfl rfl (by kernel_rfl) (by kernel_rfl) ?_
        refine Wk.rPure 2 (some 13) (.int .i64 ((n : Nat) : Int)) rfl rfl (by kernel_rfl) (by kernel_rfl) ?_
        refine Wk.rPure 3 (some 14) (.bool true) rfl rfl (by kernel_rfl) (Wk.boolT (b := decide (((i : Nat) : Int) < ((n : Nat) : Int))) (decide_eq_true (by omega)) (by kernel_rfl)) ?_
        refine Wk.rEnd 4 rfl ?_
        refine Wk.nxt ?_
        refine wp_cond_true (by kernel_rfl) ?_
        refine wp_skip ?_
        refine Wk.nxt ?_
        refine wp_seq ?_
        refine wp_block ?_
        refine wp_seq ?_
        refine Wk.dReg ([]) (by kernel_rfl) ?_
        intro W2 ch1 sz1
        have zz1 := ch1.size
        have sS1 : Wk.Chg ([]) W2 W2 := (Wk.Chg.refl _).more (by simp)
        refine Wk.dVal 0 (some 17) (.slice (some ⟨g1, o1, none⟩) n c) rfl rfl (by kernel_rfl) (by kernel_rfl) (by kernel_rfl) (fun _ _ _ h => h) (by kernel_rfl) (fun w' hw' => by kernel_rfl) sS1 ?_
        refine Wk.dVal 1 (some 18) (.int .i64 ((i : Nat) : Int)) rfl rfl (by kernel_rfl) (by kernel_rfl) (by kernel_rfl) (fun _ _ _ h => h) (by kernel_rfl) (fun w' hw' => by kernel_rfl) sS1 ?_
        refine Wk.dVal 2 (some 19) (.pointer (some ⟨g1, o1 + i * 97, none⟩)) rfl rfl (by kernel_rfl) (by kernel_rfl) (by kernel_rfl) (fun _ _ _ h => h) (by kernel_rfl) (fun w' hw' => (Wk.index_sl 22 32 (.tmp 17) (.tmp 18) rfl Tryd.underlying22 97 (by kernel_rfl) g1 o1 n c i .i64 (by kernel_rfl) (by kernel_rfl) (by omega))) sS1 ?_
        have kk1 := Wk.Chg.step HB ch1 trivial
        refine Wk.dVal 3 (some 20) (.agg ((Mur.attC x.k x.r x.n x.t).toArray)) rfl rfl (by kernel_rfl) (by kernel_rfl) (by kernel_rfl) (fun _ _ _ h => h) (by kernel_rfl) (fun w' hw' => (Wk.loadR 32 (.tmp 19) rfl _ Tryd.underlying32 rfl g1 (o1 + i * 97) (by kernel_rfl) (Mur.attC x.k x.r x.n x.t) (by rw [Mur.attC_length x.hk x.hr x.ht]; kernel_rfl) ((Mur.SlA.chg (Mur.SlA.chg hA_ kk1 (fun g off e hl => trivial)) hw' (fun g off e hl => trivial)).elem hx))) sS1 ?_
        refine Wk.dVal 4 (some 21) (.slice (some ⟨g2, o2, none⟩) m d) rfl rfl (by kernel_rfl) (by kernel_rfl) (by kernel_rfl) (fun _ _ _ h => h) (by kernel_rfl) (fun w' hw' => by kernel_rfl) sS1 ?_
        refine Wk.dVal 5 (some 22) (.int .i64 ((i : Nat) : Int)) rfl rfl (by kernel_rfl) (by kernel_rfl) (by kernel_rfl) (fun _ _ _ h => h) (by kernel_rfl) (fun w' hw' => by kernel_rfl) sS1 ?_
        refine Wk.dVal 6 (some 23) (.pointer (some ⟨g2, o2 + i * 97, none⟩)) rfl rfl (by kernel_rfl) (by kernel_rfl) (by kernel_rfl) (fun _ _ _ h => h) (by kernel_rfl) (fun w' hw' => (Wk.index_sl 22 32 (.tmp 21) (.tmp 22) rfl Tryd.underlying22 97 (by kernel_rfl) g2 o2 m d i .i64 (by kernel_rfl) (by kernel_rfl) (by omega))) sS1 ?_
        refine Wk.dVal 7 (some 24) (.agg ((Mur.attC y.k y.r y.n y.t).toArray)) rfl rfl (by kernel_rfl) (by kernel_rfl) (by kernel_rfl) (fun _ _ _ h => h) (by kernel_rfl) (fun w' hw' => (Wk.loadR 32 (.tmp 23) rfl _ Tryd.underlying32 rfl g2 (o2 + i * 97) (by kernel_rfl) (Mur.attC y.k y.r y.n y.t) (by rw [Mur.attC_length y.hk y.hr y.ht]; kernel_rfl) ((Mur.SlA.chg (Mur.SlA.chg hB_ kk1 (fun g off e hl => trivial)) hw' (fun g off e hl => trivial)).elem hy))) sS1 ?_
        by_cases hatt1 : x.k = y.k ∧ x.r = y.r ∧ x.n = y.n ∧ x.t = y.t
        · refine Wk.dVal 8 (some 25) (.bool false) rfl rfl (by kernel_rfl) (by kernel_rfl) (by kernel_rfl) (fun _ _ _ h => h) (by kernel_rfl) (fun w' hw' => (Wk.boolF (b := !decide (x.k = y.k ∧ x.r = y.r ∧ x.n = y.n ∧ x.t = y.t)) ((by rw [decide_eq_true (hatt1)]; rfl)) (run_neq_att (.tmp 20) (.tmp 24) 32 rfl x.hk x.hr x.ht y.hk y.hr y.ht x.hn y.hn (by kernel_rfl) (by kernel_rfl)))) sS1 ?_
          refine Wk.dEnd (by kernel_rfl) ?_
          refine Wk.nxt ?_
          refine wp_cond_false (by kernel_rfl) ?_
          refine wp_skip ?_
          refine Wk.inN ?_
          refine Wk.nxt ?_
          refine Wk.reg ?_
          refine Wk.rPure 0 (some 15) (.int .i64 ((i : Nat) : Int)) rfl rfl (by kernel_rfl) (by kernel_rfl) ?_
          refine Wk.rPure 1 (some 16) (.int .i64 ((i + 1 : Nat) : Int)) rfl rfl (by kernel_rfl) (Wk.int64 (n := ((i : Nat) : Int) + 1) (z := ((i + 1 : Nat) : Int)) (by omega) (by omega) (by omega) (by kernel_rfl)) ?_
          refine Wk.rPure 2 (some 5) (.int .i64 ((i + 1 : Nat) : Int)) rfl rfl (by kernel_rfl) (by kernel_rfl) ?_
          refine Wk.rEnd 3 rfl ?_
          refine Wk.nxt ?_
          refine ⟨_, ?_, i + 1, rfl, by kernel_rfl, (by omega), (Mur.sameA_step htk hx hy ((Mur.Att.eq_iff x y).2 hatt1)), kk1⟩
          · omega
        · refine Wk.dVal 8 (some 25) (.bool true) rfl rfl (by kernel_rfl) (by kernel_rfl) (by kernel_rfl) (fun _ _ _ h => h) (by kernel_rfl) (fun w' hw' => (Wk.boolT (b := !decide (x.k = y.k ∧ x.r = y.r ∧ x.n = y.n ∧ x.t = y.t)) ((by rw [decide_eq_false (hatt1)]; rfl)) (run_neq_att (.tmp 20) (.tmp 24) 32 rfl x.hk x.hr x.ht y.hk y.hr y.ht x.hn y.hn (by kernel_rfl) (by kernel_rfl)))) sS1 ?_
          refine Wk.dEnd (by kernel_rfl) ?_
          refine Wk.nxt ?_
          refine wp_cond_true (by kernel_rfl) ?_
          refine wp_seq ?_
          refine Wk.reg ?_
          refine Wk.rPure 0 (some 4) (.bool false) rfl rfl (by kernel_rfl) (by kernel_rfl) ?_
          refine Wk.rEnd 1 rfl ?_
          refine Wk.nxt ?_
          refine wp_ret ?_
          refine Wk.inR ?_
          refine Wk.thR ?_
          refine Wk.thR ?_
          refine Wk.inR ?_
          refine Wk.thR ?_
          refine Wk.ret (.bool false) rfl (by kernel_rfl) ?_
          exact ⟨by rw [decide_eq_false (fun q => hatt1 ((Mur.Att.eq_iff x y).1 (by subst q; rw [hx] at hy; exact Option.some.inj hy)))], kk1⟩
      · have hLM : L = M := Mur.sameA_all htk hLl (by omega) (by omega)
        refine wp_seq ?_
        refine wp_seq ?_
        refine Wk.reg ?_
        refine Wk.rPure 0 (some 11) (.int .i64 ((i : Nat) : Int)) rfl rfl (by kernel_rfl) (by kernel_rfl) ?_
        refine Wk.rPure 1 (some 12) (.slice A n c) rfl rfl (by kernel_rfl) (by kernel_rfl) ?_
        refine Wk.rPure 2 (some 13) (.int .i64 ((n : Nat) : Int)) rfl rfl (by kernel_rfl) (by kernel_rfl) ?_
        refine Wk.rPure 3 (some 14) (.bool false) rfl rfl (by kernel_rfl) (Wk.boolF (b := decide (((i : Nat) : Int) < ((n : Nat) : Int))) (decide_eq_false (by omega)) (by kernel_rfl)) ?_
        refine Wk.rEnd 4 rfl ?_
        refine Wk.nxt ?_
        refine wp_cond_false (by kernel_rfl) ?_
        refine wp_exit ?_
        refine Wk.thX ?_
        refine Wk.thX ?_
        refine Wk.inX ?_
        refine Wk.nxt ?_
        refine wp_seq ?_
        refine Wk.reg ?_
        refine Wk.rPure 0 (some 4) (.bool true) rfl rfl (by kernel_rfl) (by kernel_rfl) ?_
        refine Wk.rEnd 1 rfl ?_
        refine Wk.nxt ?_
        refine wp_ret ?_
        refine Wk.ret (.bool true) rfl (by kernel_rfl) ?_
        exact ⟨by rw [decide_eq_true hLM], HB⟩
theorem Less20_any (x y : Att) (w : World) : Calls Tryd.prog 25 #[.agg (attC x.k x.r x.n x.t).toArray, .agg (attC y.k y.r y.n y.t).toArray] w fun e w' => e = .returned (.bool (decide (x.lt y))) ∧ Wk.Chg [] w w' := by
  refine calls_of_wp Tryd.func25 rfl ?_
  refine wp_seq ?_
  refine Wk.reg ?_
  by_cases hls : x.lt y
  · refine Wk.rEx 0 (some 2) _ rfl rfl (by kernel_rfl) (Wk.new_ex (.pointer (some ⟨w.heap.size, 0, none⟩)) ((Mur.attC x.k x.r x.n x.t).toArray) 32 (by kernel_rfl)) ?_
    rintro _ W1 ⟨rfl, hb1, ch1, sz1⟩
    have zz1 := ch1.size
    refine Wk.rEx 1 (some 3) _ rfl rfl (by kernel_rfl) (Wk.new_ex (.pointer (some ⟨W1.heap.size, 0, none⟩)) ((Mur.attC y.k y.r y.n y.t).toArray) 32 (by kernel_rfl)) ?_
    rintro _ W2 ⟨rfl, hb2, ch2, sz2⟩
    have zz2 := ch2.size
    refine Wk.rPure 2 (some 4) (.bool false) rfl rfl (by kernel_rfl) (by kernel_rfl) ?_
    refine Wk.rEnd 3 rfl ?_
    refine Wk.nxt ?_
    refine wp_seq ?_
    refine Wk.dReg ([]) (by kernel_rfl) ?_
    intro W3 ch3 sz3
    have zz3 := ch3.size
    have sS1 : Wk.Chg ([]) W3 W3 := (Wk.Chg.refl _).more (by simp)
    refine Wk.dVal 0 (some 5) (.agg ((Mur.attC x.k x.r x.n x.t).toArray)) rfl rfl (by kernel_rfl) (by kernel_rfl) (by kernel_rfl) (fun _ _ _ h => h) (by kernel_rfl) (fun w' hw' => (Mur.loadArr 32 (.tmp 2) rfl _ Tryd.underlying32 rfl w.heap.size (by kernel_rfl) (Mur.attC x.k x.r x.n x.t).toArray 97 (Mur.attC_size x.hk x.hr x.ht) (by kernel_rfl) 32 (0, 0) (Wk.Chg.hp hw' (Wk.Chg.hp ch3 (Wk.Chg.hp ch2 hb1 trivial) trivial) trivial))) sS1 ?_
    refine Wk.dVal 3 (some 8) (.agg ((Mur.attC y.k y.r y.n y.t).toArray)) rfl rfl (by kernel_rfl) (by kernel_rfl) (by kernel_rfl) (fun _ _ _ h => h) (by kernel_rfl) (fun w' hw' => (Mur.loadArr 32 (.tmp 3) rfl _ Tryd.underlying32 rfl W1.heap.size (by kernel_rfl) (Mur.attC y.k y.r y.n y.t).toArray 97 (Mur.attC_size y.hk y.hr y.ht) (by kernel_rfl) 32 (0, 0) (Wk.Chg.hp hw' (Wk.Chg.hp ch3 hb2 trivial) trivial))) sS1 ?_
    refine Wk.dOp 1 (by kernel_rfl) ?_
    refine Wk.oCall (some 6) 48 [.tmp 5] #[32] [.agg ((Mur.attC x.k x.r x.n x.t).toArray)] rfl rfl (by kernel_rfl) rfl (by kernel_rfl) (by kernel_rfl) ?_
    refine (Rbytes_any x.k x.r x.t x.n x.hk x.hr x.ht W3).mono ?_
    rintro _ W4 ⟨qr1, cr1, RB1, hRB1, rfl, hbr1, hq1, hq2, ch4⟩
    have zz4 := ch4.size
    have hBt1 : ∀ g off, (some ⟨qr1, 0, none⟩ : Option Addr) = some ⟨g, off, none⟩ → W3.heap.size ≤ g ∧ g < W4.heap.size := fun g off e => by cases e; exact hq1
    have sS2 := Wk.Chg.step sS1 ch4 trivial
    refine ⟨_, rfl, sS2, ?_⟩
    refine Wk.dOp2 2 4 (by kernel_rfl) ?_ ?_
    · refine Wk.oVal (some 7) (.string (Mur.str RB1)) rfl rfl (by kernel_rfl) (Mur.run_str 38 9 (.tmp 6) 5 rfl Tryd.underlying38 Tryd.underlying5 Tryd.underlying9 (some ⟨qr1, 0, none⟩) 104 cr1 RB1 (by kernel_rfl) hbr1) ?_
      refine ⟨sS2, ?_⟩
      refine Wk.dOp 4 (by kernel_rfl) ?_
      refine Wk.oCall (some 9) 48 [.tmp 8] #[32] [.agg ((Mur.attC y.k y.r y.n y.t).toArray)] rfl rfl (by kernel_rfl) rfl (by kernel_rfl) (by kernel_rfl) ?_
      refine (Rbytes_any y.k y.r y.t y.n y.hk y.hr y.ht W4).mono ?_
      rintro _ W5 ⟨qr2, cr2, RB2, hRB2, rfl, hbr2, hq3, hq4, ch5⟩
      have zz5 := ch5.size
      have hBt2 : ∀ g off, (some ⟨qr2, 0, none⟩ : Option Addr) = some ⟨g, off, none⟩ → W4.heap.size ≤ g ∧ g < W5.heap.size := fun g off e => by cases e; exact hq3
      have sS3 := Wk.Chg.step sS2 ch5 trivial
      refine ⟨_, rfl, sS3, ?_⟩
      refine Wk.dOp 5 (by kernel_rfl) ?_
      refine Wk.oVal (some 10) (.string (Mur.str RB2)) rfl rfl (by kernel_rfl) (Mur.run_str 38 9 (.tmp 9) 5 rfl Tryd.underlying38 Tryd.underlying5 Tryd.underlying9 (some ⟨qr2, 0, none⟩) 104 cr2 RB2 (by kernel_rfl) hbr2) ?_
      refine ⟨sS3, ?_⟩
      refine Wk.dVal 6 (some 11) (.bool true) rfl rfl (by kernel_rfl) (by kernel_rfl) (by kernel_rfl) (fun _ _ _ h => h) (by kernel_rfl) (fun w' hw' => (Wk.boolT (b := decide (Go.Lib.compareBytes RB1 RB2 < 0)) (decide_eq_true (by rw [hRB1.out, hRB2.out]; exact hls)) (Mur.strlss 9 9 (.tmp 7) (.tmp 10) rfl RB1 RB2 (by kernel_rfl) (by kernel_rfl)))) sS3 ?_
      refine Wk.dVal 7 (some 4) (.bool true) rfl rfl (by kernel_rfl) (by kernel_rfl) (by kernel_rfl) (fun _ _ _ h => h) (by kernel_rfl) (fun w' hw' => by kernel_rfl) sS3 ?_
      refine Wk.dEnd (by kernel_rfl) ?_
      refine Wk.nxt ?_
      refine wp_ret ?_
      have kk1 : Wk.Chg [] w W1 := Wk.Chg.step ((Wk.Chg.refl _).more (by simp)) ch1 trivial
      have kk2 := Wk.Chg.step kk1 ch2 trivial
      have kk3 := Wk.Chg.step kk2 ch3 trivial
      have kk4 := Wk.Chg.step kk3 ch4 trivial
      have kk5 := Wk.Chg.step kk4 ch5 trivial
      refine Wk.ret (.bool true) rfl (by kernel_rfl) ?_
      exact ⟨by rw [decide_eq_true hls], kk5⟩
    · refine Wk.oCall (some 9) 48 [.tmp 8] #[32] [.agg ((Mur.attC y.k y.r y.n y.t).toArray)] rfl rfl (by kernel_rfl) rfl (by kernel_rfl) (by kernel_rfl) ?_
      refine (Rbytes_any y.k y.r y.t y.n y.hk y.hr y.ht W4).mono ?_
      rintro _ W6 ⟨qr3, cr3, RB3, hRB3, rfl, hbr3, hq5, hq6, ch6⟩
      have zz6 := ch6.size
      have hBt3 : ∀ g off, (some ⟨qr3, 0, none⟩ : Option Addr) = some ⟨g, off, none⟩ → W4.heap.size ≤ g ∧ g < W6.heap.size := fun g off e => by cases e; exact hq5
      have sS4 := Wk.Chg.step sS2 ch6 trivial
      refine ⟨_, rfl, sS4, ?_⟩
      refine Wk.dOp2 2 5 (by kernel_rfl) ?_ ?_
      · refine Wk.oVal (some 7) (.string (Mur.str RB1)) rfl rfl (by kernel_rfl) (Mur.run_str 38 9 (.tmp 6) 5 rfl Tryd.underlying38 Tryd.underlying5 Tryd.underlying9 (some ⟨qr1, 0, none⟩) 104 cr1 RB1 (by kernel_rfl) (Mur.byt_chg hbr1 ch6 (fun g off e hl => trivial))) ?_
        refine ⟨sS4, ?_⟩
        refine Wk.dOp 5 (by kernel_rfl) ?_
        refine Wk.oVal (some 10) (.string (Mur.str RB3)) rfl rfl (by kernel_rfl) (Mur.run_str 38 9 (.tmp 9) 5 rfl Tryd.underlying38 Tryd.underlying5 Tryd.underlying9 (some ⟨qr3, 0, none⟩) 104 cr3 RB3 (by kernel_rfl) hbr3) ?_
        refine ⟨sS4, ?_⟩
        refine Wk.dVal 6 (some 11) (.bool true) rfl rfl (by kernel_rfl) (by kernel_rfl) (by kernel_rfl) (fun _ _ _ h => h) (by kernel_rfl) (fun w' hw' => (Wk.boolT (b := decide (Go.Lib.compareBytes RB1 RB3 < 0)) (decide_eq_true (by rw [hRB1.out, hRB3.out]; exact hls)) (Mur.strlss 9 9 (.tmp 7) (.tmp 10) rfl RB1 RB3 (by kernel_rfl) (by kernel_rfl)))) sS4 ?_
        refine Wk.dVal 7 (some 4) (.bool true) rfl rfl (by kernel_rfl) (by kernel_rfl) (by kernel_rfl) (fun _ _ _ h => h) (by kernel_rfl) (fun w' hw' => by kernel_rfl) sS4 ?_
        refine Wk.dEnd (by kernel_rfl) ?_
        refine Wk.nxt ?_
        refine wp_ret ?_
        have kk6 : Wk.Chg [] w W1 := Wk.Chg.step ((Wk.Chg.refl _).more (by simp)) ch1 trivial
        have kk7 := Wk.Chg.step kk6 ch2 trivial
        have kk8 := Wk.Chg.step kk7 ch3 trivial
        have kk9 := Wk.Chg.step kk8 ch4 trivial
        have kk10 := Wk.Chg.step kk9 ch6 trivial
        refine Wk.ret (.bool true) rfl (by kernel_rfl) ?_
        exact ⟨by rw [decide_eq_true hls], kk10⟩
      · refine Wk.oVal (some 10) (.string (Mur.str RB3)) rfl rfl (by kernel_rfl) (Mur.run_str 38 9 (.tmp 9) 5 rfl Tryd.underlying38 Tryd.underlying5 Tryd.underlying9 (some ⟨qr3, 0, none⟩) 104 cr3 RB3 (by kernel_rfl) hbr3) ?_
        refine ⟨sS4, ?_⟩
        refine Wk.dOp 2 (by kernel_rfl) ?_
        refine Wk.oVal (some 7) (.string (Mur.str RB1)) rfl rfl (by kernel_rfl) (Mur.run_str 38 9 (.tmp 6) 5 rfl Tryd.underlying38 Tryd.underlying5 Tryd.underlying9 (some ⟨qr1, 0, none⟩) 104 cr1 RB1 (by kernel_rfl) (Mur.byt_chg hbr1 ch6 (fun g off e hl => trivial))) ?_
        refine ⟨sS4, ?_⟩
        refine Wk.dVal 6 (some 11) (.bool true) rfl rfl (by kernel_rfl) (by kernel_rfl) (by kernel_rfl) (fun _ _ _ h => h) (by kernel_rfl) (fun w' hw' => (Wk.boolT (b := decide (Go.Lib.compareBytes RB1 RB3 < 0)) (decide_eq_true (by rw [hRB1.out, hRB3.out]; exact hls)) (Mur.strlss 9 9 (.tmp 7) (.tmp 10) rfl RB1 RB3 (by kernel_rfl) (by kernel_rfl)))) sS4 ?_
        refine Wk.dVal 7 (some 4) (.bool true) rfl rfl (by kernel_rfl) (by kernel_rfl) (by kernel_rfl) (fun _ _ _ h => h) (by kernel_rfl) (fun w' hw' => by kernel_rfl) sS4 ?_
        refine Wk.dEnd (by kernel_rfl) ?_
        refine Wk.nxt ?_
        refine wp_ret ?_
        have kk11 : Wk.Chg [] w W1 := Wk.Chg.step ((Wk.Chg.refl _).more (by simp)) ch1 trivial
        have kk12 := Wk.Chg.step kk11 ch2 trivial
        have kk13 := Wk.Chg.step kk12 ch3 trivial
        have kk14 := Wk.Chg.step kk13 ch4 trivial
        have kk15 := Wk.Chg.step kk14 ch6 trivial
        refine Wk.ret (.bool true) rfl (by kernel_rfl) ?_
        exact ⟨by rw [decide_eq_true hls], kk15⟩
  · refine Wk.rEx 0 (some 2) _ rfl rfl (by kernel_rfl) (Wk.new_ex (.pointer (some ⟨w.heap.size, 0, none⟩)) ((Mur.attC x.k x.r x.n x.t).toArray) 32 (by kernel_rfl)) ?_
    rintro _ W7 ⟨rfl, hb3, ch7, sz4⟩
    have zz7 := ch7.size
    refine Wk.rEx 1 (some 3) _ rfl rfl (by kernel_rfl) (Wk.new_ex (.pointer (some ⟨W7.heap.size, 0, none⟩)) ((Mur.attC y.k y.r y.n y.t).toArray) 32 (by kernel_rfl)) ?_
    rintro _ W8 ⟨rfl, hb4, ch8, sz5⟩
    have zz8 := ch8.size
    refine Wk.rPure 2 (some 4) (.bool false) rfl rfl (by kernel_rfl) (by kernel_rfl) ?_
    refine Wk.rEnd 3 rfl ?_
    refine Wk.nxt ?_
    refine wp_seq ?_
    refine Wk.dReg ([]) (by kernel_rfl) ?_
    intro W9 ch9 sz6
    have zz9 := ch9.size
    have sS5 : Wk.Chg ([]) W9 W9 := (Wk.Chg.refl _).more (by simp)
    refine Wk.dVal 0 (some 5) (.agg ((Mur.attC x.k x.r x.n x.t).toArray)) rfl rfl (by kernel_rfl) (by kernel_rfl) (by kernel_rfl) (fun _ _ _ h => h) (by kernel_rfl) (fun w' hw' => (Mur.loadArr 32 (.tmp 2) rfl _ Tryd.underlying32 rfl w.heap.size (by kernel_rfl) (Mur.attC x.k x.r x.n x.t).toArray 97 (Mur.attC_size x.hk x.hr x.ht) (by kernel_rfl) 32 (0, 0) (Wk.Chg.hp hw' (Wk.Chg.hp ch9 (Wk.Chg.hp ch8 hb3 trivial) trivial) trivial))) sS5 ?_
    refine Wk.dVal 3 (some 8) (.agg ((Mur.attC y.k y.r y.n y.t).toArray)) rfl rfl (by kernel_rfl) (by kernel_rfl) (by kernel_rfl) (fun _ _ _ h => h) (by kernel_rfl) (fun w' hw' => (Mur.loadArr 32 (.tmp 3) rfl _ Tryd.underlying32 rfl W7.heap.size (by kernel_rfl) (Mur.attC y.k y.r y.n y.t).toArray 97 (Mur.attC_size y.hk y.hr y.ht) (by kernel_rfl) 32 (0, 0) (Wk.Chg.hp hw' (Wk.Chg.hp ch9 hb4 trivial) trivial))) sS5 ?_
    refine Wk.dOp 1 (by kernel_rfl) ?_
    refine Wk.oCall (some 6) 48 [.tmp 5] #[32] [.agg ((Mur.attC x.k x.r x.n x.t).toArray)] rfl rfl (by kernel_rfl) rfl (by kernel_rfl) (by kernel_rfl) ?_
    refine (Rbytes_any x.k x.r x.t x.n x.hk x.hr x.ht W9).mono ?_
    rintro _ W10 ⟨qr4, cr4, RB4, hRB4, rfl, hbr4, hq7, hq8, ch10⟩
    have zz10 := ch10.size
    have hBt4 : ∀ g off, (some ⟨qr4, 0, none⟩ : Option Addr) = some ⟨g, off, none⟩ → W9.heap.size ≤ g ∧ g < W10.heap.size := fun g off e => by cases e; exact hq7
    have sS6 := Wk.Chg.step sS5 ch10 trivial
    refine ⟨_, rfl, sS6, ?_⟩
    refine Wk.dOp2 2 4 (by kernel_rfl) ?_ ?_
    · refine Wk.oVal (some 7) (.string (Mur.str RB4)) rfl rfl (by kernel_rfl) (Mur.run_str 38 9 (.tmp 6) 5 rfl Tryd.underlying38 Tryd.underlying5 Tryd.underlying9 (some ⟨qr4, 0, none⟩) 104 cr4 RB4 (by kernel_rfl) hbr4) ?_
      refine ⟨sS6, ?_⟩
      refine Wk.dOp 4 (by kernel_rfl) ?_
      refine Wk.oCall (some 9) 48 [.tmp 8] #[32] [.agg ((Mur.attC y.k y.r y.n y.t).toArray)] rfl rfl (by kernel_rfl) rfl (by kernel_rfl) (by kernel_rfl) ?_
      refine (Rbytes_any y.k y.r y.t y.n y.hk y.hr y.ht W10).mono ?_
      rintro _ W11 ⟨qr5, cr5, RB5, hRB5, rfl, hbr5, hq9, hq10, ch11⟩
      have zz11 := ch11.size
      have hBt5 : ∀ g off, (some ⟨qr5, 0, none⟩ : Option Addr) = some ⟨g, off, none⟩ → W10.heap.size ≤ g ∧ g < W11.heap.size := fun g off e => by cases e; exact hq9
      have sS7 := Wk.Chg.step sS6 ch11 trivial
      refine ⟨_, rfl, sS7, ?_⟩
      refine Wk.dOp 5 (by kernel_rfl) ?_
      refine Wk.oVal (some 10) (.string (Mur.str RB5)) rfl rfl (by kernel_rfl) (Mur.run_str 38 9 (.tmp 9) 5 rfl Tryd.underlying38 Tryd.underlying5 Tryd.underlying9 (some ⟨qr5, 0, none⟩) 104 cr5 RB5 (by kernel_rfl) hbr5) ?_
      refine ⟨sS7, ?_⟩
      refine Wk.dVal 6 (some 11) (.bool false) rfl rfl (by kernel_rfl) (by kernel_rfl) (by kernel_rfl) (fun _ _ _ h => h) (by kernel_rfl) (fun w' hw' => (Wk.boolF (b := decide (Go.Lib.compareBytes RB4 RB5 < 0)) (decide_eq_false (by rw [hRB4.out, hRB5.out]; exact hls)) (Mur.strlss 9 9 (.tmp 7) (.tmp 10) rfl RB4 RB5 (by kernel_rfl) (by kernel_rfl)))) sS7 ?_
      refine Wk.dVal 7 (some 4) (.bool false) rfl rfl (by kernel_rfl) (by kernel_rfl) (by kernel_rfl) (fun _ _ _ h => h) (by kernel_rfl) (fun w' hw' => by kernel_rfl) sS7 ?_
      refine Wk.dEnd (by kernel_rfl) ?_
      refine Wk.nxt ?_
      refine wp_ret ?_
      have kk16 : Wk.Chg [] w W7 := Wk.Chg.step ((Wk.Chg.refl _).more (by simp)) ch7 trivial
      have kk17 := Wk.Chg.step kk16 ch8 trivial
      have kk18 := Wk.Chg.step kk17 ch9 trivial
      have kk19 := Wk.Chg.step kk18 ch10 trivial
      have kk20 := Wk.Chg.step kk19 ch11 trivial
      refine Wk.ret (.bool false) rfl (by kernel_rfl) ?_
      exact ⟨by rw [decide_eq_false hls], kk20⟩
    · refine Wk.oCall (some 9) 48 [.tmp 8] #[32] [.agg ((Mur.attC y.k y.r y.n y.t).toArray)] rfl rfl (by kernel_rfl) rfl (by kernel_rfl) (by kernel_rfl) ?_
      refine (Rbytes_any y.k y.r y.t y.n y.hk y.hr y.ht W10).mono ?_
      rintro _ W12 ⟨qr6, cr6, RB6, hRB6, rfl, hbr6, hq11, hq12, ch12⟩
      have zz12 := ch12.size
      have hBt6 : ∀ g off, (some ⟨qr6, 0, none⟩ : Option Addr) = some ⟨g, off, none⟩ → W10.heap.size ≤ g ∧ g < W12.heap.size := fun g off e => by cases e; exact hq11
      have sS8 := Wk.Chg.step sS6 ch12 trivial
      refine ⟨_, rfl, sS8, ?_⟩
      refine Wk.dOp2 2 5 (by kernel_rfl) ?_ ?_
      · refine Wk.oVal (some 7) (.string (Mur.str RB4)) rfl rfl (by kernel_rfl) (Mur.run_str 38 9 (.tmp 6) 5 rfl Tryd.underlying38 Tryd.underlying5 Tryd.underlying9 (some ⟨qr4, 0, none⟩) 104 cr4 RB4 (by kernel_rfl) (Mur.byt_chg hbr4 ch12 (fun g off e hl => trivial))) ?_
        refine ⟨sS8, ?_⟩
        refine Wk.dOp 5 (by kernel_rfl) ?_
        refine Wk.oVal (some 10) (.string (Mur.str RB6)) rfl rfl (by kernel_rfl) (Mur.run_str 38 9 (.tmp 9) 5 rfl Tryd.underlying38 Tryd.underlying5 Tryd.underlying9 (some ⟨qr6, 0, none⟩) 104 cr6 RB6 (by kernel_rfl) hbr6) ?_
        refine ⟨sS8, ?_⟩
        refine Wk.dVal 6 (some 11) (.bool false) rfl rfl (by kernel_rfl) (by kernel_rfl) (by kernel_rfl) (fun _ _ _ h => h) (by kernel_rfl) (fun w' hw' => (Wk.boolF (b := decide (Go.Lib.compareBytes RB4 RB6 < 0)) (decide_eq_false (by rw [hRB4.out, hRB6.out]; exact hls)) (Mur.strlss 9 9 (.tmp 7) (.tmp 10) rfl RB4 RB6 (by kernel_rfl) (by kernel_rfl)))) sS8 ?_
        refine Wk.dVal 7 (some 4) (.bool false) rfl rfl (by kernel_rfl) (by kernel_rfl) (by kernel_rfl) (fun _ _ _ h => h) (by kernel_rfl) (fun w' hw' => by kernel_rfl) sS8 ?_
        refine Wk.dEnd (by kernel_rfl) ?_
        refine Wk.nxt ?_
        refine wp_ret ?_
        have kk21 : Wk.Chg [] w W7 := Wk.Chg.step ((Wk.Chg.refl _).more (by simp)) ch7 trivial
        have kk22 := Wk.Chg.step kk21 ch8 trivial
        have kk23 := Wk.Chg.step kk22 ch9 trivial
        have kk24 := Wk.Chg.step kk23 ch10 trivial
        have kk25 := Wk.Chg.step kk24 ch12 trivial
        refine Wk.ret (.bool false) rfl (by kernel_rfl) ?_
        exact ⟨by rw [decide_eq_false hls], kk25⟩
      · refine Wk.oVal (some 10) (.string (Mur.str RB6)) rfl rfl (by kernel_rfl) (Mur.run_str 38 9 (.tmp 9) 5 rfl Tryd.underlying38 Tryd.underlying5 Tryd.underlying9 (some ⟨qr6, 0, none⟩) 104 cr6 RB6 (by kernel_rfl) hbr6) ?_
        refine ⟨sS8, ?_⟩
        refine Wk.dOp 2 (by kernel_rfl) ?_
        refine Wk.oVal (some 7) (.string (Mur.str RB4)) rfl rfl (by kernel_rfl) (Mur.run_str 38 9 (.tmp 6) 5 rfl Tryd.underlying38 Tryd.underlying5 Tryd.underlying9 (some ⟨qr4, 0, none⟩) 104 cr4 RB4 (by kernel_rfl) (Mur.byt_chg hbr4 ch12 (fun g off e hl => trivial))) ?_
        refine ⟨sS8, ?_⟩
        refine Wk.dVal 6 (some 11) (.bool false) rfl rfl (by kernel_rfl) (by kernel_rfl) (by kernel_rfl) (fun _ _ _ h => h) (by kernel_rfl) (fun w' hw' => (Wk.boolF (b := decide (Go.Lib.compareBytes RB4 RB6 < 0)) (decide_eq_false (by rw [hRB4.out, hRB6.out]; exact hls)) (Mur.strlss 9 9 (.tmp 7) (.tmp 10) rfl RB4 RB6 (by kernel_rfl) (by kernel_rfl)))) sS8 ?_
        refine Wk.dVal 7 (some 4) (.bool false) rfl rfl (by kernel_rfl) (by kernel_rfl) (by kernel_rfl) (fun _ _ _ h => h) (by kernel_rfl) (fun w' hw' => by kernel_rfl) sS8 ?_
        refine Wk.dEnd (by kernel_rfl) ?_
        refine Wk.nxt ?_
        refine wp_ret ?_
        have kk26 : Wk.Chg [] w W7 := Wk.Chg.step ((Wk.Chg.refl _).more (by simp)) ch7 trivial
        have kk27 := Wk.Chg.step kk26 ch8 trivial
        have kk28 := Wk.Chg.step kk27 ch9 trivial
        have kk29 := Wk.Chg.step kk28 ch10 trivial
        have kk30 := Wk.Chg.step kk29 ch12 trivial
        refine Wk.ret (.bool false) rfl (by kernel_rfl) ?_
        exact ⟨by rw [decide_eq_false hls], kk30⟩
theorem known20_any (w : World) (hv : ShaVars w) : Calls Tryd.prog 13 #[] w fun e w' => e = .returned (.bool true) ∧ Wk.Chg [] w w' := by
  have HV := Go.Lib.hid hv
  clear hv
  refine calls_of_wp Tryd.func13 rfl ?_
  refine wp_seq ?_
  refine Wk.reg ?_
  refine Wk.rPure 0 (some 0) (.bool false) rfl rfl (by kernel_rfl) (by kernel_rfl) ?_
  refine Wk.rEnd 1 rfl ?_
  refine Wk.nxt ?_
  refine wp_seq ?_
  refine Wk.reg ?_
  refine Wk.rCall 0 (some 5) 14 [] #[] [] rfl rfl (by kernel_rfl) rfl (by kernel_rfl) (by kernel_rfl) ?_
  refine (New_any w).mono ?_
  rintro _ W1 ⟨FF1, rfl, hD1, ch1⟩
  have hM1 := Mur.SetF.mem hD1
  have zz1 := (hM1 _ (Mur.SetF.self hD1)).2
  have zz2 := ch1.size
  refine ⟨_, rfl, ?_⟩
  refine Wk.rPure 1 (some 1) (.pointer (some ⟨w.heap.size, 0, none⟩)) rfl rfl (by kernel_rfl) (by kernel_rfl) ?_
  refine Wk.rEnd 2 rfl ?_
  refine Wk.nxt ?_
  refine wp_seq ?_
  refine Wk.reg ?_
  refine Wk.rPure 0 (some 6) (.agg ((b8s [63, 0, 0, 0, 0, 0, 0, 0, 0, 0, 0, 0, 0, 0, 0, 0, 0, 0, 0, 0, 0, 0, 0, 0, 0, 0, 0, 0, 0, 0, 0, 0]).toArray)) rfl rfl (by kernel_rfl) (by kernel_rfl) ?_
  refine Wk.rPure 1 (some 7) (.agg ((Mur.attC ([63, 0, 0, 0, 0, 0, 0, 0, 0, 0, 0, 0, 0, 0, 0, 0, 0, 0, 0, 0, 0, 0, 0, 0, 0, 0, 0, 0, 0, 0, 0, 0]) Mur.z32 1 Mur.z32).toArray)) rfl rfl (by kernel_rfl) (Mur.run_built 32 _ rfl [(0, .agg ((b8s [63, 0, 0, 0, 0, 0, 0, 0, 0, 0, 0, 0, 0, 0, 0, 0, 0, 0, 0, 0, 0, 0, 0, 0, 0, 0, 0, 0, 0, 0, 0, 0]).toArray)), (2, .int .i64 1)] (by kernel_rfl) _ (built2 rfl)) ?_
  refine Wk.rEx 2 (some 2) _ rfl rfl (by kernel_rfl) (Wk.new_ex (.pointer (some ⟨W1.heap.size, 0, none⟩)) #[.int .u8 0, .int .u8 0, .int .u8 0, .int .u8 0, .int .u8 0, .int .u8 0, .int .u8 0, .int .u8 0, .int .u8 0, .int .u8 0, .int .u8 0, .int .u8 0, .int .u8 0, .int .u8 0, .int .u8 0, .int .u8 0, .int .u8 0, .int .u8 0, .int .u8 0, .int .u8 0, .int .u8 0, .int .u8 0, .int .u8 0, .int .u8 0, .int .u8 0, .int .u8 0, .int .u8 0, .int .u8 0, .int .u8 0, .int .u8 0, .int .u8 0, .int .u8 0, .int .u8 0, .int .u8 0, .int .u8 0, .int .u8 0, .int .u8 0, .int .u8 0, .int .u8 0, .int .u8 0, .int .u8 0, .int .u8 0, .int .u8 0, .int .u8 0, .int .u8 0, .int .u8 0, .int .u8 0, .int .u8 0, .int .u8 0, .int .u8 0, .int .u8 0, .int .u8 0, .int .u8 0, .int .u8 0, .int .u8 0, .int .u8 0, .int .u8 0, .int .u8 0, .int .u8 0, .int .u8 0, .int .u8 0, .int .u8 0, .int .u8 0, .int .u8 0, .int .i64 0, .int .u8 0, .int .u8 0, .int .u8 0, .int .u8 0, .int .u8 0, .int .u8 0, .int .u8 0, .int .u8 0, .int .u8 0, .int .u8 0, .int .u8 0, .int .u8 0, .int .u8 0, .int .u8 0, .int .u8 0, .int .u8 0, .int .u8 0, .int .u8 0, .int .u8 0, .int .u8 0, .int .u8 0, .int .u8 0, .int .u8 0, .int .u8 0, .int .u8 0, .int .u8 0, .int .u8 0, .int .u8 0, .int .u8 0, .int .u8 0, .int .u8 0, .int .u8 0] 32 (by kernel_rfl)) ?_
  rintro _ W2 ⟨rfl, hb1, ch2, sz1⟩
  have zz3 := ch2.size
  rw [← Mur.attC_zero] at hb1
  refine Wk.rExS 3 none _ rfl rfl (by kernel_rfl) (Mur.storeArr 32 (.tmp 2) (.tmp 7) rfl W1.heap.size (by kernel_rfl) (Mur.attC ([63, 0, 0, 0, 0, 0, 0, 0, 0, 0, 0, 0, 0, 0, 0, 0, 0, 0, 0, 0, 0, 0, 0, 0, 0, 0, 0, 0, 0, 0, 0, 0]) Mur.z32 1 Mur.z32).toArray 97 (Mur.attC_size rfl rfl rfl) Mur.attC_all (by kernel_rfl) (by kernel_rfl) 32 ((Mur.attC Mur.z32 Mur.z32 0 Mur.z32).toArray) hb1 (Mur.attC_size rfl rfl rfl)) ?_
  rintro W3 ⟨hb2, ch3⟩
  have zz4 := ch3.size
  refine Wk.rEnd 4 rfl ?_
  refine Wk.nxt ?_
  refine wp_seq ?_
  refine wp_seq ?_
  refine Wk.reg ?_
  refine Wk.rPure 0 (some 8) (.pointer (some ⟨w.heap.size, 0, none⟩)) rfl rfl (by kernel_rfl) (by kernel_rfl) ?_
  refine Wk.rPure 1 (some 9) (.bool false) rfl rfl (by kernel_rfl) (by kernel_rfl) ?_
  refine Wk.rPure 2 (some 10) (.bool false) rfl rfl (by kernel_rfl) (by kernel_rfl) ?_
  refine Wk.rPure 3 (some 11) (.pointer (some ⟨w.heap.size, 0, none⟩)) rfl rfl (by kernel_rfl) (by kernel_rfl) ?_
  refine Wk.rPure 4 (some 12) (.agg ((Mur.attC ([63, 0, 0, 0, 0, 0, 0, 0, 0, 0, 0, 0, 0, 0, 0, 0, 0, 0, 0, 0, 0, 0, 0, 0, 0, 0, 0, 0, 0, 0, 0, 0]) Mur.z32 1 Mur.z32).toArray)) rfl rfl (by kernel_rfl) (Mur.loadArr 32 (.tmp 2) rfl _ Tryd.underlying32 rfl W1.heap.size (by kernel_rfl) (Mur.attC ([63, 0, 0, 0, 0, 0, 0, 0, 0, 0, 0, 0, 0, 0, 0, 0, 0, 0, 0, 0, 0, 0, 0, 0, 0, 0, 0, 0, 0, 0, 0, 0]) Mur.z32 1 Mur.z32).toArray 97 (Mur.attC_size rfl rfl rfl) (by kernel_rfl) 32 (0, 0) hb2) ?_
  refine Wk.rCall 5 (some 13) 15 [.tmp 11, .tmp 12] #[24, 32] [.pointer (some ⟨w.heap.size, 0, none⟩), .agg ((Mur.attC ([63, 0, 0, 0, 0, 0, 0, 0, 0, 0, 0, 0, 0, 0, 0, 0, 0, 0, 0, 0, 0, 0, 0, 0, 0, 0, 0, 0, 0, 0, 0, 0]) Mur.z32 1 Mur.z32).toArray)] rfl rfl (by kernel_rfl) rfl (by kernel_rfl) (by kernel_rfl) ?_
  have hD2 := Mur.SetF.chg hD1 ch2 (fun s hs => trivial)
  have hD3 := Mur.SetF.chg hD2 ch3 (fun s hs => ⟨by have := hM1 s hs; omega, trivial⟩)
  refine (Add_any w.heap.size ([]) w.heap.size FF1 Mur.kA W3 hD3).mono ?_
  rw [Mur.kA_add]
  dsimp only
  rintro _ W4 ⟨FF2, rfl, hD4, ch4, no1⟩
  have hM2 := Mur.SetF.mem hD4
  have zz5 := ch4.size
  refine ⟨_, rfl, ?_⟩
  refine Wk.rPure 6 (some 14) (.bool false) rfl rfl (by kernel_rfl) (Wk.boolF (b := ((0 : Int) != (0 : Int))) (bne_eq_false_iff_eq.2 (by decide)) (by kernel_rfl)) ?_
  refine Wk.rPure 7 (some 15) (.bool false) rfl rfl (by kernel_rfl) (by kernel_rfl) ?_
  refine Wk.rPure 8 (some 16) (.bool false) rfl rfl (by kernel_rfl) (by kernel_rfl) ?_
  refine Wk.rPure 9 (some 17) (.pointer (some ⟨w.heap.size, 0, none⟩)) rfl rfl (by kernel_rfl) (by kernel_rfl) ?_
  refine Wk.rPure 10 (some 18) (.agg ((Mur.attC ([63, 0, 0, 0, 0, 0, 0, 0, 0, 0, 0, 0, 0, 0, 0, 0, 0, 0, 0, 0, 0, 0, 0, 0, 0, 0, 0, 0, 0, 0, 0, 0]) Mur.z32 1 Mur.z32).toArray)) rfl rfl (by kernel_rfl) (Mur.loadArr 32 (.tmp 2) rfl _ Tryd.underlying32 rfl W1.heap.size (by kernel_rfl) (Mur.attC ([63, 0, 0, 0, 0, 0, 0, 0, 0, 0, 0, 0, 0, 0, 0, 0, 0, 0, 0, 0, 0, 0, 0, 0, 0, 0, 0, 0, 0, 0, 0, 0]) Mur.z32 1 Mur.z32).toArray 97 (Mur.attC_size rfl rfl rfl) (by kernel_rfl) 32 (0, 0) (Wk.Chg.hp ch4 hb2 (Mur.off_iff.2 (fun t ht => by have := hM1 t ht; omega)))) ?_
  refine Wk.rCall 11 (some 19) 15 [.tmp 17, .tmp 18] #[24, 32] [.pointer (some ⟨w.heap.size, 0, none⟩), .agg ((Mur.attC ([63, 0, 0, 0, 0, 0, 0, 0, 0, 0, 0, 0, 0, 0, 0, 0, 0, 0, 0, 0, 0, 0, 0, 0, 0, 0, 0, 0, 0, 0, 0, 0]) Mur.z32 1 Mur.z32).toArray)] rfl rfl (by kernel_rfl) rfl (by kernel_rfl) (by kernel_rfl) ?_
  refine (Add_any w.heap.size ([Mur.kA]) w.heap.size FF2 Mur.kA W4 hD4).mono ?_
  rw [Mur.kA_twice]
  dsimp only
  rintro _ W5 ⟨FF3, rfl, hD5, ch5, no2⟩
  have hM3 := Mur.SetF.mem hD5
  have zz6 := ch5.size
  refine ⟨_, rfl, ?_⟩
  refine Wk.rPure 12 (some 20) (.bool false) rfl rfl (by kernel_rfl) (Wk.boolF (b := ((7 : Int) != (7 : Int))) (bne_eq_false_iff_eq.2 (by decide)) (by kernel_rfl)) ?_
  refine Wk.rPure 13 (some 21) (.bool false) rfl rfl (by kernel_rfl) (by kernel_rfl) ?_
  refine Wk.rPure 14 (some 22) (.bool false) rfl rfl (by kernel_rfl) (by kernel_rfl) ?_
  refine Wk.rPure 15 (some 23) (.pointer (some ⟨w.heap.size, 0, none⟩)) rfl rfl (by kernel_rfl) (by kernel_rfl) ?_
  refine Wk.rCall 16 (some 24) 23 [.tmp 23] #[24] [.pointer (some ⟨w.heap.size, 0, none⟩)] rfl rfl (by kernel_rfl) rfl (by kernel_rfl) (by kernel_rfl) ?_
  refine (Len_any w.heap.size ([Mur.kA]) w.heap.size FF3 W5 hD5).mono ?_
  rintro _ _ ⟨rfl, rfl⟩
  refine ⟨_, rfl, ?_⟩
  refine Wk.rPure 17 (some 25) (.bool false) rfl rfl (by kernel_rfl) (Wk.boolF (b := ((1 : Int) != (1 : Int))) (bne_eq_false_iff_eq.2 (by decide)) (by kernel_rfl)) ?_
  refine Wk.rPure 18 (some 26) (.bool false) rfl rfl (by kernel_rfl) (by kernel_rfl) ?_
  refine Wk.rEnd 19 rfl ?_
  refine Wk.nxt ?_
  refine wp_cond_false (by kernel_rfl) ?_
  refine wp_skip ?_
  refine Wk.nxt ?_
  refine wp_seq ?_
  refine Wk.reg ?_
  refine Wk.rPure 0 (some 28) (.pointer (some ⟨w.heap.size, 0, none⟩)) rfl rfl (by kernel_rfl) (by kernel_rfl) ?_
  refine Wk.rEx 1 (some 29) _ rfl rfl (by kernel_rfl) (Wk.new_ex (.slice (some ⟨W5.heap.size, 0, none⟩) 1 1) #[.int .u8 3] 5 (by kernel_rfl)) ?_
  rintro _ W6 ⟨rfl, hb3, ch6, sz2⟩
  have zz7 := ch6.size
  refine Wk.rCall 2 (some 30) 16 [.tmp 28, .tmp 29] #[24, 38] [.pointer (some ⟨w.heap.size, 0, none⟩), .slice (some ⟨W5.heap.size, 0, none⟩) 1 1] rfl rfl (by kernel_rfl) rfl (by kernel_rfl) (by kernel_rfl) ?_
  have hD6 := Mur.SetF.chg hD5 ch6 (fun s hs => trivial)
  have kk1 : Wk.Chg [] w W1 := Wk.Chg.step ((Wk.Chg.refl _).more (by simp)) ch1 trivial
  have kk2 := Wk.Chg.step kk1 ch2 trivial
  have kk3 := Wk.Chg.step kk2 ch3 ⟨.inr (by omega), trivial⟩
  have kk4 := Wk.Chg.step kk3 ch4 (Mur.newOr_iff.2 (fun t ht => .inr (by have := hM1 t ht; omega)))
  have kk5 := Wk.Chg.step kk4 ch5 (Mur.newOr_iff.2 (fun t ht => .inr (by have := hM2 t ht; omega)))
  have kk6 := Wk.Chg.step kk5 ch6 trivial
  refine (Sum_any w.heap.size ([Mur.kA]) w.heap.size FF3 ([3]) (some ⟨W5.heap.size, 0, none⟩) 1 1 W6 (HV.out.below (Wk.Chg.below0 kk6)) hD6 (Mur.byt_row [3] hb3) (by omega)).mono ?_
  rw [Mur.kA_b3]
  rintro _ W7 ⟨dd1, hd1, hdl1, rfl, ch7⟩
  have zz8 := ch7.size
  refine ⟨_, rfl, ?_⟩
  refine Wk.rPure 3 (some 27) (.tuple #[.agg ((b8s dd1).toArray), .int .i64 1]) rfl rfl (by kernel_rfl) (by kernel_rfl) ?_
  refine Wk.rPure 4 (some 31) (.agg ((b8s dd1).toArray)) rfl rfl (by kernel_rfl) (by kernel_rfl) ?_
  refine Wk.rPure 5 (some 32) (.int .i64 1) rfl rfl (by kernel_rfl) (by kernel_rfl) ?_
  refine Wk.rEx 6 (some 3) _ rfl rfl (by kernel_rfl) (Wk.new_ex (.pointer (some ⟨W7.heap.size, 0, none⟩)) #[.int .u8 0, .int .u8 0, .int .u8 0, .int .u8 0, .int .u8 0, .int .u8 0, .int .u8 0, .int .u8 0, .int .u8 0, .int .u8 0, .int .u8 0, .int .u8 0, .int .u8 0, .int .u8 0, .int .u8 0, .int .u8 0, .int .u8 0, .int .u8 0, .int .u8 0, .int .u8 0, .int .u8 0, .int .u8 0, .int .u8 0, .int .u8 0, .int .u8 0, .int .u8 0, .int .u8 0, .int .u8 0, .int .u8 0, .int .u8 0, .int .u8 0, .int .u8 0] 30 (by kernel_rfl)) ?_
  rintro _ W8 ⟨rfl, hb4, ch8, sz3⟩
  have zz9 := ch8.size
  refine Wk.rExS 7 none _ rfl rfl (by kernel_rfl) (Mur.storeAll 30 (.tmp 3) (.tmp 31) rfl W7.heap.size (by kernel_rfl) dd1 32 hdl1 (by kernel_rfl) (by kernel_rfl) 30 #[.int .u8 0, .int .u8 0, .int .u8 0, .int .u8 0, .int .u8 0, .int .u8 0, .int .u8 0, .int .u8 0, .int .u8 0, .int .u8 0, .int .u8 0, .int .u8 0, .int .u8 0, .int .u8 0, .int .u8 0, .int .u8 0, .int .u8 0, .int .u8 0, .int .u8 0, .int .u8 0, .int .u8 0, .int .u8 0, .int .u8 0, .int .u8 0, .int .u8 0, .int .u8 0, .int .u8 0, .int .u8 0, .int .u8 0, .int .u8 0, .int .u8 0, .int .u8 0] hb4 rfl) ?_
  rintro W9 ⟨hb5, ch9⟩
  have zz10 := ch9.size
  refine Wk.rPure 8 (some 4) (.int .i64 1) rfl rfl (by kernel_rfl) (by kernel_rfl) ?_
  refine Wk.rEnd 9 rfl ?_
  refine Wk.nxt ?_
  refine wp_seq ?_
  refine Wk.reg ?_
  refine Wk.rPure 0 (some 33) (.pointer (some ⟨w.heap.size, 0, none⟩)) rfl rfl (by kernel_rfl) (by kernel_rfl) ?_
  refine Wk.rEx 1 (some 34) _ rfl rfl (by kernel_rfl) (Wk.new_ex (.slice (some ⟨W9.heap.size, 0, none⟩) 1 1) #[.int .u8 3] 5 (by kernel_rfl)) ?_
  rintro _ W10 ⟨rfl, hb6, ch10, sz4⟩
  have zz11 := ch10.size
  refine Wk.rCall 2 (some 35) 18 [.tmp 33, .tmp 34] #[24, 38] [.pointer (some ⟨w.heap.size, 0, none⟩), .slice (some ⟨W9.heap.size, 0, none⟩) 1 1] rfl rfl (by kernel_rfl) rfl (by kernel_rfl) (by kernel_rfl) ?_
  have hD7 := Mur.SetF.chg hD6 ch7 (fun s hs => trivial)
  have hD8 := Mur.SetF.chg hD7 ch8 (fun s hs => trivial)
  have hD9 := Mur.SetF.chg hD8 ch9 (fun s hs => ⟨by have := hM3 s hs; omega, trivial⟩)
  have hD10 := Mur.SetF.chg hD9 ch10 (fun s hs => trivial)
  refine (Below_any w.heap.size ([Mur.kA]) w.heap.size FF3 ([3]) (some ⟨W9.heap.size, 0, none⟩) 1 1 W10 hD10 (Mur.byt_row [3] hb6) (by omega)).mono ?_
  rw [Mur.kA_b3]
  rintro _ W11 ⟨AA1, nn1, nn2, rfl, ow1, ch11⟩
  have zz12 := ch11.size
  have hq1 := ow1.nc
  have hq2 := ow1.cm
  have hq3 := ow1.sl.len
  obtain rfl : nn1 = 1 := ow1.sl.len.symm
  refine ⟨_, rfl, ?_⟩
  refine Wk.rPure 3 (some 36) (.int .i64 1) rfl rfl (by kernel_rfl) (by kernel_rfl) ?_
  refine Wk.rPure 4 (some 37) (.bool true) rfl rfl (by kernel_rfl) (Wk.boolT (b := ((1 : Int) == (1 : Int))) (beq_iff_eq.2 (by decide)) (by kernel_rfl)) ?_
  refine Wk.rPure 5 (some 38) (.bool true) rfl rfl (by kernel_rfl) (by kernel_rfl) ?_
  refine Wk.rPure 6 (some 39) (.pointer (some ⟨w.heap.size, 0, none⟩)) rfl rfl (by kernel_rfl) (by kernel_rfl) ?_
  refine Wk.rEx 7 (some 40) _ rfl rfl (by kernel_rfl) (Wk.new_ex (.slice (some ⟨W11.heap.size, 0, none⟩) 2 2) #[.int .u8 3, .int .u8 15] 5 (by kernel_rfl)) ?_
  rintro _ W12 ⟨rfl, hb7, ch12, sz5⟩
  have zz13 := ch12.size
  refine Wk.rCall 8 (some 41) 18 [.tmp 39, .tmp 40] #[24, 38] [.pointer (some ⟨w.heap.size, 0, none⟩), .slice (some ⟨W11.heap.size, 0, none⟩) 2 2] rfl rfl (by kernel_rfl) rfl (by kernel_rfl) (by kernel_rfl) ?_
  have hD11 := Mur.SetF.chg hD10 ch11 (fun s hs => trivial)
  have hD12 := Mur.SetF.chg hD11 ch12 (fun s hs => trivial)
  refine (Below_any w.heap.size ([Mur.kA]) w.heap.size FF3 ([3, 15]) (some ⟨W11.heap.size, 0, none⟩) 2 2 W12 hD12 (Mur.byt_row [3, 15] hb7) (by omega)).mono ?_
  rw [Mur.kA_b315]
  rintro _ W13 ⟨AA2, nn3, nn4, rfl, ow2, ch13⟩
  have zz14 := ch13.size
  have hq4 := ow2.nc
  have hq5 := ow2.cm
  have hq6 := ow2.sl.len
  obtain rfl : nn3 = 1 := ow2.sl.len.symm
  refine ⟨_, rfl, ?_⟩
  refine Wk.rPure 9 (some 42) (.int .i64 1) rfl rfl (by kernel_rfl) (by kernel_rfl) ?_
  refine Wk.rPure 10 (some 43) (.bool true) rfl rfl (by kernel_rfl) (Wk.boolT (b := ((1 : Int) == (1 : Int))) (beq_iff_eq.2 (by decide)) (by kernel_rfl)) ?_
  refine Wk.rPure 11 (some 44) (.bool true) rfl rfl (by kernel_rfl) (by kernel_rfl) ?_
  refine Wk.rPure 12 (some 45) (.bool true) rfl rfl (by kernel_rfl) (by kernel_rfl) ?_
  refine Wk.rPure 13 (some 46) (.pointer (some ⟨w.heap.size, 0, none⟩)) rfl rfl (by kernel_rfl) (by kernel_rfl) ?_
  refine Wk.rEx 14 (some 47) _ rfl rfl (by kernel_rfl) (Wk.new_ex (.slice (some ⟨W13.heap.size, 0, none⟩) 1 1) #[.int .u8 4] 5 (by kernel_rfl)) ?_
  rintro _ W14 ⟨rfl, hb8, ch14, sz6⟩
  have zz15 := ch14.size
  refine Wk.rCall 15 (some 48) 18 [.tmp 46, .tmp 47] #[24, 38] [.pointer (some ⟨w.heap.size, 0, none⟩), .slice (some ⟨W13.heap.size, 0, none⟩) 1 1] rfl rfl (by kernel_rfl) rfl (by kernel_rfl) (by kernel_rfl) ?_
  have hD13 := Mur.SetF.chg hD12 ch13 (fun s hs => trivial)
  have hD14 := Mur.SetF.chg hD13 ch14 (fun s hs => trivial)
  refine (Below_any w.heap.size ([Mur.kA]) w.heap.size FF3 ([4]) (some ⟨W13.heap.size, 0, none⟩) 1 1 W14 hD14 (Mur.byt_row [4] hb8) (by omega)).mono ?_
  rw [Mur.kA_b4]
  rintro _ W15 ⟨AA3, nn5, nn6, rfl, ow3, ch15⟩
  have zz16 := ch15.size
  have hq7 := ow3.nc
  have hq8 := ow3.cm
  have hq9 := ow3.sl.len
  obtain rfl : nn5 = 0 := ow3.sl.len.symm
  refine ⟨_, rfl, ?_⟩
  refine Wk.rPure 16 (some 49) (.int .i64 0) rfl rfl (by kernel_rfl) (by kernel_rfl) ?_
  refine Wk.rPure 17 (some 50) (.bool true) rfl rfl (by kernel_rfl) (Wk.boolT (b := ((0 : Int) == (0 : Int))) (beq_iff_eq.2 (by decide)) (by kernel_rfl)) ?_
  refine Wk.rPure 18 (some 51) (.bool true) rfl rfl (by kernel_rfl) (by kernel_rfl) ?_
  refine Wk.rPure 19 (some 52) (.bool true) rfl rfl (by kernel_rfl) (by kernel_rfl) ?_
  refine Wk.rPure 20 (some 53) (.int .i64 1) rfl rfl (by kernel_rfl) (by kernel_rfl) ?_
  refine Wk.rPure 21 (some 54) (.bool true) rfl rfl (by kernel_rfl) (Wk.boolT (b := ((1 : Int) == (1 : Int))) (beq_iff_eq.2 (by decide)) (by kernel_rfl)) ?_
  refine Wk.rPure 22 (some 55) (.bool true) rfl rfl (by kernel_rfl) (by kernel_rfl) ?_
  refine Wk.rPure 23 (some 56) (.bool true) rfl rfl (by kernel_rfl) (by kernel_rfl) ?_
  refine Wk.rEx 24 (some 57) _ rfl rfl (by kernel_rfl) (Wk.new_ex (.slice (some ⟨W15.heap.size, 0, none⟩) 1 1) #[.int .u8 15] 5 (by kernel_rfl)) ?_
  rintro _ W16 ⟨rfl, hb9, ch16, sz7⟩
  have zz17 := ch16.size
  refine Wk.rCall 25 (some 58) 19 [.tmp 57] #[38] [.slice (some ⟨W15.heap.size, 0, none⟩) 1 1] rfl rfl (by kernel_rfl) rfl (by kernel_rfl) (by kernel_rfl) ?_
  refine (IsPrefix_any ([15]) (some ⟨W15.heap.size, 0, none⟩) 1 1 W16 (Mur.byt_row [15] hb9) (by omega)).mono ?_
  rw [Mur.pre15]
  rintro _ _ ⟨rfl, rfl⟩
  refine ⟨_, rfl, ?_⟩
  refine Wk.rPure 26 (some 59) (.bool true) rfl rfl (by kernel_rfl) (by kernel_rfl) ?_
  refine Wk.rPure 27 (some 60) (.bool true) rfl rfl (by kernel_rfl) (by kernel_rfl) ?_
  refine Wk.rEx 28 (some 61) _ rfl rfl (by kernel_rfl) (Wk.new_ex (.slice (some ⟨W16.heap.size, 0, none⟩) 1 1) #[.int .u8 16] 5 (by kernel_rfl)) ?_
  rintro _ W17 ⟨rfl, hb10, ch17, sz8⟩
  have zz18 := ch17.size
  refine Wk.rCall 29 (some 62) 19 [.tmp 61] #[38] [.slice (some ⟨W16.heap.size, 0, none⟩) 1 1] rfl rfl (by kernel_rfl) rfl (by kernel_rfl) (by kernel_rfl) ?_
  refine (IsPrefix_any ([16]) (some ⟨W16.heap.size, 0, none⟩) 1 1 W17 (Mur.byt_row [16] hb10) (by omega)).mono ?_
  rw [Mur.pre16]
  rintro _ _ ⟨rfl, rfl⟩
  refine ⟨_, rfl, ?_⟩
  refine Wk.rPure 30 (some 63) (.bool true) rfl rfl (by kernel_rfl) (by kernel_rfl) ?_
  refine Wk.rPure 31 (some 64) (.bool true) rfl rfl (by kernel_rfl) (by kernel_rfl) ?_
  refine Wk.rPure 32 (some 0) (.bool true) rfl rfl (by kernel_rfl) (by kernel_rfl) ?_
  refine Wk.rEnd 33 rfl ?_
  refine Wk.nxt ?_
  refine wp_ret ?_
  have kk7 := Wk.Chg.step kk6 ch7 trivial
  have kk8 := Wk.Chg.step kk7 ch8 trivial
  have kk9 := Wk.Chg.step kk8 ch9 ⟨.inr (by omega), trivial⟩
  have kk10 := Wk.Chg.step kk9 ch10 trivial
  have kk11 := Wk.Chg.step kk10 ch11 trivial
  have kk12 := Wk.Chg.step kk11 ch12 trivial
  have kk13 := Wk.Chg.step kk12 ch13 trivial
  have kk14 := Wk.Chg.step kk13 ch14 trivial
  have kk15 := Wk.Chg.step kk14 ch15 trivial
  have kk16 := Wk.Chg.step kk15 ch16 trivial
  have kk17 := Wk.Chg.step kk16 ch17 trivial
  refine Wk.ret (.bool true) rfl (by kernel_rfl) ?_
  exact ⟨rfl, kk17⟩
end Go.Proofs.YtfhneademopciaaDoor
namespace Mur
theorem mem_take_succ {L : List Att} {j : Nat} {x y : Att} (hx : L[j]? = some x) : y ∈ L.take (j + 1) ↔ y = x ∨ y ∈ L.take j := by
  obtain ⟨h, rfl⟩ := List.getElem?_eq_some_iff.1 hx
  rw [List.take_succ_eq_append_getElem h, List.mem_append, List.mem_singleton]
  exact Or.comm
theorem mem_drop_succ {L : List Att} {j : Nat} {x y : Att} (hx : L[j]? = some x) : y ∈ L.drop j ↔ y = x ∨ y ∈ L.drop (j + 1) := by
  obtain ⟨h, rfl⟩ := List.getElem?_eq_some_iff.1 hx
  rw [List.drop_eq_getElem_cons h, List.mem_cons]
theorem mem_mid_succ {L : List Att} {i k : Nat} {x y : Att} (hx : L[i]? = some x) (hi : i < k) : (y ∈ L.drop k ∨ y ∈ (L.take k).drop i) ↔ y = x ∨ (y ∈ L.drop k ∨ y ∈ (L.take k).drop (i + 1)) := by
  have hx' : (L.take k)[i]? = some x := by rw [List.getElem?_take, if_pos hi]; exact hx
  rw [mem_drop_succ hx']
  constructor
  · rintro (h | h | h)
    · exact .inr (.inl h)
    · exact .inl h
    · exact .inr (.inr h)
  · rintro (h | h | h)
    · exact .inr (.inl h)
    · exact .inl h
    · exact .inr (.inr h)
theorem mem_parts {L : List Att} {k : Nat} {y : Att} : (y ∈ L.drop k ∨ y ∈ L.take k) ↔ y ∈ L := by
  rw [Or.comm, ← List.mem_append, List.take_append_drop]
end Mur
namespace Go.Proofs.YtfhneademopciaaDoor
open Go.RowKit
open Mur (b8s Byt Own8 Seg Segs flat cutA attC Att SlA OwnA rowA)
set_option maxRecDepth 100000
set_option maxHeartbeats 4000000
def Ord20_F1 (b : Array Value) (u0 : Value) (u5 : Value) (u6 : Value) (u7 : Value) (u36 : Value) (u37 : Value) : Act := ⟨#[u0, b.getD 1 undef, b.getD 2 undef, b.getD 3 undef, b.getD 4 undef, u5, u6, u7, b.getD 8 undef, b.getD 9 undef, b.getD 10 undef, b.getD 11 undef, b.getD 12 undef, b.getD 13 undef, b.getD 14 undef, b.getD 15 undef, b.getD 16 undef, b.getD 17 undef, b.getD 18 undef, b.getD 19 undef, b.getD 20 undef, b.getD 21 undef, b.getD 22 undef, b.getD 23 undef, b.getD 24 undef, b.getD 25 undef, b.getD 26 undef, b.getD 27 undef, b.getD 28 undef, b.getD 29 undef, b.getD 30 undef, b.getD 31 undef, b.getD 32 undef, b.getD 33 undef, b.getD 34 undef, b.getD 35 undef, u36, u37, b.getD 38 undef, b.getD 39 undef, b.getD 40 undef, b.getD 41 undef, b.getD 42 undef, b.getD 43 undef, b.getD 44 undef, b.getD 45 undef, b.getD 46 undef, b.getD 47 undef, b.getD 48 undef, b.getD 49 undef, b.getD 50 undef, b.getD 51 undef, b.getD 52 undef, b.getD 53 undef, b.getD 54 undef, b.getD 55 undef, b.getD 56 undef, b.getD 57 undef, b.getD 58 undef, b.getD 59 undef, b.getD 60 undef, b.getD 61 undef, b.getD 62 undef, b.getD 63 undef, b.getD 64 undef, b.getD 65 undef, b.getD 66 undef, b.getD 67 undef, b.getD 68 undef, b.getD 69 undef, b.getD 70 undef, b.getD 71 undef, b.getD 72 undef, b.getD 73 undef, b.getD 74 undef, b.getD 75 undef, b.getD 76 undef, b.getD 77 undef, b.getD 78 undef, b.getD 79 undef, b.getD 80 undef, b.getD 81 undef, b.getD 82 undef, b.getD 83 undef, b.getD 84 undef, b.getD 85 undef, b.getD 86 undef, b.getD 87 undef, b.getD 88 undef, b.getD 89 undef, b.getD 90 undef, b.getD 91 undef, b.getD 92 undef, b.getD 93 undef, b.getD 94 undef, b.getD 95 undef, b.getD 96 undef, b.getD 97 undef, b.getD 98 undef, b.getD 99 undef, b.getD 100 undef], []⟩
def Ord20_F2 (b : Array Value) (u0 : Value) (u5 : Value) (u6 : Value) (u7 : Value) (u9 : Value) : Act := ⟨#[u0, b.getD 1 undef, b.getD 2 undef, b.getD 3 undef, b.getD 4 undef, u5, u6, u7, b.getD 8 undef, u9, b.getD 10 undef, b.getD 11 undef, b.getD 12 undef, b.getD 13 undef, b.getD 14 undef, b.getD 15 undef, b.getD 16 undef, b.getD 17 undef, b.getD 18 undef, b.getD 19 undef, b.getD 20 undef, b.getD 21 undef, b.getD 22 undef, b.getD 23 undef, b.getD 24 undef, b.getD 25 undef, b.getD 26 undef, b.getD 27 undef, b.getD 28 undef, b.getD 29 undef, b.getD 30 undef, b.getD 31 undef, b.getD 32 undef, b.getD 33 undef, b.getD 34 undef, b.getD 35 undef, b.getD 36 undef, b.getD 37 undef, b.getD 38 undef, b.getD 39 undef, b.getD 40 undef, b.getD 41 undef, b.getD 42 undef, b.getD 43 undef, b.getD 44 undef, b.getD 45 undef, b.getD 46 undef, b.getD 47 undef, b.getD 48 undef, b.getD 49 undef, b.getD 50 undef, b.getD 51 undef, b.getD 52 undef, b.getD 53 undef, b.getD 54 undef, b.getD 55 undef, b.getD 56 undef, b.getD 57 undef, b.getD 58 undef, b.getD 59 undef, b.getD 60 undef, b.getD 61 undef, b.getD 62 undef, b.getD 63 undef, b.getD 64 undef, b.getD 65 undef, b.getD 66 undef, b.getD 67 undef, b.getD 68 undef, b.getD 69 undef, b.getD 70 undef, b.getD 71 undef, b.getD 72 undef, b.getD 73 undef, b.getD 74 undef, b.getD 75 undef, b.getD 76 undef, b.getD 77 undef, b.getD 78 undef, b.getD 79 undef, b.getD 80 undef, b.getD 81 undef, b.getD 82 undef, b.getD 83 undef, b.getD 84 undef, b.getD 85 undef, b.getD 86 undef, b.getD 87 undef, b.getD 88 undef, b.getD 89 undef, b.getD 90 undef, b.getD 91 undef, b.getD 92 undef, b.getD 93 undef, b.getD 94 undef, b.getD 95 undef, b.getD 96 undef, b.getD 97 undef, b.getD 98 undef, b.getD 99 undef, b.getD 100 undef], []⟩
def Ord20_F3 (b : Array Value) (u0 : Value) (u5 : Value) (u6 : Value) (u10 : Value) : Act := ⟨#[u0, b.getD 1 undef, b.getD 2 undef, b.getD 3 undef, b.getD 4 undef, u5, u6, b.getD 7 undef, b.getD 8 undef, b.getD 9 undef, u10, b.getD 11 undef, b.getD 12 undef, b.getD 13 undef, b.getD 14 undef, b.getD 15 undef, b.getD 16 undef, b.getD 17 undef, b.getD 18 undef, b.getD 19 undef, b.getD 20 undef, b.getD 21 undef, b.getD 22 undef, b.getD 23 undef, b.getD 24 undef, b.getD 25 undef, b.getD 26 undef, b.getD 27 undef, b.getD 28 undef, b.getD 29 undef, b.getD 30 undef, b.getD 31 undef, b.getD 32 undef, b.getD 33 undef, b.getD 34 undef, b.getD 35 undef, b.getD 36 undef, b.getD 37 undef, b.getD 38 undef, b.getD 39 undef, b.getD 40 undef, b.getD 41 undef, b.getD 42 undef, b.getD 43 undef, b.getD 44 undef, b.getD 45 undef, b.getD 46 undef, b.getD 47 undef, b.getD 48 undef, b.getD 49 undef, b.getD 50 undef, b.getD 51 undef, b.getD 52 undef, b.getD 53 undef, b.getD 54 undef, b.getD 55 undef, b.getD 56 undef, b.getD 57 undef, b.getD 58 undef, b.getD 59 undef, b.getD 60 undef, b.getD 61 undef, b.getD 62 undef, b.getD 63 undef, b.getD 64 undef, b.getD 65 undef, b.getD 66 undef, b.getD 67 undef, b.getD 68 undef, b.getD 69 undef, b.getD 70 undef, b.getD 71 undef, b.getD 72 undef, b.getD 73 undef, b.getD 74 undef, b.getD 75 undef, b.getD 76 undef, b.getD 77 undef, b.getD 78 undef, b.getD 79 undef, b.getD 80 undef, b.getD 81 undef, b.getD 82 undef, b.getD 83 undef, b.getD 84 undef, b.getD 85 undef, b.getD 86 undef, b.getD 87 undef, b.getD 88 undef, b.getD 89 undef, b.getD 90 undef, b.getD 91 undef, b.getD 92 undef, b.getD 93 undef, b.getD 94 undef, b.getD 95 undef, b.getD 96 undef, b.getD 97 undef, b.getD 98 undef, b.getD 99 undef, b.getD 100 undef], []⟩
theorem order20_any (A : Option Addr) (n c : Nat) (L : List Att) (at_ : Int) (w : World) (hv : ShaVars w) (hl : SlA w A n L) (_hnc : n ≤ c ∧ c ≤ 9223372036854775807) : Calls Tryd.prog 3 #[.slice A n c, .int .i64 at_] w fun e w' => e = .returned (.bool true) ∧ Below w.heap.size w w' := by
  have HV := Go.Lib.hid hv
  clear hv
  refine calls_of_wp Tryd.func3 rfl ?_
  refine wp_seq ?_
  refine Wk.reg ?_
  refine Wk.rPure 0 (some 4) (.bool false) rfl rfl (by kernel_rfl) (by kernel_rfl) ?_
  refine Wk.rEnd 1 rfl ?_
  refine Wk.nxt ?_
  refine wp_seq ?_
  refine wp_seq ?_
  refine Wk.reg ?_
  refine Wk.rPure 0 (some 15) (.slice A n c) rfl rfl (by kernel_rfl) (by kernel_rfl) ?_
  refine Wk.rPure 1 (some 16) (.int .i64 ((n : Nat) : Int)) rfl rfl (by kernel_rfl) (by kernel_rfl) ?_
  by_cases hx1 : ((n : Nat) : Int) > (300 : Int)
  · refine Wk.rPure 2 (some 17) (.bool true) rfl rfl (by kernel_rfl) (Wk.boolT (b := decide (((n : Nat) : Int) > (300 : Int))) (decide_eq_true (by first | exact hx1 | omega)) (by kernel_rfl)) ?_
    refine Wk.rEnd 3 rfl ?_
    refine Wk.nxt ?_
    refine wp_cond_true (by kernel_rfl) ?_
    refine wp_seq ?_
    refine Wk.reg ?_
    refine Wk.rCall 0 (some 18) 13 [] #[] [] rfl rfl (by kernel_rfl) rfl (by kernel_rfl) (by kernel_rfl) ?_
    refine (known20_any w HV.out).mono ?_
    rintro _ W1 ⟨rfl, ch1⟩
    have zz1 := ch1.size
    refine ⟨_, rfl, ?_⟩
    refine Wk.rPure 1 (some 4) (.bool true) rfl rfl (by kernel_rfl) (by kernel_rfl) ?_
    refine Wk.rEnd 2 rfl ?_
    refine Wk.nxt ?_
    refine wp_ret ?_
    refine Wk.thR ?_
    have kk1 : Wk.Chg [] w W1 := Wk.Chg.step ((Wk.Chg.refl _).more (by simp)) ch1 trivial
    refine Wk.ret (.bool true) rfl (by kernel_rfl) ?_
    exact ⟨rfl, Wk.Chg.below0 kk1⟩
  · refine Wk.rPure 2 (some 17) (.bool false) rfl rfl (by kernel_rfl) (Wk.boolF (b := decide (((n : Nat) : Int) > (300 : Int))) (decide_eq_false (by first | exact hx1 | omega)) (by kernel_rfl)) ?_
    refine Wk.rEnd 3 rfl ?_
    refine Wk.nxt ?_
    refine wp_cond_false (by kernel_rfl) ?_
    refine wp_skip ?_
    refine Wk.nxt ?_
    refine wp_seq ?_
    refine Wk.reg ?_
    refine Wk.rCall 0 (some 19) 14 [] #[] [] rfl rfl (by kernel_rfl) rfl (by kernel_rfl) (by kernel_rfl) ?_
    refine (New_any w).mono ?_
    rintro _ W2 ⟨FF1, rfl, hD1, ch2⟩
    have hM1 := Mur.SetF.mem hD1
    have zz2 := (hM1 _ (Mur.SetF.self hD1)).2
    have zz3 := ch2.size
    refine ⟨_, rfl, ?_⟩
    refine Wk.rCall 1 (some 20) 14 [] #[] [] rfl rfl (by kernel_rfl) rfl (by kernel_rfl) (by kernel_rfl) ?_
    refine (New_any W2).mono ?_
    rintro _ W3 ⟨FF2, rfl, hD2, ch3⟩
    have hM2 := Mur.SetF.mem hD2
    have zz4 := (hM2 _ (Mur.SetF.self hD2)).2
    have zz5 := ch3.size
    have jj1 : Mur.Dj FF2 FF1 := fun s h1 h2 => by have := hM2 s h1; have := hM1 s h2; omega
    have jj2 : Mur.Dj FF1 FF2 := fun s h1 h2 => jj1 s h2 h1
    refine ⟨_, rfl, ?_⟩
    refine Wk.rPure 2 (some 5) (.pointer (some ⟨w.heap.size, 0, none⟩)) rfl rfl (by kernel_rfl) (by kernel_rfl) ?_
    refine Wk.rPure 3 (some 6) (.pointer (some ⟨W2.heap.size, 0, none⟩)) rfl rfl (by kernel_rfl) (by kernel_rfl) ?_
    refine Wk.rEnd 4 rfl ?_
    refine Wk.nxt ?_
    refine wp_seq ?_
    refine wp_seq ?_
    refine Wk.reg ?_
    refine Wk.rPure 0 (some 21) (.pointer (some ⟨w.heap.size, 0, none⟩)) rfl rfl (by kernel_rfl) (by kernel_rfl) ?_
    refine Wk.rPure 1 (some 22) (.bool false) rfl rfl (by kernel_rfl) (by kernel_rfl) ?_
    refine Wk.rPure 2 (some 23) (.bool false) rfl rfl (by kernel_rfl) (by kernel_rfl) ?_
    refine Wk.rPure 3 (some 24) (.pointer (some ⟨W2.heap.size, 0, none⟩)) rfl rfl (by kernel_rfl) (by kernel_rfl) ?_
    refine Wk.rPure 4 (some 25) (.bool false) rfl rfl (by kernel_rfl) (by kernel_rfl) ?_
    refine Wk.rPure 5 (some 26) (.bool false) rfl rfl (by kernel_rfl) (by kernel_rfl) ?_
    refine Wk.rEnd 6 rfl ?_
    refine Wk.nxt ?_
    refine wp_cond_false (by kernel_rfl) ?_
    refine wp_skip ?_
    refine Wk.nxt ?_
    refine wp_seq ?_
    refine Wk.reg ?_
    refine Wk.rPure 0 (some 27) (.int .i64 at_) rfl rfl (by kernel_rfl) (by kernel_rfl) ?_
    refine Wk.rPure 1 (some 28) (.int .u64 ((Mur.u64n at_ : Nat) : Int)) rfl rfl (by kernel_rfl) (Mur.conv_u64n 3 26 (.tmp 27) rfl (by kernel_rfl) Tryd.underlying26 .i64 at_ (by kernel_rfl)) ?_
    refine Wk.rPure 2 (some 29) (.slice A n c) rfl rfl (by kernel_rfl) (by kernel_rfl) ?_
    refine Wk.rPure 3 (some 30) (.int .i64 ((n : Nat) : Int)) rfl rfl (by kernel_rfl) (by kernel_rfl) ?_
    refine Wk.rPure 4 (some 31) (.int .i64 ((n + 1 : Nat) : Int)) rfl rfl (by kernel_rfl) (Wk.int64 (n := ((n : Nat) : Int) + 1) (z := ((n + 1 : Nat) : Int)) (by omega) (by omega) (by omega) (by kernel_rfl)) ?_
    refine Wk.rPure 5 (some 32) (.int .u64 ((n + 1 : Nat) : Int)) rfl rfl (by kernel_rfl) (Mur.conv_int 3 26 (.tmp 31) rfl (by kernel_rfl) .u64 Tryd.underlying26 .i64 ((n + 1 : Nat) : Int) (by kernel_rfl) (Mur.u64_nat (by omega))) ?_
    obtain ⟨k0, hk0⟩ : ∃ k0, Mur.u64n at_ % (n + 1) = k0 := ⟨_, rfl⟩
    have hk0n : k0 ≤ n := by have := Nat.mod_lt (Mur.u64n at_) (show 0 < n + 1 by omega); omega
    refine Wk.rPure 6 (some 33) (.int .u64 ((k0 : Nat) : Int)) rfl rfl (by kernel_rfl) (Wk.val (congrArg (fun z : Nat => Value.int .u64 (z : Int)) hk0) (Mur.rem_u64 26 26 (.tmp 28) (.tmp 32) rfl (Mur.u64n at_) (n + 1) (by kernel_rfl) (by kernel_rfl) (by omega))) ?_
    refine Wk.rPure 7 (some 34) (.int .i64 ((k0 : Nat) : Int)) rfl rfl (by kernel_rfl) (Mur.conv_int 26 3 (.tmp 33) rfl (by kernel_rfl) .i64 Tryd.underlying3 .u64 ((k0 : Nat) : Int) (by kernel_rfl) (Mur.i64_nat (by omega))) ?_
    refine Wk.rPure 8 (some 7) (.int .i64 ((k0 : Nat) : Int)) rfl rfl (by kernel_rfl) (by kernel_rfl) ?_
    refine Wk.rEnd 9 rfl ?_
    refine Wk.nxt ?_
    refine wp_seq ?_
    refine wp_seq ?_
    refine Wk.reg ?_
    refine Wk.rPure 0 (some 35) (.slice A n c) rfl rfl (by kernel_rfl) (by kernel_rfl) ?_
    refine Wk.rPure 1 (some 36) (.int .i64 ((n : Nat) : Int)) rfl rfl (by kernel_rfl) (by kernel_rfl) ?_
    refine Wk.rPure 2 (some 37) (.int .i64 0) rfl rfl (by kernel_rfl) (by kernel_rfl) ?_
    refine Wk.rEnd 3 rfl ?_
    refine Wk.nxt ?_
    refine wp_block ?_
    refine Wk.loop (fun m_ a wr => ∃ (j : Nat) (L1 : List Att) (F1 : List Nat) (L2 : List Att) (F2 : List Nat), m_ = n - j ∧ a = Ord20_F1 a.tmps (.slice A n c) (.pointer (some ⟨w.heap.size, 0, none⟩)) (.pointer (some ⟨W2.heap.size, 0, none⟩)) (.int .i64 ((k0 : Nat) : Int)) (.int .i64 ((n : Nat) : Int)) (.int .i64 ((j : Nat) : Int)) ∧ j ≤ n ∧ Mur.Canon (fun y_ => y_ ∈ L.take j) L1 ∧ Mur.Canon (fun _ => False) L2 ∧ Mur.SetF 32 57 w.heap.size wr w.heap.size L1 F1 ∧ Mur.SetF 32 57 W2.heap.size wr W2.heap.size L2 F2 ∧ Mur.Dj F1 F2 ∧ Wk.Chg [] w wr) (n - 0) ?_ ?_
    · have hD3 := Mur.SetF.chg hD1 ch3 (fun s hs => trivial)
      have kk2 : Wk.Chg [] w W2 := Wk.Chg.step ((Wk.Chg.refl _).more (by simp)) ch2 trivial
      have kk3 := Wk.Chg.step kk2 ch3 trivial
      refine ⟨0, [], FF1, [], FF2, rfl, by kernel_rfl, (by omega), (by simpa using Mur.Canon.nil), Mur.Canon.nil, hD3, hD2, jj2, kk3⟩
    · rintro mm1 aa1 W4 ⟨j, L1, F1, L2, F2, hmm1, hF1, hj, hc1, hc2, hD1, hD2, hJ12, HB⟩
      generalize aa1.tmps = bb1 at hF1
      subst hF1
      have hM1 := Mur.SetF.mem hD1
      have hg1_ := (hM1 _ (Mur.SetF.self hD1)).2
      have hM2 := Mur.SetF.mem hD2
      have hg2_ := (hM2 _ (Mur.SetF.self hD2)).2
      have hJ21 : Mur.Dj F2 F1 := fun s h1 h2 => hJ12 s h2 h1
      have hzB := HB.size
      have hlL := hl.len
      by_cases hlt : j < n
      · obtain ⟨g_x, o_x, rfl, _⟩ := hl.ex (by omega)
        obtain ⟨x, hx⟩ : ∃ x, L[j]? = some x := ⟨_, List.getElem?_eq_getElem (by have := hl.len; omega)⟩
        refine wp_seq ?_
        refine Wk.reg ?_
        refine Wk.rPure 0 (some 38) (.bool true) rfl rfl (by kernel_rfl) (Wk.boolT (b := decide (((j : Nat) : Int) < ((n : Nat) : Int))) (decide_eq_true (by omega)) (by kernel_rfl)) ?_
        refine Wk.rEnd 1 rfl ?_
        refine Wk.nxt ?_
        refine wp_seq ?_
        refine wp_cond_true (by kernel_rfl) ?_
        refine wp_skip ?_
        refine Wk.nxt ?_
        refine wp_seq ?_
        refine wp_block ?_
        refine wp_seq ?_
        refine Wk.reg ?_
        refine Wk.rPure 0 (some 39) (.int .i64 ((j : Nat) : Int)) rfl rfl (by kernel_rfl) (by kernel_rfl) ?_
        refine Wk.rPure 1 (some 8) (.int .i64 ((j : Nat) : Int)) rfl rfl (by kernel_rfl) (by kernel_rfl) ?_
        refine Wk.rEnd 2 rfl ?_
        refine Wk.nxt ?_
        refine Wk.reg ?_
        refine Wk.rPure 0 (some 40) (.pointer (some ⟨w.heap.size, 0, none⟩)) rfl rfl (by kernel_rfl) (by kernel_rfl) ?_
        refine Wk.rPure 1 (some 41) (.slice (some ⟨g_x, o_x, none⟩) n c) rfl rfl (by kernel_rfl) (by kernel_rfl) ?_
        refine Wk.rPure 2 (some 42) (.int .i64 ((j : Nat) : Int)) rfl rfl (by kernel_rfl) (by kernel_rfl) ?_
        refine Wk.rPure 3 (some 43) (.pointer (some ⟨g_x, o_x + j * 97, none⟩)) rfl rfl (by kernel_rfl) (Wk.index_sl 22 32 (.tmp 41) (.tmp 42) rfl Tryd.underlying22 97 (by kernel_rfl) g_x o_x n c j .i64 (by kernel_rfl) (by kernel_rfl) (by omega)) ?_
        refine Wk.rPure 4 (some 44) (.agg ((Mur.attC x.k x.r x.n x.t).toArray)) rfl rfl (by kernel_rfl) (Wk.loadR 32 (.tmp 43) rfl _ Tryd.underlying32 rfl g_x (o_x + j * 97) (by kernel_rfl) (Mur.attC x.k x.r x.n x.t) (by rw [Mur.attC_length x.hk x.hr x.ht]; kernel_rfl) ((Mur.SlA.chg hl HB (fun g off e hl => trivial)).elem hx)) ?_
        refine Wk.rCall 5 (some 45) 15 [.tmp 40, .tmp 44] #[24, 32] [.pointer (some ⟨w.heap.size, 0, none⟩), .agg ((Mur.attC x.k x.r x.n x.t).toArray)] rfl rfl (by kernel_rfl) rfl (by kernel_rfl) (by kernel_rfl) ?_
        refine (Add_any w.heap.size L1 w.heap.size F1 x W4 hD1).mono ?_
        rintro _ W5 ⟨FF3, rfl, hD4, ch4, no1⟩
        have hM3 := Mur.SetF.mem hD4
        have zz6 := ch4.size
        have hD5 := Mur.SetF.chg hD2 ch4 (fun s hs => Mur.Dj.off1 hJ12 hs)
        have jj3 : Mur.Dj FF3 F2 := fun s hs ht => by
          rcases Mur.newOr_iff.1 no1 s hs with h1 | h1
          · exact hJ12 s h1 ht
          · have := hM2 s ht; omega
        have jj4 : Mur.Dj F2 FF3 := fun s hs ht => jj3 s ht hs
        refine ⟨_, rfl, ?_⟩
        refine Wk.rEnd 6 rfl ?_
        refine Wk.inN ?_
        refine Wk.nxt ?_
        refine Wk.reg ?_
        refine Wk.rPure 0 (some 46) (.int .i64 ((j + 1 : Nat) : Int)) rfl rfl (by kernel_rfl) (Wk.int64 (n := ((j : Nat) : Int) + 1) (z := ((j + 1 : Nat) : Int)) (by omega) (by omega) (by omega) (by kernel_rfl)) ?_
        refine Wk.rPure 1 (some 37) (.int .i64 ((j + 1 : Nat) : Int)) rfl rfl (by kernel_rfl) (by kernel_rfl) ?_
        refine Wk.rEnd 2 rfl ?_
        refine Wk.nxt ?_
        have kk4 := Wk.Chg.step HB ch4 (Mur.newOr_iff.2 (fun t ht => .inr (by have := hM1 t ht; omega)))
        refine ⟨_, ?_, j + 1, (Mur.addS x L1).1, FF3, L2, F2, rfl, by kernel_rfl, (by omega), ((hc1.add x).iff fun y_ => (Mur.mem_take_succ hx).symm), hc2, hD4, hD5, jj3, kk4⟩
        · omega
      · replace hc1 := hc1.iff (Y := fun y_ => y_ ∈ L) fun y_ => by rw [List.take_of_length_le (by omega)]
        refine wp_seq ?_
        refine Wk.reg ?_
        refine Wk.rPure 0 (some 38) (.bool false) rfl rfl (by kernel_rfl) (Wk.boolF (b := decide (((j : Nat) : Int) < ((n : Nat) : Int))) (decide_eq_false (by omega)) (by kernel_rfl)) ?_
        refine Wk.rEnd 1 rfl ?_
        refine Wk.nxt ?_
        refine wp_seq ?_
        refine wp_cond_false (by kernel_rfl) ?_
        refine wp_exit ?_
        refine Wk.thX ?_
        refine Wk.thX ?_
        refine Wk.inX ?_
        refine Wk.nxt ?_
        refine wp_seq ?_
        refine wp_seq ?_
        refine Wk.reg ?_
        refine Wk.rPure 0 (some 47) (.slice A n c) rfl rfl (by kernel_rfl) (by kernel_rfl) ?_
        refine Wk.rPure 1 (some 48) (.int .i64 ((n : Nat) : Int)) rfl rfl (by kernel_rfl) (by kernel_rfl) ?_
        refine Wk.rPure 2 (some 49) (.int .i64 (((n : Nat) : Int) - 1)) rfl rfl (by kernel_rfl) (Wk.int64 (n := ((n : Nat) : Int) - 1) (z := ((n : Nat) : Int) - 1) (by omega) (by omega) (by omega) (by kernel_rfl)) ?_
        refine Wk.rPure 3 (some 9) (.int .i64 (((n : Nat) : Int) - 1)) rfl rfl (by kernel_rfl) (by kernel_rfl) ?_
        refine Wk.rEnd 4 rfl ?_
        refine Wk.nxt ?_
        refine wp_block ?_
        refine Wk.loop (fun m_ a wr => ∃ (j : Nat) (L1 : List Att) (F1 : List Nat) (L2 : List Att) (F2 : List Nat), m_ = j - k0 ∧ a = Ord20_F2 a.tmps (.slice A n c) (.pointer (some ⟨w.heap.size, 0, none⟩)) (.pointer (some ⟨W2.heap.size, 0, none⟩)) (.int .i64 ((k0 : Nat) : Int)) (.int .i64 (((j : Nat) : Int) - 1)) ∧ (k0 ≤ j ∧ j ≤ n) ∧ Mur.Canon (fun y_ => y_ ∈ L) L1 ∧ Mur.Canon (fun y_ => y_ ∈ L.drop j) L2 ∧ Mur.SetF 32 57 w.heap.size wr w.heap.size L1 F1 ∧ Mur.SetF 32 57 W2.heap.size wr W2.heap.size L2 F2 ∧ Mur.Dj F1 F2 ∧ Wk.Chg [] w wr) (n - k0) ?_ ?_
        · refine ⟨n, L1, F1, L2, F2, rfl, by kernel_rfl, (by omega), hc1, (hc2.iff fun y_ => by rw [List.drop_of_length_le (by have := hl.len; omega)]; simp), hD1, hD2, hJ12, HB⟩
        · rintro mm2 aa2 W6 ⟨j, L1, F1, L2, F2, hmm2, hF2, hj, hc1, hc2, hD1, hD2, hJ12, HB⟩
          generalize aa2.tmps = bb2 at hF2
          subst hF2
          have hM1 := Mur.SetF.mem hD1
          have hg1_ := (hM1 _ (Mur.SetF.self hD1)).2
          have hM2 := Mur.SetF.mem hD2
          have hg2_ := (hM2 _ (Mur.SetF.self hD2)).2
          have hJ21 : Mur.Dj F2 F1 := fun s h1 h2 => hJ12 s h2 h1
          have hzB := HB.size
          have hlL := hl.len
          by_cases hlt : k0 < j
          · obtain ⟨i, rfl⟩ : ∃ i, j = i + 1 := ⟨j - 1, by omega⟩
            obtain ⟨g_x, o_x, rfl, _⟩ := hl.ex (by omega)
            obtain ⟨x, hx⟩ : ∃ x, L[i]? = some x := ⟨_, List.getElem?_eq_getElem (by have := hl.len; omega)⟩
            refine wp_seq ?_
            refine wp_seq ?_
            refine Wk.reg ?_
            refine Wk.rPure 0 (some 50) (.int .i64 (((i + 1 : Nat) : Int) - 1)) rfl rfl (by kernel_rfl) (by kernel_rfl) ?_
            refine Wk.rPure 1 (some 51) (.int .i64 ((k0 : Nat) : Int)) rfl rfl (by kernel_rfl) (by kernel_rfl) ?_
            refine Wk.rPure 2 (some 52) (.bool true) rfl rfl (by kernel_rfl) (Wk.boolT (b := decide ((((i + 1 : Nat) : Int) - 1) ≥ ((k0 : Nat) : Int))) (decide_eq_true (by omega)) (by kernel_rfl)) ?_
            refine Wk.rEnd 3 rfl ?_
            refine Wk.nxt ?_
            refine wp_cond_true (by kernel_rfl) ?_
            refine wp_skip ?_
            refine Wk.nxt ?_
            refine wp_seq ?_
            refine wp_block ?_
            refine Wk.reg ?_
            refine Wk.rPure 0 (some 55) (.pointer (some ⟨W2.heap.size, 0, none⟩)) rfl rfl (by kernel_rfl) (by kernel_rfl) ?_
            refine Wk.rPure 1 (some 56) (.slice (some ⟨g_x, o_x, none⟩) n c) rfl rfl (by kernel_rfl) (by kernel_rfl) ?_
            refine Wk.rPure 2 (some 57) (.int .i64 ((i : Nat) : Int)) rfl rfl (by kernel_rfl) (Wk.val (v := .int .i64 (((i + 1 : Nat) : Int) - 1)) (congrArg (Value.int .i64) (by omega)) (by kernel_rfl)) ?_
            refine Wk.rPure 3 (some 58) (.pointer (some ⟨g_x, o_x + i * 97, none⟩)) rfl rfl (by kernel_rfl) (Wk.index_sl 22 32 (.tmp 56) (.tmp 57) rfl Tryd.underlying22 97 (by kernel_rfl) g_x o_x n c i .i64 (by kernel_rfl) (by kernel_rfl) (by omega)) ?_
            refine Wk.rPure 4 (some 59) (.agg ((Mur.attC x.k x.r x.n x.t).toArray)) rfl rfl (by kernel_rfl) (Wk.loadR 32 (.tmp 58) rfl _ Tryd.underlying32 rfl g_x (o_x + i * 97) (by kernel_rfl) (Mur.attC x.k x.r x.n x.t) (by rw [Mur.attC_length x.hk x.hr x.ht]; kernel_rfl) ((Mur.SlA.chg hl HB (fun g off e hl => trivial)).elem hx)) ?_
            refine Wk.rCall 5 (some 60) 15 [.tmp 55, .tmp 59] #[24, 32] [.pointer (some ⟨W2.heap.size, 0, none⟩), .agg ((Mur.attC x.k x.r x.n x.t).toArray)] rfl rfl (by kernel_rfl) rfl (by kernel_rfl) (by kernel_rfl) ?_
            refine (Add_any W2.heap.size L2 W2.heap.size F2 x W6 hD2).mono ?_
            rintro _ W7 ⟨FF4, rfl, hD6, ch5, no2⟩
            have hM4 := Mur.SetF.mem hD6
            have zz7 := ch5.size
            have hD7 := Mur.SetF.chg hD1 ch5 (fun s hs => Mur.Dj.off1 hJ21 hs)
            have jj5 : Mur.Dj FF4 F1 := fun s hs ht => by
              rcases Mur.newOr_iff.1 no2 s hs with h1 | h1
              · exact hJ21 s h1 ht
              · have := hM1 s ht; omega
            have jj6 : Mur.Dj F1 FF4 := fun s hs ht => jj5 s ht hs
            refine ⟨_, rfl, ?_⟩
            refine Wk.rEnd 6 rfl ?_
            refine Wk.inN ?_
            refine Wk.nxt ?_
            refine Wk.reg ?_
            refine Wk.rPure 0 (some 53) (.int .i64 (((i + 1 : Nat) : Int) - 1)) rfl rfl (by kernel_rfl) (by kernel_rfl) ?_
            refine Wk.rPure 1 (some 54) (.int .i64 (((i : Nat) : Int) - 1)) rfl rfl (by kernel_rfl) (Wk.int64 (n := ((i + 1 : Nat) : Int) - 1 - 1) (z := ((i : Nat) : Int) - 1) (by omega) (by omega) (by omega) (by kernel_rfl)) ?_
            refine Wk.rPure 2 (some 9) (.int .i64 (((i : Nat) : Int) - 1)) rfl rfl (by kernel_rfl) (by kernel_rfl) ?_
            refine Wk.rEnd 3 rfl ?_
            refine Wk.nxt ?_
            have kk5 := Wk.Chg.step HB ch5 (Mur.newOr_iff.2 (fun t ht => .inr (by have := hM2 t ht; omega)))
            refine ⟨_, ?_, i, L1, F1, (Mur.addS x L2).1, FF4, rfl, by kernel_rfl, (by omega), hc1, ((hc2.add x).iff fun y_ => (Mur.mem_drop_succ hx).symm), hD7, hD6, jj6, kk5⟩
            · omega
          · refine wp_seq ?_
            refine wp_seq ?_
            refine Wk.reg ?_
            refine Wk.rPure 0 (some 50) (.int .i64 (((j : Nat) : Int) - 1)) rfl rfl (by kernel_rfl) (by kernel_rfl) ?_
            refine Wk.rPure 1 (some 51) (.int .i64 ((k0 : Nat) : Int)) rfl rfl (by kernel_rfl) (by kernel_rfl) ?_
            refine Wk.rPure 2 (some 52) (.bool false) rfl rfl (by kernel_rfl) (Wk.boolF (b := decide ((((j : Nat) : Int) - 1) ≥ ((k0 : Nat) : Int))) (decide_eq_false (by omega)) (by kernel_rfl)) ?_
            refine Wk.rEnd 3 rfl ?_
            refine Wk.nxt ?_
            refine wp_cond_false (by kernel_rfl) ?_
            refine wp_exit ?_
            refine Wk.thX ?_
            refine Wk.thX ?_
            refine Wk.inX ?_
            refine Wk.nxt ?_
            refine wp_seq ?_
            refine wp_seq ?_
            refine Wk.reg ?_
            refine Wk.rPure 0 (some 61) (.int .i64 ((k0 : Nat) : Int)) rfl rfl (by kernel_rfl) (by kernel_rfl) ?_
            refine Wk.rPure 1 (some 62) (.int .i64 (((k0 : Nat) : Int) - 1)) rfl rfl (by kernel_rfl) (Wk.int64 (n := ((k0 : Nat) : Int) - 1) (z := ((k0 : Nat) : Int) - 1) (by omega) (by omega) (by omega) (by kernel_rfl)) ?_
            refine Wk.rPure 2 (some 10) (.int .i64 (((k0 : Nat) : Int) - 1)) rfl rfl (by kernel_rfl) (by kernel_rfl) ?_
            refine Wk.rEnd 3 rfl ?_
            refine Wk.nxt ?_
            refine wp_block ?_
            refine Wk.loop (fun m_ a wr => ∃ (j : Nat) (L1 : List Att) (F1 : List Nat) (L2 : List Att) (F2 : List Nat), m_ = j ∧ a = Ord20_F3 a.tmps (.slice A n c) (.pointer (some ⟨w.heap.size, 0, none⟩)) (.pointer (some ⟨W2.heap.size, 0, none⟩)) (.int .i64 (((j : Nat) : Int) - 1)) ∧ j ≤ k0 ∧ Mur.Canon (fun y_ => y_ ∈ L) L1 ∧ Mur.Canon (fun y_ => y_ ∈ L.drop k0 ∨ y_ ∈ (L.take k0).drop j) L2 ∧ Mur.SetF 32 57 w.heap.size wr w.heap.size L1 F1 ∧ Mur.SetF 32 57 W2.heap.size wr W2.heap.size L2 F2 ∧ Mur.Dj F1 F2 ∧ Wk.Chg [] w wr) (k0) ?_ ?_
            · refine ⟨k0, L1, F1, L2, F2, rfl, by kernel_rfl, (by omega), hc1, (hc2.iff fun y_ => by have e_ : (L.take k0).drop k0 = [] := List.drop_of_length_le (by rw [List.length_take]; omega); have e2_ : j = k0 := (by omega); rw [e_, e2_]; simp), hD1, hD2, hJ12, HB⟩
            · rintro mm3 aa3 W8 ⟨j, L1, F1, L2, F2, hmm3, hF3, hj, hc1, hc2, hD1, hD2, hJ12, HB⟩
              generalize aa3.tmps = bb3 at hF3
              subst hF3
              have hM1 := Mur.SetF.mem hD1
              have hg1_ := (hM1 _ (Mur.SetF.self hD1)).2
              have hM2 := Mur.SetF.mem hD2
              have hg2_ := (hM2 _ (Mur.SetF.self hD2)).2
              have hJ21 : Mur.Dj F2 F1 := fun s h1 h2 => hJ12 s h2 h1
              have hzB := HB.size
              have hlL := hl.len
              by_cases hlt : 0 < j
              · obtain ⟨i, rfl⟩ : ∃ i, j = i + 1 := ⟨j - 1, by omega⟩
                obtain ⟨g_x, o_x, rfl, _⟩ := hl.ex (by omega)
                obtain ⟨x, hx⟩ : ∃ x, L[i]? = some x := ⟨_, List.getElem?_eq_getElem (by have := hl.len; omega)⟩
                refine wp_seq ?_
                refine wp_seq ?_
                refine Wk.reg ?_
                refine Wk.rPure 0 (some 63) (.int .i64 (((i + 1 : Nat) : Int) - 1)) rfl rfl (by kernel_rfl) (by kernel_rfl) ?_
                refine Wk.rPure 1 (some 64) (.bool true) rfl rfl (by kernel_rfl) (Wk.boolT (b := decide ((((i + 1 : Nat) : Int) - 1) ≥ (0 : Int))) (decide_eq_true (by omega)) (by kernel_rfl)) ?_
                refine Wk.rEnd 2 rfl ?_
                refine Wk.nxt ?_
                refine wp_cond_true (by kernel_rfl) ?_
                refine wp_skip ?_
                refine Wk.nxt ?_
                refine wp_seq ?_
                refine wp_block ?_
                refine Wk.reg ?_
                refine Wk.rPure 0 (some 67) (.pointer (some ⟨W2.heap.size, 0, none⟩)) rfl rfl (by kernel_rfl) (by kernel_rfl) ?_
                refine Wk.rPure 1 (some 68) (.slice (some ⟨g_x, o_x, none⟩) n c) rfl rfl (by kernel_rfl) (by kernel_rfl) ?_
                refine Wk.rPure 2 (some 69) (.int .i64 ((i : Nat) : Int)) rfl rfl (by kernel_rfl) (Wk.val (v := .int .i64 (((i + 1 : Nat) : Int) - 1)) (congrArg (Value.int .i64) (by omega)) (by kernel_rfl)) ?_
                refine Wk.rPure 3 (some 70) (.pointer (some ⟨g_x, o_x + i * 97, none⟩)) rfl rfl (by kernel_rfl) (Wk.index_sl 22 32 (.tmp 68) (.tmp 69) rfl Tryd.underlying22 97 (by kernel_rfl) g_x o_x n c i .i64 (by kernel_rfl) (by kernel_rfl) (by omega)) ?_
                refine Wk.rPure 4 (some 71) (.agg ((Mur.attC x.k x.r x.n x.t).toArray)) rfl rfl (by kernel_rfl) (Wk.loadR 32 (.tmp 70) rfl _ Tryd.underlying32 rfl g_x (o_x + i * 97) (by kernel_rfl) (Mur.attC x.k x.r x.n x.t) (by rw [Mur.attC_length x.hk x.hr x.ht]; kernel_rfl) ((Mur.SlA.chg hl HB (fun g off e hl => trivial)).elem hx)) ?_
                refine Wk.rCall 5 (some 72) 15 [.tmp 67, .tmp 71] #[24, 32] [.pointer (some ⟨W2.heap.size, 0, none⟩), .agg ((Mur.attC x.k x.r x.n x.t).toArray)] rfl rfl (by kernel_rfl) rfl (by kernel_rfl) (by kernel_rfl) ?_
                refine (Add_any W2.heap.size L2 W2.heap.size F2 x W8 hD2).mono ?_
                rintro _ W9 ⟨FF5, rfl, hD8, ch6, no3⟩
                have hM5 := Mur.SetF.mem hD8
                have zz8 := ch6.size
                have hD9 := Mur.SetF.chg hD1 ch6 (fun s hs => Mur.Dj.off1 hJ21 hs)
                have jj7 : Mur.Dj FF5 F1 := fun s hs ht => by
                  rcases Mur.newOr_iff.1 no3 s hs with h1 | h1
                  · exact hJ21 s h1 ht
                  · have := hM1 s ht; omega
                have jj8 : Mur.Dj F1 FF5 := fun s hs ht => jj7 s ht hs
                refine ⟨_, rfl, ?_⟩
                refine Wk.rEnd 6 rfl ?_
                refine Wk.inN ?_
                refine Wk.nxt ?_
                refine Wk.reg ?_
                refine Wk.rPure 0 (some 65) (.int .i64 (((i + 1 : Nat) : Int) - 1)) rfl rfl (by kernel_rfl) (by kernel_rfl) ?_
                refine Wk.rPure 1 (some 66) (.int .i64 (((i : Nat) : Int) - 1)) rfl rfl (by kernel_rfl) (Wk.int64 (n := ((i + 1 : Nat) : Int) - 1 - 1) (z := ((i : Nat) : Int) - 1) (by omega) (by omega) (by omega) (by kernel_rfl)) ?_
                refine Wk.rPure 2 (some 10) (.int .i64 (((i : Nat) : Int) - 1)) rfl rfl (by kernel_rfl) (by kernel_rfl) ?_
                refine Wk.rEnd 3 rfl ?_
                refine Wk.nxt ?_
                have kk6 := Wk.Chg.step HB ch6 (Mur.newOr_iff.2 (fun t ht => .inr (by have := hM2 t ht; omega)))
                refine ⟨_, ?_, i, L1, F1, (Mur.addS x L2).1, FF5, rfl, by kernel_rfl, (by omega), hc1, ((hc2.add x).iff fun y_ => (Mur.mem_mid_succ hx (by omega)).symm), hD9, hD8, jj8, kk6⟩
                · omega
              · have hEq : L1 = L2 := hc1.uniq (hc2.iff fun y_ => by rw [show j = 0 by omega, List.drop_zero]; exact Mur.mem_parts)
                subst hEq
                refine wp_seq ?_
                refine wp_seq ?_
                refine Wk.reg ?_
                refine Wk.rPure 0 (some 63) (.int .i64 (((j : Nat) : Int) - 1)) rfl rfl (by kernel_rfl) (by kernel_rfl) ?_
                refine Wk.rPure 1 (some 64) (.bool false) rfl rfl (by kernel_rfl) (Wk.boolF (b := decide ((((j : Nat) : Int) - 1) ≥ (0 : Int))) (decide_eq_false (by omega)) (by kernel_rfl)) ?_
                refine Wk.rEnd 2 rfl ?_
                refine Wk.nxt ?_
                refine wp_cond_false (by kernel_rfl) ?_
                refine wp_exit ?_
                refine Wk.thX ?_
                refine Wk.thX ?_
                refine Wk.inX ?_
                refine Wk.nxt ?_
                refine wp_seq ?_
                refine Wk.reg ?_
                refine Wk.rPure 0 (some 74) (.pointer (some ⟨w.heap.size, 0, none⟩)) rfl rfl (by kernel_rfl) (by kernel_rfl) ?_
                refine Wk.rCall 1 (some 75) 16 [.tmp 74, .const (.slice none 0 0)] #[24, 38] [.pointer (some ⟨w.heap.size, 0, none⟩), .slice none 0 0] rfl rfl (by kernel_rfl) rfl (by kernel_rfl) (by kernel_rfl) ?_
                refine (Sum_any w.heap.size L1 w.heap.size F1 ([]) none 0 0 W8 (HV.out.below (Wk.Chg.below0 HB)) hD1 (Byt.nil _ none) (by omega)).mono ?_
                rw [Mur.belowL_nil]
                rintro _ W10 ⟨dd1, hd1, hdl1, rfl, ch7⟩
                have zz9 := ch7.size
                refine ⟨_, rfl, ?_⟩
                refine Wk.rPure 2 (some 73) (.tuple #[.agg ((b8s dd1).toArray), .int .i64 ((L1.length : Nat) : Int)]) rfl rfl (by kernel_rfl) (by kernel_rfl) ?_
                refine Wk.rPure 3 (some 76) (.agg ((b8s dd1).toArray)) rfl rfl (by kernel_rfl) (by kernel_rfl) ?_
                refine Wk.rPure 4 (some 77) (.int .i64 ((L1.length : Nat) : Int)) rfl rfl (by kernel_rfl) (by kernel_rfl) ?_
                refine Wk.rEx 5 (some 11) _ rfl rfl (by kernel_rfl) (Wk.new_ex (.pointer (some ⟨W10.heap.size, 0, none⟩)) #[.int .u8 0, .int .u8 0, .int .u8 0, .int .u8 0, .int .u8 0, .int .u8 0, .int .u8 0, .int .u8 0, .int .u8 0, .int .u8 0, .int .u8 0, .int .u8 0, .int .u8 0, .int .u8 0, .int .u8 0, .int .u8 0, .int .u8 0, .int .u8 0, .int .u8 0, .int .u8 0, .int .u8 0, .int .u8 0, .int .u8 0, .int .u8 0, .int .u8 0, .int .u8 0, .int .u8 0, .int .u8 0, .int .u8 0, .int .u8 0, .int .u8 0, .int .u8 0] 30 (by kernel_rfl)) ?_
                rintro _ W11 ⟨rfl, hb1, ch8, sz1⟩
                have zz10 := ch8.size
                refine Wk.rExS 6 none _ rfl rfl (by kernel_rfl) (Mur.storeAll 30 (.tmp 11) (.tmp 76) rfl W10.heap.size (by kernel_rfl) dd1 32 hdl1 (by kernel_rfl) (by kernel_rfl) 30 #[.int .u8 0, .int .u8 0, .int .u8 0, .int .u8 0, .int .u8 0, .int .u8 0, .int .u8 0, .int .u8 0, .int .u8 0, .int .u8 0, .int .u8 0, .int .u8 0, .int .u8 0, .int .u8 0, .int .u8 0, .int .u8 0, .int .u8 0, .int .u8 0, .int .u8 0, .int .u8 0, .int .u8 0, .int .u8 0, .int .u8 0, .int .u8 0, .int .u8 0, .int .u8 0, .int .u8 0, .int .u8 0, .int .u8 0, .int .u8 0, .int .u8 0, .int .u8 0] hb1 rfl) ?_
                rintro W12 ⟨hb2, ch9⟩
                have zz11 := ch9.size
                refine Wk.rPure 7 (some 12) (.int .i64 ((L1.length : Nat) : Int)) rfl rfl (by kernel_rfl) (by kernel_rfl) ?_
                refine Wk.rEnd 8 rfl ?_
                refine Wk.nxt ?_
                refine wp_seq ?_
                refine Wk.reg ?_
                refine Wk.rPure 0 (some 79) (.pointer (some ⟨W2.heap.size, 0, none⟩)) rfl rfl (by kernel_rfl) (by kernel_rfl) ?_
                refine Wk.rCall 1 (some 80) 16 [.tmp 79, .const (.slice none 0 0)] #[24, 38] [.pointer (some ⟨W2.heap.size, 0, none⟩), .slice none 0 0] rfl rfl (by kernel_rfl) rfl (by kernel_rfl) (by kernel_rfl) ?_
                have hD10 := Mur.SetF.chg hD2 ch7 (fun s hs => trivial)
                have hD11 := Mur.SetF.chg hD10 ch8 (fun s hs => trivial)
                have hD12 := Mur.SetF.chg hD11 ch9 (fun s hs => ⟨by have := hM2 s hs; omega, trivial⟩)
                have kk7 := Wk.Chg.step HB ch7 trivial
                have kk8 := Wk.Chg.step kk7 ch8 trivial
                have kk9 := Wk.Chg.step kk8 ch9 ⟨.inr (by omega), trivial⟩
                refine (Sum_any W2.heap.size L1 W2.heap.size F2 ([]) none 0 0 W12 (HV.out.below (Wk.Chg.below0 kk9)) hD12 (Byt.nil _ none) (by omega)).mono ?_
                rw [Mur.belowL_nil]
                rintro _ W13 ⟨dd2, hd2, hdl2, rfl, ch10⟩
                have zz12 := ch10.size
                refine ⟨_, rfl, ?_⟩
                refine Wk.rPure 2 (some 78) (.tuple #[.agg ((b8s dd2).toArray), .int .i64 ((L1.length : Nat) : Int)]) rfl rfl (by kernel_rfl) (by kernel_rfl) ?_
                refine Wk.rPure 3 (some 81) (.agg ((b8s dd2).toArray)) rfl rfl (by kernel_rfl) (by kernel_rfl) ?_
                refine Wk.rPure 4 (some 82) (.int .i64 ((L1.length : Nat) : Int)) rfl rfl (by kernel_rfl) (by kernel_rfl) ?_
                refine Wk.rEx 5 (some 13) _ rfl rfl (by kernel_rfl) (Wk.new_ex (.pointer (some ⟨W13.heap.size, 0, none⟩)) #[.int .u8 0, .int .u8 0, .int .u8 0, .int .u8 0, .int .u8 0, .int .u8 0, .int .u8 0, .int .u8 0, .int .u8 0, .int .u8 0, .int .u8 0, .int .u8 0, .int .u8 0, .int .u8 0, .int .u8 0, .int .u8 0, .int .u8 0, .int .u8 0, .int .u8 0, .int .u8 0, .int .u8 0, .int .u8 0, .int .u8 0, .int .u8 0, .int .u8 0, .int .u8 0, .int .u8 0, .int .u8 0, .int .u8 0, .int .u8 0, .int .u8 0, .int .u8 0] 30 (by kernel_rfl)) ?_
                rintro _ W14 ⟨rfl, hb3, ch11, sz2⟩
                have zz13 := ch11.size
                refine Wk.rExS 6 none _ rfl rfl (by kernel_rfl) (Mur.storeAll 30 (.tmp 13) (.tmp 81) rfl W13.heap.size (by kernel_rfl) dd2 32 hdl2 (by kernel_rfl) (by kernel_rfl) 30 #[.int .u8 0, .int .u8 0, .int .u8 0, .int .u8 0, .int .u8 0, .int .u8 0, .int .u8 0, .int .u8 0, .int .u8 0, .int .u8 0, .int .u8 0, .int .u8 0, .int .u8 0, .int .u8 0, .int .u8 0, .int .u8 0, .int .u8 0, .int .u8 0, .int .u8 0, .int .u8 0, .int .u8 0, .int .u8 0, .int .u8 0, .int .u8 0, .int .u8 0, .int .u8 0, .int .u8 0, .int .u8 0, .int .u8 0, .int .u8 0, .int .u8 0, .int .u8 0] hb3 rfl) ?_
                rintro W15 ⟨hb4, ch12⟩
                have zz14 := ch12.size
                refine Wk.rPure 7 (some 14) (.int .i64 ((L1.length : Nat) : Int)) rfl rfl (by kernel_rfl) (by kernel_rfl) ?_
                refine Wk.rEnd 8 rfl ?_
                refine Wk.nxt ?_
                refine wp_seq ?_
                refine Wk.reg ?_
                refine Wk.rPure 0 (some 83) (.pointer (some ⟨w.heap.size, 0, none⟩)) rfl rfl (by kernel_rfl) (by kernel_rfl) ?_
                refine Wk.rCall 1 (some 84) 18 [.tmp 83, .const (.slice none 0 0)] #[24, 38] [.pointer (some ⟨w.heap.size, 0, none⟩), .slice none 0 0] rfl rfl (by kernel_rfl) rfl (by kernel_rfl) (by kernel_rfl) ?_
                have hD13 := Mur.SetF.chg hD1 ch7 (fun s hs => trivial)
                have hD14 := Mur.SetF.chg hD13 ch8 (fun s hs => trivial)
                have hD15 := Mur.SetF.chg hD14 ch9 (fun s hs => ⟨by have := hM1 s hs; omega, trivial⟩)
                have hD16 := Mur.SetF.chg hD15 ch10 (fun s hs => trivial)
                have hD17 := Mur.SetF.chg hD16 ch11 (fun s hs => trivial)
                have hD18 := Mur.SetF.chg hD17 ch12 (fun s hs => ⟨by have := hM1 s hs; omega, trivial⟩)
                refine (Below_any w.heap.size L1 w.heap.size F1 ([]) none 0 0 W15 hD18 (Byt.nil _ none) (by omega)).mono ?_
                rw [Mur.belowL_nil]
                rintro _ W16 ⟨AA1, nn1, nn2, rfl, ow1, ch13⟩
                have zz15 := ch13.size
                have hq1 := ow1.nc
                have hq2 := ow1.cm
                have hq3 := ow1.sl.len
                have hq4 : L1.length ≤ 200 := Nat.le_trans (Nat.le_refl _) (Mur.SetF.len hD18)
                refine ⟨_, rfl, ?_⟩
                refine Wk.rPure 2 (some 85) (.pointer (some ⟨W2.heap.size, 0, none⟩)) rfl rfl (by kernel_rfl) (by kernel_rfl) ?_
                refine Wk.rCall 3 (some 86) 18 [.tmp 85, .const (.slice none 0 0)] #[24, 38] [.pointer (some ⟨W2.heap.size, 0, none⟩), .slice none 0 0] rfl rfl (by kernel_rfl) rfl (by kernel_rfl) (by kernel_rfl) ?_
                have hD19 := Mur.SetF.chg hD12 ch10 (fun s hs => trivial)
                have hD20 := Mur.SetF.chg hD19 ch11 (fun s hs => trivial)
                have hD21 := Mur.SetF.chg hD20 ch12 (fun s hs => ⟨by have := hM2 s hs; omega, trivial⟩)
                have hD22 := Mur.SetF.chg hD21 ch13 (fun s hs => trivial)
                refine (Below_any W2.heap.size L1 W2.heap.size F2 ([]) none 0 0 W16 hD22 (Byt.nil _ none) (by omega)).mono ?_
                rw [Mur.belowL_nil]
                rintro _ W17 ⟨AA2, nn3, nn4, rfl, ow2, ch14⟩
                have zz16 := ch14.size
                have hq5 := ow2.nc
                have hq6 := ow2.cm
                have hq7 := ow2.sl.len
                have hq8 : L1.length ≤ 200 := Nat.le_trans (Nat.le_refl _) (Mur.SetF.len hD22)
                refine ⟨_, rfl, ?_⟩
                refine Wk.rCall 4 (some 87) 17 [.tmp 84, .tmp 86] #[22, 22] [.slice AA1 nn1 nn2, .slice AA2 nn3 nn4] rfl rfl (by kernel_rfl) rfl (by kernel_rfl) (by kernel_rfl) ?_
                have ow3 := Mur.OwnA.chg ow1 ch14 (fun q e _ _ => trivial)
                refine (Same20_any AA1 nn1 nn2 L1 AA2 nn3 nn4 L1 W17 ow3.sl ow2.sl (by omega)).mono ?_
                rw [decide_eq_true (rfl : L1 = L1)]
                rintro _ W18 ⟨rfl, ch15⟩
                have zz17 := ch15.size
                refine ⟨_, rfl, ?_⟩
                refine Wk.rPure 5 (some 88) (.bool true) rfl rfl (by kernel_rfl) (by kernel_rfl) ?_
                refine Wk.rPure 6 (some 89) (.agg ((b8s dd1).toArray)) rfl rfl (by kernel_rfl) (Mur.loadAll 30 (.tmp 11) rfl _ Tryd.underlying30 rfl W10.heap.size (by kernel_rfl) dd1 32 hdl1 (by kernel_rfl) 30 (0, 0) (Wk.Chg.hp ch15 (Wk.Chg.hp ch14 (Wk.Chg.hp ch13 (Wk.Chg.hp ch12 (Wk.Chg.hp ch11 (Wk.Chg.hp ch10 hb2 trivial) trivial) ⟨by omega, trivial⟩) trivial) trivial) trivial)) ?_
                refine Wk.rPure 7 (some 90) (.agg ((b8s dd2).toArray)) rfl rfl (by kernel_rfl) (Mur.loadAll 30 (.tmp 13) rfl _ Tryd.underlying30 rfl W13.heap.size (by kernel_rfl) dd2 32 hdl2 (by kernel_rfl) 30 (0, 0) (Wk.Chg.hp ch15 (Wk.Chg.hp ch14 (Wk.Chg.hp ch13 hb4 trivial) trivial) trivial)) ?_
                refine Wk.rPure 8 (some 91) (.bool true) rfl rfl (by kernel_rfl) (Mur.run_eql_yes digT dd1 dd2 hdl1 hdl2 (hd1.out.trans hd2.out.symm) _ (.tmp 89) (.tmp 90) 30 rfl (by kernel_rfl) (by kernel_rfl)) ?_
                refine Wk.rPure 9 (some 92) (.bool true) rfl rfl (by kernel_rfl) (by kernel_rfl) ?_
                refine Wk.rPure 10 (some 93) (.bool true) rfl rfl (by kernel_rfl) (by kernel_rfl) ?_
                refine Wk.rPure 11 (some 94) (.int .i64 ((L1.length : Nat) : Int)) rfl rfl (by kernel_rfl) (by kernel_rfl) ?_
                refine Wk.rPure 12 (some 95) (.int .i64 ((L1.length : Nat) : Int)) rfl rfl (by kernel_rfl) (by kernel_rfl) ?_
                refine Wk.rPure 13 (some 96) (.bool true) rfl rfl (by kernel_rfl) (Wk.boolT (b := (((L1.length : Nat) : Int) == ((L1.length : Nat) : Int))) (beq_iff_eq.2 (rfl)) (by kernel_rfl)) ?_
                refine Wk.rPure 14 (some 97) (.bool true) rfl rfl (by kernel_rfl) (by kernel_rfl) ?_
                refine Wk.rPure 15 (some 98) (.bool true) rfl rfl (by kernel_rfl) (by kernel_rfl) ?_
                refine Wk.rCall 16 (some 99) 13 [] #[] [] rfl rfl (by kernel_rfl) rfl (by kernel_rfl) (by kernel_rfl) ?_
                have kk10 := Wk.Chg.step kk9 ch10 trivial
                have kk11 := Wk.Chg.step kk10 ch11 trivial
                have kk12 := Wk.Chg.step kk11 ch12 ⟨.inr (by omega), trivial⟩
                have kk13 := Wk.Chg.step kk12 ch13 trivial
                have kk14 := Wk.Chg.step kk13 ch14 trivial
                have kk15 := Wk.Chg.step kk14 ch15 trivial
                refine (known20_any W18 (HV.out.below (Wk.Chg.below0 kk15))).mono ?_
                rintro _ W19 ⟨rfl, ch16⟩
                have zz18 := ch16.size
                refine ⟨_, rfl, ?_⟩
                refine Wk.rPure 17 (some 100) (.bool true) rfl rfl (by kernel_rfl) (by kernel_rfl) ?_
                refine Wk.rPure 18 (some 4) (.bool true) rfl rfl (by kernel_rfl) (by kernel_rfl) ?_
                refine Wk.rEnd 19 rfl ?_
                refine Wk.nxt ?_
                refine wp_ret ?_
                have kk16 := Wk.Chg.step kk15 ch16 trivial
                refine Wk.ret (.bool true) rfl (by kernel_rfl) ?_
                exact ⟨rfl, Wk.Chg.below0 kk16⟩
end Go.Proofs.YtfhneademopciaaDoor
