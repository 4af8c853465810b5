/- adverts' document: prefixes, what is below, sums. adverts: Copy, Of; none. A result that no one has; the cells of a slice of one's own. No program in sight. -/
import Derived.Test.YtfhneademopciaaDoorPY1
import Derived.Test.YtfhneademopciaaDoorPO11
import Derived.Test.YtfhneademopciaaDoorPO9
namespace Go.Proofs.YtfhneademopciaaDoor
open Go.RowKit
open Mur (b8s Byt Own8 Seg Segs flat cutA attC Att SlA OwnA rowA)
set_option maxRecDepth 100000
set_option maxHeartbeats 4000000
def Risp_F1 (b : Array Value) (u0 : Value) (u3 : Value) : Act := ⟨#[u0, b.getD 1 undef, b.getD 2 undef, u3, b.getD 4 undef, b.getD 5 undef, b.getD 6 undef, b.getD 7 undef, b.getD 8 undef, b.getD 9 undef, b.getD 10 undef, b.getD 11 undef, b.getD 12 undef, b.getD 13 undef, b.getD 14 undef, b.getD 15 undef, b.getD 16 undef, b.getD 17 undef], []⟩
def Rbel_F1 (b : Array Value) (u0 : Value) (u1 : Value) (u5 : Value) (u6 : Value) : Act := ⟨#[u0, u1, b.getD 2 undef, b.getD 3 undef, b.getD 4 undef, u5, u6, b.getD 7 undef, b.getD 8 undef, b.getD 9 undef, b.getD 10 undef, b.getD 11 undef, b.getD 12 undef, b.getD 13 undef, b.getD 14 undef, b.getD 15 undef, b.getD 16 undef, b.getD 17 undef, b.getD 18 undef, b.getD 19 undef, b.getD 20 undef, b.getD 21 undef, b.getD 22 undef, b.getD 23 undef, b.getD 24 undef, b.getD 25 undef, b.getD 26 undef, b.getD 27 undef, b.getD 28 undef, b.getD 29 undef, b.getD 30 undef, b.getD 31 undef, b.getD 32 undef, b.getD 33 undef, b.getD 34 undef, b.getD 35 undef, b.getD 36 undef, b.getD 37 undef, b.getD 38 undef, b.getD 39 undef, b.getD 40 undef, b.getD 41 undef, b.getD 42 undef, b.getD 43 undef, b.getD 44 undef, b.getD 45 undef, b.getD 46 undef, b.getD 47 undef, b.getD 48 undef, b.getD 49 undef, b.getD 50 undef, b.getD 51 undef, b.getD 52 undef, b.getD 53 undef, b.getD 54 undef, b.getD 55 undef, b.getD 56 undef, b.getD 57 undef, b.getD 58 undef], []⟩
def Rbel_F2 (b : Array Value) (u0 : Value) (u1 : Value) (u5 : Value) (u6 : Value) (u7 : Value) (u8 : Value) : Act := ⟨#[u0, u1, b.getD 2 undef, b.getD 3 undef, b.getD 4 undef, u5, u6, u7, u8, b.getD 9 undef, b.getD 10 undef, b.getD 11 undef, b.getD 12 undef, b.getD 13 undef, b.getD 14 undef, b.getD 15 undef, b.getD 16 undef, b.getD 17 undef, b.getD 18 undef, b.getD 19 undef, b.getD 20 undef, b.getD 21 undef, b.getD 22 undef, b.getD 23 undef, b.getD 24 undef, b.getD 25 undef, b.getD 26 undef, b.getD 27 undef, b.getD 28 undef, b.getD 29 undef, b.getD 30 undef, b.getD 31 undef, b.getD 32 undef, b.getD 33 undef, b.getD 34 undef, b.getD 35 undef, b.getD 36 undef, b.getD 37 undef, b.getD 38 undef, b.getD 39 undef, b.getD 40 undef, b.getD 41 undef, b.getD 42 undef, b.getD 43 undef, b.getD 44 undef, b.getD 45 undef, b.getD 46 undef, b.getD 47 undef, b.getD 48 undef, b.getD 49 undef, b.getD 50 undef, b.getD 51 undef, b.getD 52 undef, b.getD 53 undef, b.getD 54 undef, b.getD 55 undef, b.getD 56 undef, b.getD 57 undef, b.getD 58 undef], []⟩
theorem Risp_any (l : List UInt8) (A : Option Addr) (n c : Nat) (w : World) (hb : Byt w A n l) (hn : n ≤ 9223372036854775807) : Calls Tryd.prog 30 #[.slice A n c] w fun e w' => e = .returned (.bool (Mur.isPre l)) ∧ w = w' := by
  refine calls_of_wp Tryd.func30 rfl ?_
  refine wp_seq ?_
  refine Wk.reg ?_
  refine Wk.rPure 0 (some 2) (.bool false) rfl rfl (by kernel_rfl) (by kernel_rfl) ?_
  refine Wk.rEnd 1 rfl ?_
  refine Wk.nxt ?_
  refine wp_seq ?_
  refine wp_seq ?_
  refine Wk.reg ?_
  refine Wk.rPure 0 (some 3) (.int .i64 0) rfl rfl (by kernel_rfl) (by kernel_rfl) ?_
  refine Wk.rEnd 1 rfl ?_
  refine Wk.nxt ?_
  refine wp_block ?_
  refine Wk.loop (fun m_ a wr => ∃ (i : Nat), m_ = n - i ∧ a = Risp_F1 a.tmps (.slice A n c) (.int .i64 ((i : Nat) : Int)) ∧ i ≤ n ∧ (∀ j, j < i → (l.getD j 0) ≤ 15) ∧ wr = w) (n - 0) ?_ ?_
  · refine ⟨0, rfl, by kernel_rfl, Nat.zero_le _, (fun j h => by omega), rfl⟩
  · rintro mm1 aa1 W1 ⟨i, hmm1, hF1, hi, hall, hw⟩
    generalize aa1.tmps = bb1 at hF1
    subst hF1
    subst hw
    by_cases hlt : i < n
    · obtain ⟨q, off, rfl, hcc⟩ := hb.2 (by omega)
      refine wp_seq ?_
      refine wp_seq ?_
      refine Wk.reg ?_
      refine Wk.rPure 0 (some 4) (.int .i64 ((i : Nat) : Int)) rfl rfl (by kernel_rfl) (by kernel_rfl) ?_
      refine Wk.rPure 1 (some 5) (.slice (some ⟨q, off, none⟩) n c) rfl rfl (by kernel_rfl) (by kernel_rfl) ?_
      refine Wk.rPure 2 (some 6) (.int .i64 ((n : Nat) : Int)) rfl rfl (by kernel_rfl) (by kernel_rfl) ?_
      refine Wk.rPure 3 (some 7) (.bool true) rfl rfl (by kernel_rfl) (Wk.boolT (b := decide (((i : Nat) : Int) < ((n : Nat) : Int))) (decide_eq_true (by omega)) (by kernel_rfl)) ?_
      refine Wk.rEnd 4 rfl ?_
      refine Wk.nxt ?_
      refine wp_cond_true (by kernel_rfl) ?_
      refine wp_skip ?_
      refine Wk.nxt ?_
      refine wp_seq ?_
      refine wp_block ?_
      refine wp_seq ?_
      refine Wk.reg ?_
      refine Wk.rPure 0 (some 10) (.slice (some ⟨q, off, none⟩) n c) rfl rfl (by kernel_rfl) (by kernel_rfl) ?_
      refine Wk.rPure 1 (some 11) (.int .i64 ((i : Nat) : Int)) rfl rfl (by kernel_rfl) (by kernel_rfl) ?_
      refine Wk.rPure 2 (some 12) (.pointer (some ⟨q, off + i * 1, none⟩)) rfl rfl (by kernel_rfl) (Wk.index_sl 38 5 (.tmp 10) (.tmp 11) rfl Tryd.underlying38 1 (by kernel_rfl) q off n c i .i64 (by kernel_rfl) (by kernel_rfl) (by omega)) ?_
      refine Wk.rPure 3 (some 13) (.int .u8 (((l.getD i 0).toNat : Nat) : Int)) rfl rfl (by kernel_rfl) (Wk.load1 5 (.tmp 12) rfl (by kernel_rfl) ⟨q, off + i * 1, none⟩ (by kernel_rfl) (.int .u8 (((l.getD i 0).toNat : Nat) : Int)) (Mur.byt_cell hb i (by omega))) ?_
      by_cases hx1 : (((l.getD i 0).toNat : Nat) : Int) > (15 : Int)
      · refine Wk.rPure 4 (some 14) (.bool true) rfl rfl (by kernel_rfl) (Wk.boolT (b := decide ((((l.getD i 0).toNat : Nat) : Int) > (15 : Int))) (decide_eq_true (by first | exact hx1 | omega)) (by kernel_rfl)) ?_
        refine Wk.rEnd 5 rfl ?_
        refine Wk.nxt ?_
        refine wp_cond_true (by kernel_rfl) ?_
        refine wp_seq ?_
        refine Wk.reg ?_
        refine Wk.rPure 0 (some 2) (.bool false) rfl rfl (by kernel_rfl) (by kernel_rfl) ?_
        refine Wk.rEnd 1 rfl ?_
        refine Wk.nxt ?_
        refine wp_ret ?_
        refine Wk.inR ?_
        refine Wk.thR ?_
        refine Wk.thR ?_
        refine Wk.inR ?_
        refine Wk.thR ?_
        refine Wk.ret (.bool false) rfl (by kernel_rfl) ?_
        exact ⟨by rw [show Mur.isPre l = false from by unfold Mur.isPre; rw [Mur.some15 hb.1 hlt (UInt8.lt_iff_toNat_lt.2 (show 15 < (l.getD i 0).toNat by omega))]; rfl], rfl⟩
      · refine Wk.rPure 4 (some 14) (.bool false) rfl rfl (by kernel_rfl) (Wk.boolF (b := decide ((((l.getD i 0).toNat : Nat) : Int) > (15 : Int))) (decide_eq_false (by first | exact hx1 | omega)) (by kernel_rfl)) ?_
        refine Wk.rEnd 5 rfl ?_
        refine Wk.nxt ?_
        refine wp_cond_false (by kernel_rfl) ?_
        refine wp_skip ?_
        refine Wk.inN ?_
        refine Wk.nxt ?_
        refine Wk.reg ?_
        refine Wk.rPure 0 (some 8) (.int .i64 ((i : Nat) : Int)) rfl rfl (by kernel_rfl) (by kernel_rfl) ?_
        refine Wk.rPure 1 (some 9) (.int .i64 ((i + 1 : Nat) : Int)) rfl rfl (by kernel_rfl) (Wk.int64 (n := ((i : Nat) : Int) + 1) (z := ((i + 1 : Nat) : Int)) (by omega) (by omega) (by omega) (by kernel_rfl)) ?_
        refine Wk.rPure 2 (some 3) (.int .i64 ((i + 1 : Nat) : Int)) rfl rfl (by kernel_rfl) (by kernel_rfl) ?_
        refine Wk.rEnd 3 rfl ?_
        refine Wk.nxt ?_
        refine ⟨_, ?_, i + 1, rfl, by kernel_rfl, (by omega), (fun j hj => by rcases Nat.lt_or_ge j i with h1 | h1 <;> first | exact hall j h1 | (obtain rfl : j = i := (by omega); exact UInt8.not_lt.1 (fun q_ => hx1 (by rw [UInt8.lt_iff_toNat_lt] at q_; have h15 : (15 : UInt8).toNat = 15 := rfl; omega)))), rfl⟩
        · omega
    · refine wp_seq ?_
      refine wp_seq ?_
      refine Wk.reg ?_
      refine Wk.rPure 0 (some 4) (.int .i64 ((i : Nat) : Int)) rfl rfl (by kernel_rfl) (by kernel_rfl) ?_
      refine Wk.rPure 1 (some 5) (.slice A n c) rfl rfl (by kernel_rfl) (by kernel_rfl) ?_
      refine Wk.rPure 2 (some 6) (.int .i64 ((n : Nat) : Int)) rfl rfl (by kernel_rfl) (by kernel_rfl) ?_
      refine Wk.rPure 3 (some 7) (.bool false) rfl rfl (by kernel_rfl) (Wk.boolF (b := decide (((i : Nat) : Int) < ((n : Nat) : Int))) (decide_eq_false (by omega)) (by kernel_rfl)) ?_
      refine Wk.rEnd 4 rfl ?_
      refine Wk.nxt ?_
      refine wp_cond_false (by kernel_rfl) ?_
      refine wp_exit ?_
      refine Wk.thX ?_
      refine Wk.thX ?_
      refine Wk.inX ?_
      refine Wk.nxt ?_
      refine wp_seq ?_
      refine Wk.reg ?_
      refine Wk.rPure 0 (some 15) (.slice A n c) rfl rfl (by kernel_rfl) (by kernel_rfl) ?_
      refine Wk.rPure 1 (some 16) (.int .i64 ((n : Nat) : Int)) rfl rfl (by kernel_rfl) (by kernel_rfl) ?_
      by_cases hx2 : ((n : Nat) : Int) ≤ (8 : Int)
      · refine Wk.rPure 2 (some 17) (.bool true) rfl rfl (by kernel_rfl) (Wk.boolT (b := decide (((n : Nat) : Int) ≤ (8 : Int))) (decide_eq_true (by first | exact hx2 | omega)) (by kernel_rfl)) ?_
        refine Wk.rPure 3 (some 2) (.bool true) rfl rfl (by kernel_rfl) (by kernel_rfl) ?_
        refine Wk.rEnd 4 rfl ?_
        refine Wk.nxt ?_
        refine wp_ret ?_
        refine Wk.ret (.bool true) rfl (by kernel_rfl) ?_
        exact ⟨by rw [show Mur.isPre l = true from by unfold Mur.isPre; rw [Mur.all15 hb.1 (fun j hj => hall j (by omega))]; have := hb.1; simp; omega], rfl⟩
      · refine Wk.rPure 2 (some 17) (.bool false) rfl rfl (by kernel_rfl) (Wk.boolF (b := decide (((n : Nat) : Int) ≤ (8 : Int))) (decide_eq_false (by first | exact hx2 | omega)) (by kernel_rfl)) ?_
        refine Wk.rPure 3 (some 2) (.bool false) rfl rfl (by kernel_rfl) (by kernel_rfl) ?_
        refine Wk.rEnd 4 rfl ?_
        refine Wk.nxt ?_
        refine wp_ret ?_
        refine Wk.ret (.bool false) rfl (by kernel_rfl) ?_
        exact ⟨by rw [show Mur.isPre l = false from by unfold Mur.isPre; rw [Mur.all15 hb.1 (fun j hj => hall j (by omega))]; have := hb.1; simp; omega], rfl⟩
theorem Rbelow_any (A : Option Addr) (n c : Nat) (L : List Att) (p : List UInt8) (PA : Option Addr) (pn pc : Nat) (w : World) (hA_ : SlA w A n L) (hb : Byt w PA pn p) (hn : n ≤ 200) (hpn : pn ≤ 9223372036854775807) : Calls Tryd.prog 29 #[.slice A n c, .slice PA pn pc] w fun e w' => ∃ A1 n1 c1, e = .returned (.slice A1 n1 c1) ∧ OwnA w' w.heap.size 32 A1 n1 c1 (Mur.belowL p L) ∧ Wk.Chg [] w w' := by
  have hLl0 := hA_.len
  refine calls_of_wp Tryd.func29 rfl ?_
  refine wp_seq ?_
  refine Wk.reg ?_
  refine Wk.rPure 0 (some 4) (.slice none 0 0) rfl rfl (by kernel_rfl) (by kernel_rfl) ?_
  refine Wk.rEnd 1 rfl ?_
  refine Wk.nxt ?_
  refine wp_seq ?_
  refine Wk.reg ?_
  refine Wk.rPure 0 (some 5) (.slice none 0 0) rfl rfl (by kernel_rfl) (by kernel_rfl) ?_
  refine Wk.rEnd 1 rfl ?_
  refine Wk.nxt ?_
  refine wp_seq ?_
  refine wp_seq ?_
  refine Wk.reg ?_
  refine Wk.rPure 0 (some 11) (.slice PA pn pc) rfl rfl (by kernel_rfl) (by kernel_rfl) ?_
  refine Wk.rCall 1 (some 12) 30 [.tmp 11] #[38] [.slice PA pn pc] rfl rfl (by kernel_rfl) rfl (by kernel_rfl) (by kernel_rfl) ?_
  refine (Risp_any p PA pn pc w hb (by omega)).mono ?_
  cases hpre1 : Mur.isPre p
  · rintro _ _ ⟨rfl, rfl⟩
    refine ⟨_, rfl, ?_⟩
    refine Wk.rPure 2 (some 13) (.bool true) rfl rfl (by kernel_rfl) (by kernel_rfl) ?_
    refine Wk.rEnd 3 rfl ?_
    refine Wk.nxt ?_
    refine wp_cond_true (by kernel_rfl) ?_
    refine wp_seq ?_
    refine Wk.reg ?_
    refine Wk.rPure 0 (some 4) (.slice none 0 0) rfl rfl (by kernel_rfl) (by kernel_rfl) ?_
    refine Wk.rEnd 1 rfl ?_
    refine Wk.nxt ?_
    refine wp_ret ?_
    refine Wk.thR ?_
    refine Wk.ret (.slice none 0 0) rfl (by kernel_rfl) ?_
    exact ⟨_, _, _, rfl, by rw [Mur.belowL_no hpre1]; exact Mur.ownA_nil _ _ _, (Wk.Chg.refl _)⟩
  · rintro _ _ ⟨rfl, rfl⟩
    refine ⟨_, rfl, ?_⟩
    refine Wk.rPure 2 (some 13) (.bool false) rfl rfl (by kernel_rfl) (by kernel_rfl) ?_
    refine Wk.rEnd 3 rfl ?_
    refine Wk.nxt ?_
    refine wp_cond_false (by kernel_rfl) ?_
    refine wp_skip ?_
    refine Wk.nxt ?_
    refine wp_seq ?_
    refine wp_seq ?_
    refine Wk.reg ?_
    have hpre1 := hpre1
    refine Wk.rPure 0 (some 6) (.int .i64 0) rfl rfl (by kernel_rfl) (by kernel_rfl) ?_
    refine Wk.rEnd 1 rfl ?_
    refine Wk.nxt ?_
    refine wp_block ?_
    refine Wk.loop (fun m_ a wr => ∃ (i : Nat) (A1 : Option Addr) (N : Nat) (c1 : Nat), m_ = n - i ∧ a = Rbel_F1 a.tmps (.slice A n c) (.slice PA pn pc) (.slice A1 N c1) (.int .i64 ((i : Nat) : Int)) ∧ i ≤ n ∧ OwnA wr w.heap.size 32 A1 N c1 ((L.take i).filter (fun y_ => Mur.under p y_.k)) ∧ Wk.Chg [] w wr) (n - 0) ?_ ?_
    · refine ⟨0, none, 0, 0, rfl, by kernel_rfl, (by omega), (by exact Mur.ownA_nil _ _ _), (Wk.Chg.refl _)⟩
    · rintro mm1 aa1 W1 ⟨i, A1, N, c1, hmm1, hF1, hi, hO, HB⟩
      generalize aa1.tmps = bb1 at hF1
      subst hF1
      have hzB := HB.size
      have hLl := hA_.len
      have hOl := hO.sl.len
      have hOn := hO.nc
      have hfl_ := List.length_filter_le (fun y_ : Att => Mur.under p y_.k) (L.take i)
      rw [List.length_take] at hfl_
      by_cases hlt : i < n
      · obtain ⟨g_x, o_x, rfl, _⟩ := hA_.ex (by omega)
        obtain ⟨x, hx⟩ : ∃ x, L[i]? = some x := ⟨_, List.getElem?_eq_getElem (by have := hA_.len; omega)⟩
        refine wp_seq ?_
        refine wp_seq ?_
        refine Wk.reg ?_
        refine Wk.rPure 0 (some 14) (.int .i64 ((i : Nat) : Int)) rfl rfl (by kernel_rfl) (by kernel_rfl) ?_
        refine Wk.rPure 1 (some 15) (.slice (some ⟨g_x, o_x, none⟩) n c) rfl rfl (by kernel_rfl) (by kernel_rfl) ?_
        refine Wk.rPure 2 (some 16) (.int .i64 ((n : Nat) : Int)) rfl rfl (by kernel_rfl) (by kernel_rfl) ?_
        refine Wk.rPure 3 (some 17) (.bool true) rfl rfl (by kernel_rfl) (Wk.boolT (b := decide (((i : Nat) : Int) < ((n : Nat) : Int))) (decide_eq_true (by omega)) (by kernel_rfl)) ?_
        refine Wk.rEnd 4 rfl ?_
        refine Wk.nxt ?_
        refine wp_cond_true (by kernel_rfl) ?_
        refine wp_skip ?_
        refine Wk.nxt ?_
        refine wp_seq ?_
        refine wp_block ?_
        refine wp_seq ?_
        refine Wk.reg ?_
        refine Wk.rPure 0 (some 7) (.bool true) rfl rfl (by kernel_rfl) (by kernel_rfl) ?_
        refine Wk.rEnd 1 rfl ?_
        refine Wk.nxt ?_
        refine wp_seq ?_
        refine wp_seq ?_
        refine Wk.reg ?_
        refine Wk.rPure 0 (some 8) (.int .i64 0) rfl rfl (by kernel_rfl) (by kernel_rfl) ?_
        refine Wk.rEnd 1 rfl ?_
        refine Wk.nxt ?_
        refine wp_block ?_
        refine Wk.loop (fun m_ a wr => ∃ (j : Nat) (b : Bool), m_ = pn - j ∧ a = Rbel_F2 a.tmps (.slice (some ⟨g_x, o_x, none⟩) n c) (.slice PA pn pc) (.slice A1 N c1) (.int .i64 ((i : Nat) : Int)) (.bool b) (.int .i64 ((j : Nat) : Int)) ∧ j ≤ pn ∧ (b = true ↔ ∀ i_, i_ < j → i_ < pn → Mur.nib x.k i_ = p.getD i_ 0) ∧ wr = W1) (pn - 0) ?_ ?_
        · refine ⟨0, true, rfl, by kernel_rfl, (by omega), (by simp), rfl⟩
        · rintro mm2 aa2 W2 ⟨j, b, hmm2, hF2, hj, hbb, hwJ⟩
          generalize aa2.tmps = bb2 at hF2
          subst hF2
          subst hwJ
          have hpl_ := hb.1
          have hp8 := Mur.pre_len hpre1
          by_cases hlj : j < pn
          · obtain ⟨q2, off2, hA2, _⟩ := hb.2 (by omega)
            subst hA2
            cases b
            · refine wp_seq ?_
              refine wp_seq ?_
              refine Wk.reg ?_
              refine Wk.rPure 0 (some 20) (.int .i64 ((j : Nat) : Int)) rfl rfl (by kernel_rfl) (by kernel_rfl) ?_
              refine Wk.rPure 1 (some 21) (.slice (some ⟨q2, off2, none⟩) pn pc) rfl rfl (by kernel_rfl) (by kernel_rfl) ?_
              refine Wk.rPure 2 (some 22) (.int .i64 ((pn : Nat) : Int)) rfl rfl (by kernel_rfl) (by kernel_rfl) ?_
              refine Wk.rPure 3 (some 23) (.bool true) rfl rfl (by kernel_rfl) (Wk.boolT (b := decide (((j : Nat) : Int) < ((pn : Nat) : Int))) (decide_eq_true (by omega)) (by kernel_rfl)) ?_
              refine Wk.rEnd 4 rfl ?_
              refine Wk.nxt ?_
              refine wp_cond_true (by kernel_rfl) ?_
              refine wp_skip ?_
              refine Wk.nxt ?_
              refine wp_seq ?_
              refine wp_block ?_
              refine wp_seq ?_
              refine Wk.reg ?_
              refine Wk.rPure 0 (some 26) (.slice (some ⟨g_x, o_x, none⟩) n c) rfl rfl (by kernel_rfl) (by kernel_rfl) ?_
              refine Wk.rPure 1 (some 27) (.int .i64 ((i : Nat) : Int)) rfl rfl (by kernel_rfl) (by kernel_rfl) ?_
              refine Wk.rPure 2 (some 28) (.int .i64 ((j : Nat) : Int)) rfl rfl (by kernel_rfl) (by kernel_rfl) ?_
              refine Wk.rPure 3 (some 29) (.int .i64 ((j / 2 : Nat) : Int)) rfl rfl (by kernel_rfl) (Mur.quo_nat 3 3 (.tmp 28) (.const (.int .i64 2)) rfl j 2 (by kernel_rfl) (by kernel_rfl) (by omega) (by omega)) ?_
              refine Wk.rPure 4 (some 30) (.pointer (some ⟨g_x, o_x + i * 97, none⟩)) rfl rfl (by kernel_rfl) (Wk.index_sl 50 32 (.tmp 26) (.tmp 27) rfl Tryd.underlying50 97 (by kernel_rfl) g_x o_x n c i .i64 (by kernel_rfl) (by kernel_rfl) (by omega)) ?_
              refine Wk.rPure 5 (some 31) (.pointer (some ⟨g_x, o_x + i * 97, none⟩)) rfl rfl (by kernel_rfl) (by kernel_rfl) ?_
              refine Wk.rPure 6 (some 32) (.pointer (some ⟨g_x, o_x + i * 97 + (j / 2) * 1, none⟩)) rfl rfl (by kernel_rfl) (Wk.index_arr 30 5 (.tmp 31) (.tmp 29) rfl 32 Tryd.underlying30 1 (by kernel_rfl) g_x (o_x + i * 97) (j / 2) .i64 (by kernel_rfl) (by kernel_rfl) (by omega)) ?_
              refine Wk.rPure 7 (some 33) (.int .u8 (((x.k.getD (j / 2) 0).toNat : Nat) : Int)) rfl rfl (by kernel_rfl) (Wk.load1 5 (.tmp 32) rfl (by kernel_rfl) ⟨g_x, o_x + i * 97 + (j / 2) * 1, none⟩ (by kernel_rfl) (.int .u8 (((x.k.getD (j / 2) 0).toNat : Nat) : Int)) (Mur.SlA.kcell (Mur.SlA.chg hA_ HB (fun g off e hl => trivial)) hx (j := j / 2) (by omega))) ?_
              refine Wk.rPure 8 (some 9) (.int .u8 (((x.k.getD (j / 2) 0).toNat : Nat) : Int)) rfl rfl (by kernel_rfl) (by kernel_rfl) ?_
              refine Wk.rEnd 9 rfl ?_
              refine Wk.nxt ?_
              refine wp_seq ?_
              refine Wk.reg ?_
              refine Wk.rPure 0 (some 34) (.int .u8 (((x.k.getD (j / 2) 0).toNat : Nat) : Int)) rfl rfl (by kernel_rfl) (by kernel_rfl) ?_
              refine Wk.rPure 1 (some 35) (.int .u8 (((x.k.getD (j / 2) 0 >>> 4).toNat : Nat) : Int)) rfl rfl (by kernel_rfl) (Mur.quo8_16 5 5 (.tmp 34) (.const (.int .u8 16)) rfl (x.k.getD (j / 2) 0) (by kernel_rfl) (by kernel_rfl)) ?_
              refine Wk.rPure 2 (some 10) (.int .u8 (((x.k.getD (j / 2) 0 >>> 4).toNat : Nat) : Int)) rfl rfl (by kernel_rfl) (by kernel_rfl) ?_
              refine Wk.rEnd 3 rfl ?_
              refine Wk.nxt ?_
              refine wp_seq ?_
              refine wp_seq ?_
              refine Wk.reg ?_
              refine Wk.rPure 0 (some 36) (.int .i64 ((j : Nat) : Int)) rfl rfl (by kernel_rfl) (by kernel_rfl) ?_
              refine Wk.rPure 1 (some 37) (.int .i64 ((j % 2 : Nat) : Int)) rfl rfl (by kernel_rfl) (Wk.rem_nat 3 3 (.tmp 36) (.const (.int .i64 2)) rfl j 2 (by kernel_rfl) (by kernel_rfl) (by omega)) ?_
              by_cases hx1 : ((j % 2 : Nat) : Int) = (1 : Int)
              · refine Wk.rPure 2 (some 38) (.bool true) rfl rfl (by kernel_rfl) (Wk.boolT (b := (((j % 2 : Nat) : Int) == (1 : Int))) (beq_iff_eq.2 (by first | exact hx1 | omega)) (by kernel_rfl)) ?_
                refine Wk.rEnd 3 rfl ?_
                refine Wk.nxt ?_
                refine wp_cond_true (by kernel_rfl) ?_
                refine Wk.reg ?_
                refine Wk.rPure 0 (some 39) (.int .u8 (((x.k.getD (j / 2) 0).toNat : Nat) : Int)) rfl rfl (by kernel_rfl) (by kernel_rfl) ?_
                refine Wk.rPure 1 (some 40) (.int .u8 (((x.k.getD (j / 2) 0 &&& 15).toNat : Nat) : Int)) rfl rfl (by kernel_rfl) (Mur.rem8_16 5 5 (.tmp 39) (.const (.int .u8 16)) rfl (x.k.getD (j / 2) 0) (by kernel_rfl) (by kernel_rfl)) ?_
                refine Wk.rPure 2 (some 10) (.int .u8 (((x.k.getD (j / 2) 0 &&& 15).toNat : Nat) : Int)) rfl rfl (by kernel_rfl) (by kernel_rfl) ?_
                refine Wk.rEnd 3 rfl ?_
                refine Wk.nxt ?_
                refine Wk.reg ?_
                refine Wk.rPure 0 (some 41) (.bool false) rfl rfl (by kernel_rfl) (by kernel_rfl) ?_
                refine Wk.rPure 1 (some 42) (.bool false) rfl rfl (by kernel_rfl) (by kernel_rfl) ?_
                refine Wk.rPass 2 (some 43) rfl rfl (by kernel_rfl) ?_
                refine Wk.rPass 3 (some 44) rfl rfl (by kernel_rfl) ?_
                refine Wk.rPass 4 (some 45) rfl rfl (by kernel_rfl) ?_
                refine Wk.rPass 5 (some 46) rfl rfl (by kernel_rfl) ?_
                refine Wk.rPass 6 (some 47) rfl rfl (by kernel_rfl) ?_
                refine Wk.rPass 7 (some 48) rfl rfl (by kernel_rfl) ?_
                refine Wk.rPure 8 (some 49) (.bool false) rfl rfl (by kernel_rfl) (by kernel_rfl) ?_
                refine Wk.rPure 9 (some 7) (.bool false) rfl rfl (by kernel_rfl) (by kernel_rfl) ?_
                refine Wk.rEnd 10 rfl ?_
                refine Wk.inN ?_
                refine Wk.nxt ?_
                refine Wk.reg ?_
                refine Wk.rPure 0 (some 24) (.int .i64 ((j : Nat) : Int)) rfl rfl (by kernel_rfl) (by kernel_rfl) ?_
                refine Wk.rPure 1 (some 25) (.int .i64 ((j + 1 : Nat) : Int)) rfl rfl (by kernel_rfl) (Wk.int64 (n := ((j : Nat) : Int) + 1) (z := ((j + 1 : Nat) : Int)) (by omega) (by omega) (by omega) (by kernel_rfl)) ?_
                refine Wk.rPure 2 (some 8) (.int .i64 ((j + 1 : Nat) : Int)) rfl rfl (by kernel_rfl) (by kernel_rfl) ?_
                refine Wk.rEnd 3 rfl ?_
                refine Wk.nxt ?_
                refine ⟨_, ?_, j + 1, false, rfl, by kernel_rfl, (by omega), ⟨fun e_ => (by cases e_), fun q_ => hbb.2 (fun i_ h1_ h2_ => q_ i_ (by omega) h2_)⟩, rfl⟩
                · omega
              · refine Wk.rPure 2 (some 38) (.bool false) rfl rfl (by kernel_rfl) (Wk.boolF (b := (((j % 2 : Nat) : Int) == (1 : Int))) (beq_eq_false_iff_ne.2 (by first | exact hx1 | omega)) (by kernel_rfl)) ?_
                refine Wk.rEnd 3 rfl ?_
                refine Wk.nxt ?_
                refine wp_cond_false (by kernel_rfl) ?_
                refine wp_skip ?_
                refine Wk.nxt ?_
                refine Wk.reg ?_
                refine Wk.rPure 0 (some 41) (.bool false) rfl rfl (by kernel_rfl) (by kernel_rfl) ?_
                refine Wk.rPure 1 (some 42) (.bool false) rfl rfl (by kernel_rfl) (by kernel_rfl) ?_
                refine Wk.rPass 2 (some 43) rfl rfl (by kernel_rfl) ?_
                refine Wk.rPass 3 (some 44) rfl rfl (by kernel_rfl) ?_
                refine Wk.rPass 4 (some 45) rfl rfl (by kernel_rfl) ?_
                refine Wk.rPass 5 (some 46) rfl rfl (by kernel_rfl) ?_
                refine Wk.rPass 6 (some 47) rfl rfl (by kernel_rfl) ?_
                refine Wk.rPass 7 (some 48) rfl rfl (by kernel_rfl) ?_
                refine Wk.rPure 8 (some 49) (.bool false) rfl rfl (by kernel_rfl) (by kernel_rfl) ?_
                refine Wk.rPure 9 (some 7) (.bool false) rfl rfl (by kernel_rfl) (by kernel_rfl) ?_
                refine Wk.rEnd 10 rfl ?_
                refine Wk.inN ?_
                refine Wk.nxt ?_
                refine Wk.reg ?_
                refine Wk.rPure 0 (some 24) (.int .i64 ((j : Nat) : Int)) rfl rfl (by kernel_rfl) (by kernel_rfl) ?_
                refine Wk.rPure 1 (some 25) (.int .i64 ((j + 1 : Nat) : Int)) rfl rfl (by kernel_rfl) (Wk.int64 (n := ((j : Nat) : Int) + 1) (z := ((j + 1 : Nat) : Int)) (by omega) (by omega) (by omega) (by kernel_rfl)) ?_
                refine Wk.rPure 2 (some 8) (.int .i64 ((j + 1 : Nat) : Int)) rfl rfl (by kernel_rfl) (by kernel_rfl) ?_
                refine Wk.rEnd 3 rfl ?_
                refine Wk.nxt ?_
                refine ⟨_, ?_, j + 1, false, rfl, by kernel_rfl, (by omega), ⟨fun e_ => (by cases e_), fun q_ => hbb.2 (fun i_ h1_ h2_ => q_ i_ (by omega) h2_)⟩, rfl⟩
                · omega
            · refine wp_seq ?_
              refine wp_seq ?_
              refine Wk.reg ?_
              refine Wk.rPure 0 (some 20) (.int .i64 ((j : Nat) : Int)) rfl rfl (by kernel_rfl) (by kernel_rfl) ?_
              refine Wk.rPure 1 (some 21) (.slice (some ⟨q2, off2, none⟩) pn pc) rfl rfl (by kernel_rfl) (by kernel_rfl) ?_
              refine Wk.rPure 2 (some 22) (.int .i64 ((pn : Nat) : Int)) rfl rfl (by kernel_rfl) (by kernel_rfl) ?_
              refine Wk.rPure 3 (some 23) (.bool true) rfl rfl (by kernel_rfl) (Wk.boolT (b := decide (((j : Nat) : Int) < ((pn : Nat) : Int))) (decide_eq_true (by omega)) (by kernel_rfl)) ?_
              refine Wk.rEnd 4 rfl ?_
              refine Wk.nxt ?_
              refine wp_cond_true (by kernel_rfl) ?_
              refine wp_skip ?_
              refine Wk.nxt ?_
              refine wp_seq ?_
              refine wp_block ?_
              refine wp_seq ?_
              refine Wk.reg ?_
              refine Wk.rPure 0 (some 26) (.slice (some ⟨g_x, o_x, none⟩) n c) rfl rfl (by kernel_rfl) (by kernel_rfl) ?_
              refine Wk.rPure 1 (some 27) (.int .i64 ((i : Nat) : Int)) rfl rfl (by kernel_rfl) (by kernel_rfl) ?_
              refine Wk.rPure 2 (some 28) (.int .i64 ((j : Nat) : Int)) rfl rfl (by kernel_rfl) (by kernel_rfl) ?_
              refine Wk.rPure 3 (some 29) (.int .i64 ((j / 2 : Nat) : Int)) rfl rfl (by kernel_rfl) (Mur.quo_nat 3 3 (.tmp 28) (.const (.int .i64 2)) rfl j 2 (by kernel_rfl) (by kernel_rfl) (by omega) (by omega)) ?_
              refine Wk.rPure 4 (some 30) (.pointer (some ⟨g_x, o_x + i * 97, none⟩)) rfl rfl (by kernel_rfl) (Wk.index_sl 50 32 (.tmp 26) (.tmp 27) rfl Tryd.underlying50 97 (by kernel_rfl) g_x o_x n c i .i64 (by kernel_rfl) (by kernel_rfl) (by omega)) ?_
              refine Wk.rPure 5 (some 31) (.pointer (some ⟨g_x, o_x + i * 97, none⟩)) rfl rfl (by kernel_rfl) (by kernel_rfl) ?_
              refine Wk.rPure 6 (some 32) (.pointer (some ⟨g_x, o_x + i * 97 + (j / 2) * 1, none⟩)) rfl rfl (by kernel_rfl) (Wk.index_arr 30 5 (.tmp 31) (.tmp 29) rfl 32 Tryd.underlying30 1 (by kernel_rfl) g_x (o_x + i * 97) (j / 2) .i64 (by kernel_rfl) (by kernel_rfl) (by omega)) ?_
              refine Wk.rPure 7 (some 33) (.int .u8 (((x.k.getD (j / 2) 0).toNat : Nat) : Int)) rfl rfl (by kernel_rfl) (Wk.load1 5 (.tmp 32) rfl (by kernel_rfl) ⟨g_x, o_x + i * 97 + (j / 2) * 1, none⟩ (by kernel_rfl) (.int .u8 (((x.k.getD (j / 2) 0).toNat : Nat) : Int)) (Mur.SlA.kcell (Mur.SlA.chg hA_ HB (fun g off e hl => trivial)) hx (j := j / 2) (by omega))) ?_
              refine Wk.rPure 8 (some 9) (.int .u8 (((x.k.getD (j / 2) 0).toNat : Nat) : Int)) rfl rfl (by kernel_rfl) (by kernel_rfl) ?_
              refine Wk.rEnd 9 rfl ?_
              refine Wk.nxt ?_
              refine wp_seq ?_
              refine Wk.reg ?_
              refine Wk.rPure 0 (some 34) (.int .u8 (((x.k.getD (j / 2) 0).toNat : Nat) : Int)) rfl rfl (by kernel_rfl) (by kernel_rfl) ?_
              refine Wk.rPure 1 (some 35) (.int .u8 (((x.k.getD (j / 2) 0 >>> 4).toNat : Nat) : Int)) rfl rfl (by kernel_rfl) (Mur.quo8_16 5 5 (.tmp 34) (.const (.int .u8 16)) rfl (x.k.getD (j / 2) 0) (by kernel_rfl) (by kernel_rfl)) ?_
              refine Wk.rPure 2 (some 10) (.int .u8 (((x.k.getD (j / 2) 0 >>> 4).toNat : Nat) : Int)) rfl rfl (by kernel_rfl) (by kernel_rfl) ?_
              refine Wk.rEnd 3 rfl ?_
              refine Wk.nxt ?_
              refine wp_seq ?_
              refine wp_seq ?_
              refine Wk.reg ?_
              refine Wk.rPure 0 (some 36) (.int .i64 ((j : Nat) : Int)) rfl rfl (by kernel_rfl) (by kernel_rfl) ?_
              refine Wk.rPure 1 (some 37) (.int .i64 ((j % 2 : Nat) : Int)) rfl rfl (by kernel_rfl) (Wk.rem_nat 3 3 (.tmp 36) (.const (.int .i64 2)) rfl j 2 (by kernel_rfl) (by kernel_rfl) (by omega)) ?_
              by_cases hx2 : ((j % 2 : Nat) : Int) = (1 : Int)
              · refine Wk.rPure 2 (some 38) (.bool true) rfl rfl (by kernel_rfl) (Wk.boolT (b := (((j % 2 : Nat) : Int) == (1 : Int))) (beq_iff_eq.2 (by first | exact hx2 | omega)) (by kernel_rfl)) ?_
                refine Wk.rEnd 3 rfl ?_
                refine Wk.nxt ?_
                refine wp_cond_true (by kernel_rfl) ?_
                refine Wk.reg ?_
                refine Wk.rPure 0 (some 39) (.int .u8 (((x.k.getD (j / 2) 0).toNat : Nat) : Int)) rfl rfl (by kernel_rfl) (by kernel_rfl) ?_
                refine Wk.rPure 1 (some 40) (.int .u8 (((x.k.getD (j / 2) 0 &&& 15).toNat : Nat) : Int)) rfl rfl (by kernel_rfl) (Mur.rem8_16 5 5 (.tmp 39) (.const (.int .u8 16)) rfl (x.k.getD (j / 2) 0) (by kernel_rfl) (by kernel_rfl)) ?_
                refine Wk.rPure 2 (some 10) (.int .u8 (((x.k.getD (j / 2) 0 &&& 15).toNat : Nat) : Int)) rfl rfl (by kernel_rfl) (by kernel_rfl) ?_
                refine Wk.rEnd 3 rfl ?_
                refine Wk.nxt ?_
                refine Wk.reg ?_
                refine Wk.rPure 0 (some 41) (.bool true) rfl rfl (by kernel_rfl) (by kernel_rfl) ?_
                refine Wk.rPure 1 (some 42) (.bool true) rfl rfl (by kernel_rfl) (by kernel_rfl) ?_
                refine Wk.rPure 2 (some 43) (.int .u8 (((x.k.getD (j / 2) 0 &&& 15).toNat : Nat) : Int)) rfl rfl (by kernel_rfl) (by kernel_rfl) ?_
                refine Wk.rPure 3 (some 44) (.slice (some ⟨q2, off2, none⟩) pn pc) rfl rfl (by kernel_rfl) (by kernel_rfl) ?_
                refine Wk.rPure 4 (some 45) (.int .i64 ((j : Nat) : Int)) rfl rfl (by kernel_rfl) (by kernel_rfl) ?_
                refine Wk.rPure 5 (some 46) (.pointer (some ⟨q2, off2 + j * 1, none⟩)) rfl rfl (by kernel_rfl) (Wk.index_sl 38 5 (.tmp 44) (.tmp 45) rfl Tryd.underlying38 1 (by kernel_rfl) q2 off2 pn pc j .i64 (by kernel_rfl) (by kernel_rfl) (by omega)) ?_
                refine Wk.rPure 6 (some 47) (.int .u8 (((p.getD j 0).toNat : Nat) : Int)) rfl rfl (by kernel_rfl) (Wk.load1 5 (.tmp 46) rfl (by kernel_rfl) ⟨q2, off2 + j * 1, none⟩ (by kernel_rfl) (.int .u8 (((p.getD j 0).toNat : Nat) : Int)) (Mur.byt_cell (Mur.byt_chg hb HB (fun g off e hl => trivial)) j (by omega))) ?_
                by_cases hx3 : (((x.k.getD (j / 2) 0 &&& 15).toNat : Nat) : Int) = (((p.getD j 0).toNat : Nat) : Int)
                · refine Wk.rPure 7 (some 48) (.bool true) rfl rfl (by kernel_rfl) (Wk.boolT (b := ((((x.k.getD (j / 2) 0 &&& 15).toNat : Nat) : Int) == (((p.getD j 0).toNat : Nat) : Int))) (beq_iff_eq.2 (by first | exact hx3 | omega)) (by kernel_rfl)) ?_
                  refine Wk.rPure 8 (some 49) (.bool true) rfl rfl (by kernel_rfl) (by kernel_rfl) ?_
                  refine Wk.rPure 9 (some 7) (.bool true) rfl rfl (by kernel_rfl) (by kernel_rfl) ?_
                  refine Wk.rEnd 10 rfl ?_
                  refine Wk.inN ?_
                  refine Wk.nxt ?_
                  refine Wk.reg ?_
                  refine Wk.rPure 0 (some 24) (.int .i64 ((j : Nat) : Int)) rfl rfl (by kernel_rfl) (by kernel_rfl) ?_
                  refine Wk.rPure 1 (some 25) (.int .i64 ((j + 1 : Nat) : Int)) rfl rfl (by kernel_rfl) (Wk.int64 (n := ((j : Nat) : Int) + 1) (z := ((j + 1 : Nat) : Int)) (by omega) (by omega) (by omega) (by kernel_rfl)) ?_
                  refine Wk.rPure 2 (some 8) (.int .i64 ((j + 1 : Nat) : Int)) rfl rfl (by kernel_rfl) (by kernel_rfl) ?_
                  refine Wk.rEnd 3 rfl ?_
                  refine Wk.nxt ?_
                  refine ⟨_, ?_, j + 1, true, rfl, by kernel_rfl, (by omega), ⟨fun _ i_ h1_ h2_ => by rcases Nat.lt_or_ge i_ j with h3_ | h3_ <;> first | exact hbb.1 rfl i_ h3_ h2_ | (have e_ : i_ = j := (by omega); rw [e_, (show Mur.nib x.k j = x.k.getD (j / 2) 0 &&& 15 from by unfold Mur.nib; rw [if_neg (by omega)])]; exact Mur.u8_cast_inj hx3), fun _ => rfl⟩, rfl⟩
                  · omega
                · refine Wk.rPure 7 (some 48) (.bool false) rfl rfl (by kernel_rfl) (Wk.boolF (b := ((((x.k.getD (j / 2) 0 &&& 15).toNat : Nat) : Int) == (((p.getD j 0).toNat : Nat) : Int))) (beq_eq_false_iff_ne.2 (by first | exact hx3 | omega)) (by kernel_rfl)) ?_
                  refine Wk.rPure 8 (some 49) (.bool false) rfl rfl (by kernel_rfl) (by kernel_rfl) ?_
                  refine Wk.rPure 9 (some 7) (.bool false) rfl rfl (by kernel_rfl) (by kernel_rfl) ?_
                  refine Wk.rEnd 10 rfl ?_
                  refine Wk.inN ?_
                  refine Wk.nxt ?_
                  refine Wk.reg ?_
                  refine Wk.rPure 0 (some 24) (.int .i64 ((j : Nat) : Int)) rfl rfl (by kernel_rfl) (by kernel_rfl) ?_
                  refine Wk.rPure 1 (some 25) (.int .i64 ((j + 1 : Nat) : Int)) rfl rfl (by kernel_rfl) (Wk.int64 (n := ((j : Nat) : Int) + 1) (z := ((j + 1 : Nat) : Int)) (by omega) (by omega) (by omega) (by kernel_rfl)) ?_
                  refine Wk.rPure 2 (some 8) (.int .i64 ((j + 1 : Nat) : Int)) rfl rfl (by kernel_rfl) (by kernel_rfl) ?_
                  refine Wk.rEnd 3 rfl ?_
                  refine Wk.nxt ?_
                  refine ⟨_, ?_, j + 1, false, rfl, by kernel_rfl, (by omega), ⟨fun e_ => (by cases e_), fun q_ => absurd (by have h5_ := q_ j (by omega) (by omega); rw [(show Mur.nib x.k j = x.k.getD (j / 2) 0 &&& 15 from by unfold Mur.nib; rw [if_neg (by omega)])] at h5_; rw [h5_]) hx3⟩, rfl⟩
                  · omega
              · refine Wk.rPure 2 (some 38) (.bool false) rfl rfl (by kernel_rfl) (Wk.boolF (b := (((j % 2 : Nat) : Int) == (1 : Int))) (beq_eq_false_iff_ne.2 (by first | exact hx2 | omega)) (by kernel_rfl)) ?_
                refine Wk.rEnd 3 rfl ?_
                refine Wk.nxt ?_
                refine wp_cond_false (by kernel_rfl) ?_
                refine wp_skip ?_
                refine Wk.nxt ?_
                refine Wk.reg ?_
                refine Wk.rPure 0 (some 41) (.bool true) rfl rfl (by kernel_rfl) (by kernel_rfl) ?_
                refine Wk.rPure 1 (some 42) (.bool true) rfl rfl (by kernel_rfl) (by kernel_rfl) ?_
                refine Wk.rPure 2 (some 43) (.int .u8 (((x.k.getD (j / 2) 0 >>> 4).toNat : Nat) : Int)) rfl rfl (by kernel_rfl) (by kernel_rfl) ?_
                refine Wk.rPure 3 (some 44) (.slice (some ⟨q2, off2, none⟩) pn pc) rfl rfl (by kernel_rfl) (by kernel_rfl) ?_
                refine Wk.rPure 4 (some 45) (.int .i64 ((j : Nat) : Int)) rfl rfl (by kernel_rfl) (by kernel_rfl) ?_
                refine Wk.rPure 5 (some 46) (.pointer (some ⟨q2, off2 + j * 1, none⟩)) rfl rfl (by kernel_rfl) (Wk.index_sl 38 5 (.tmp 44) (.tmp 45) rfl Tryd.underlying38 1 (by kernel_rfl) q2 off2 pn pc j .i64 (by kernel_rfl) (by kernel_rfl) (by omega)) ?_
                refine Wk.rPure 6 (some 47) (.int .u8 (((p.getD j 0).toNat : Nat) : Int)) rfl rfl (by kernel_rfl) (Wk.load1 5 (.tmp 46) rfl (by kernel_rfl) ⟨q2, off2 + j * 1, none⟩ (by kernel_rfl) (.int .u8 (((p.getD j 0).toNat : Nat) : Int)) (Mur.byt_cell (Mur.byt_chg hb HB (fun g off e hl => trivial)) j (by omega))) ?_
                by_cases hx4 : (((x.k.getD (j / 2) 0 >>> 4).toNat : Nat) : Int) = (((p.getD j 0).toNat : Nat) : Int)
                · refine Wk.rPure 7 (some 48) (.bool true) rfl rfl (by kernel_rfl) (Wk.boolT (b := ((((x.k.getD (j / 2) 0 >>> 4).toNat : Nat) : Int) == (((p.getD j 0).toNat : Nat) : Int))) (beq_iff_eq.2 (by first | exact hx4 | omega)) (by kernel_rfl)) ?_
                  refine Wk.rPure 8 (some 49) (.bool true) rfl rfl (by kernel_rfl) (by kernel_rfl) ?_
                  refine Wk.rPure 9 (some 7) (.bool true) rfl rfl (by kernel_rfl) (by kernel_rfl) ?_
                  refine Wk.rEnd 10 rfl ?_
                  refine Wk.inN ?_
                  refine Wk.nxt ?_
                  refine Wk.reg ?_
                  refine Wk.rPure 0 (some 24) (.int .i64 ((j : Nat) : Int)) rfl rfl (by kernel_rfl) (by kernel_rfl) ?_
                  refine Wk.rPure 1 (some 25) (.int .i64 ((j + 1 : Nat) : Int)) rfl rfl (by kernel_rfl) (Wk.int64 (n := ((j : Nat) : Int) + 1) (z := ((j + 1 : Nat) : Int)) (by omega) (by omega) (by omega) (by kernel_rfl)) ?_
                  refine Wk.rPure 2 (some 8) (.int .i64 ((j + 1 : Nat) : Int)) rfl rfl (by kernel_rfl) (by kernel_rfl) ?_
                  refine Wk.rEnd 3 rfl ?_
                  refine Wk.nxt ?_
                  refine ⟨_, ?_, j + 1, true, rfl, by kernel_rfl, (by omega), ⟨fun _ i_ h1_ h2_ => by rcases Nat.lt_or_ge i_ j with h3_ | h3_ <;> first | exact hbb.1 rfl i_ h3_ h2_ | (have e_ : i_ = j := (by omega); rw [e_, (show Mur.nib x.k j = x.k.getD (j / 2) 0 >>> 4 from by unfold Mur.nib; rw [if_pos (by omega)])]; exact Mur.u8_cast_inj hx4), fun _ => rfl⟩, rfl⟩
                  · omega
                · refine Wk.rPure 7 (some 48) (.bool false) rfl rfl (by kernel_rfl) (Wk.boolF (b := ((((x.k.getD (j / 2) 0 >>> 4).toNat : Nat) : Int) == (((p.getD j 0).toNat : Nat) : Int))) (beq_eq_false_iff_ne.2 (by first | exact hx4 | omega)) (by kernel_rfl)) ?_
                  refine Wk.rPure 8 (some 49) (.bool false) rfl rfl (by kernel_rfl) (by kernel_rfl) ?_
                  refine Wk.rPure 9 (some 7) (.bool false) rfl rfl (by kernel_rfl) (by kernel_rfl) ?_
                  refine Wk.rEnd 10 rfl ?_
                  refine Wk.inN ?_
                  refine Wk.nxt ?_
                  refine Wk.reg ?_
                  refine Wk.rPure 0 (some 24) (.int .i64 ((j : Nat) : Int)) rfl rfl (by kernel_rfl) (by kernel_rfl) ?_
                  refine Wk.rPure 1 (some 25) (.int .i64 ((j + 1 : Nat) : Int)) rfl rfl (by kernel_rfl) (Wk.int64 (n := ((j : Nat) : Int) + 1) (z := ((j + 1 : Nat) : Int)) (by omega) (by omega) (by omega) (by kernel_rfl)) ?_
                  refine Wk.rPure 2 (some 8) (.int .i64 ((j + 1 : Nat) : Int)) rfl rfl (by kernel_rfl) (by kernel_rfl) ?_
                  refine Wk.rEnd 3 rfl ?_
                  refine Wk.nxt ?_
                  refine ⟨_, ?_, j + 1, false, rfl, by kernel_rfl, (by omega), ⟨fun e_ => (by cases e_), fun q_ => absurd (by have h5_ := q_ j (by omega) (by omega); rw [(show Mur.nib x.k j = x.k.getD (j / 2) 0 >>> 4 from by unfold Mur.nib; rw [if_pos (by omega)])] at h5_; rw [h5_]) hx4⟩, rfl⟩
                  · omega
          · have hun := Mur.under_run (p := p) (k := x.k) hpl_ (show pn ≤ j by omega) hbb
            cases b
            · refine wp_seq ?_
              refine wp_seq ?_
              refine Wk.reg ?_
              refine Wk.rPure 0 (some 20) (.int .i64 ((j : Nat) : Int)) rfl rfl (by kernel_rfl) (by kernel_rfl) ?_
              refine Wk.rPure 1 (some 21) (.slice PA pn pc) rfl rfl (by kernel_rfl) (by kernel_rfl) ?_
              refine Wk.rPure 2 (some 22) (.int .i64 ((pn : Nat) : Int)) rfl rfl (by kernel_rfl) (by kernel_rfl) ?_
              refine Wk.rPure 3 (some 23) (.bool false) rfl rfl (by kernel_rfl) (Wk.boolF (b := decide (((j : Nat) : Int) < ((pn : Nat) : Int))) (decide_eq_false (by omega)) (by kernel_rfl)) ?_
              refine Wk.rEnd 4 rfl ?_
              refine Wk.nxt ?_
              refine wp_cond_false (by kernel_rfl) ?_
              refine wp_exit ?_
              refine Wk.thX ?_
              refine Wk.thX ?_
              refine Wk.inX ?_
              refine Wk.nxt ?_
              refine wp_seq ?_
              refine Wk.reg ?_
              refine Wk.rPure 0 (some 50) (.bool false) rfl rfl (by kernel_rfl) (by kernel_rfl) ?_
              refine Wk.rEnd 1 rfl ?_
              refine Wk.nxt ?_
              refine wp_cond_false (by kernel_rfl) ?_
              refine wp_skip ?_
              refine Wk.inN ?_
              refine Wk.nxt ?_
              refine Wk.reg ?_
              refine Wk.rPure 0 (some 18) (.int .i64 ((i : Nat) : Int)) rfl rfl (by kernel_rfl) (by kernel_rfl) ?_
              refine Wk.rPure 1 (some 19) (.int .i64 ((i + 1 : Nat) : Int)) rfl rfl (by kernel_rfl) (Wk.int64 (n := ((i : Nat) : Int) + 1) (z := ((i + 1 : Nat) : Int)) (by omega) (by omega) (by omega) (by kernel_rfl)) ?_
              refine Wk.rPure 2 (some 6) (.int .i64 ((i + 1 : Nat) : Int)) rfl rfl (by kernel_rfl) (by kernel_rfl) ?_
              refine Wk.rEnd 3 rfl ?_
              refine Wk.nxt ?_
              refine ⟨_, ?_, i + 1, A1, N, c1, rfl, by kernel_rfl, (by omega), (by rw [Mur.filter_no hx hun]; exact hO), HB⟩
              · omega
            · refine wp_seq ?_
              refine wp_seq ?_
              refine Wk.reg ?_
              refine Wk.rPure 0 (some 20) (.int .i64 ((j : Nat) : Int)) rfl rfl (by kernel_rfl) (by kernel_rfl) ?_
              refine Wk.rPure 1 (some 21) (.slice PA pn pc) rfl rfl (by kernel_rfl) (by kernel_rfl) ?_
              refine Wk.rPure 2 (some 22) (.int .i64 ((pn : Nat) : Int)) rfl rfl (by kernel_rfl) (by kernel_rfl) ?_
              refine Wk.rPure 3 (some 23) (.bool false) rfl rfl (by kernel_rfl) (Wk.boolF (b := decide (((j : Nat) : Int) < ((pn : Nat) : Int))) (decide_eq_false (by omega)) (by kernel_rfl)) ?_
              refine Wk.rEnd 4 rfl ?_
              refine Wk.nxt ?_
              refine wp_cond_false (by kernel_rfl) ?_
              refine wp_exit ?_
              refine Wk.thX ?_
              refine Wk.thX ?_
              refine Wk.inX ?_
              refine Wk.nxt ?_
              refine wp_seq ?_
              refine Wk.reg ?_
              refine Wk.rPure 0 (some 50) (.bool true) rfl rfl (by kernel_rfl) (by kernel_rfl) ?_
              refine Wk.rEnd 1 rfl ?_
              refine Wk.nxt ?_
              refine wp_cond_true (by kernel_rfl) ?_
              refine Wk.reg ?_
              refine Wk.rPure 0 (some 51) (.slice A1 N c1) rfl rfl (by kernel_rfl) (by kernel_rfl) ?_
              refine Wk.rPure 1 (some 52) (.slice (some ⟨g_x, o_x, none⟩) n c) rfl rfl (by kernel_rfl) (by kernel_rfl) ?_
              refine Wk.rPure 2 (some 53) (.int .i64 ((i : Nat) : Int)) rfl rfl (by kernel_rfl) (by kernel_rfl) ?_
              refine Wk.rPure 3 (some 54) (.pointer (some ⟨g_x, o_x + i * 97, none⟩)) rfl rfl (by kernel_rfl) (Wk.index_sl 50 32 (.tmp 52) (.tmp 53) rfl Tryd.underlying50 97 (by kernel_rfl) g_x o_x n c i .i64 (by kernel_rfl) (by kernel_rfl) (by omega)) ?_
              refine Wk.rPure 4 (some 55) (.agg ((Mur.attC x.k x.r x.n x.t).toArray)) rfl rfl (by kernel_rfl) (Wk.loadR 32 (.tmp 54) rfl _ Tryd.underlying32 rfl g_x (o_x + i * 97) (by kernel_rfl) (Mur.attC x.k x.r x.n x.t) (by rw [Mur.attC_length x.hk x.hr x.ht]; kernel_rfl) ((Mur.SlA.chg hA_ HB (fun g off e hl => trivial)).elem hx)) ?_
              refine Wk.rEx 5 (some 56) _ rfl rfl (by kernel_rfl) (Mur.build1 22 32 (.tmp 55) rfl Tryd.underlying22 attI x.k x.r x.t x.n x.hk x.hr x.ht (by kernel_rfl)) ?_
              rintro _ W3 ⟨rfl, hb1, ch1, sz1⟩
              have zz1 := ch1.size
              have ow1 := Mur.OwnA.chg hO ch1 (fun q e _ _ => trivial)
              refine Wk.rEx 6 (some 57) _ rfl rfl (by kernel_rfl) (Mur.appendA (.tmp 51) (.tmp 56) 22 32 rfl Tryd.underlying22 attI w.heap.size A1 N c1 ((L.take i).filter (fun y_ => Mur.under p y_.k)) (some ⟨W2.heap.size, 0, none⟩) 1 1 ([x]) (by kernel_rfl) (by kernel_rfl) ow1 (Mur.slA_box x hb1) (fun h => by cases h) (by omega) (by omega) (N + 1) (by omega) (((L.take i).filter (fun y_ => Mur.under p y_.k)) ++ ([x])) rfl) ?_
              rintro _ W4 ⟨AA1, nn1, rfl, ow2, ch2, ha1⟩
              have zz2 := ch2.size
              have hq1 := ow2.nc
              have hq2 := ow2.cm
              refine Wk.rPure 7 (some 5) (.slice AA1 (N + 1) nn1) rfl rfl (by kernel_rfl) (by kernel_rfl) ?_
              refine Wk.rEnd 8 rfl ?_
              refine Wk.inN ?_
              refine Wk.nxt ?_
              refine Wk.reg ?_
              refine Wk.rPure 0 (some 18) (.int .i64 ((i : Nat) : Int)) rfl rfl (by kernel_rfl) (by kernel_rfl) ?_
              refine Wk.rPure 1 (some 19) (.int .i64 ((i + 1 : Nat) : Int)) rfl rfl (by kernel_rfl) (Wk.int64 (n := ((i : Nat) : Int) + 1) (z := ((i + 1 : Nat) : Int)) (by omega) (by omega) (by omega) (by kernel_rfl)) ?_
              refine Wk.rPure 2 (some 6) (.int .i64 ((i + 1 : Nat) : Int)) rfl rfl (by kernel_rfl) (by kernel_rfl) ?_
              refine Wk.rEnd 3 rfl ?_
              refine Wk.nxt ?_
              have kk1 := Wk.Chg.step HB ch1 trivial
              have kk2 := Wk.Chg.step kk1 ch2 (Wk.newOr_blk (fun g hg => by have := hO.lt g hg; omega))
              refine ⟨_, ?_, i + 1, AA1, N + 1, nn1, rfl, by kernel_rfl, (by omega), (by rw [Mur.filter_yes hx hun]; exact ow2), kk2⟩
              · omega
      · rw [List.take_of_length_le (show L.length ≤ i by omega), ← Mur.belowL_ok hpre1] at hO
        refine wp_seq ?_
        refine wp_seq ?_
        refine Wk.reg ?_
        refine Wk.rPure 0 (some 14) (.int .i64 ((i : Nat) : Int)) rfl rfl (by kernel_rfl) (by kernel_rfl) ?_
        refine Wk.rPure 1 (some 15) (.slice A n c) rfl rfl (by kernel_rfl) (by kernel_rfl) ?_
        refine Wk.rPure 2 (some 16) (.int .i64 ((n : Nat) : Int)) rfl rfl (by kernel_rfl) (by kernel_rfl) ?_
        refine Wk.rPure 3 (some 17) (.bool false) rfl rfl (by kernel_rfl) (Wk.boolF (b := decide (((i : Nat) : Int) < ((n : Nat) : Int))) (decide_eq_false (by omega)) (by kernel_rfl)) ?_
        refine Wk.rEnd 4 rfl ?_
        refine Wk.nxt ?_
        refine wp_cond_false (by kernel_rfl) ?_
        refine wp_exit ?_
        refine Wk.thX ?_
        refine Wk.thX ?_
        refine Wk.inX ?_
        refine Wk.nxt ?_
        refine wp_seq ?_
        refine Wk.reg ?_
        refine Wk.rPure 0 (some 58) (.slice A1 N c1) rfl rfl (by kernel_rfl) (by kernel_rfl) ?_
        refine Wk.rPure 1 (some 4) (.slice A1 N c1) rfl rfl (by kernel_rfl) (by kernel_rfl) ?_
        refine Wk.rEnd 2 rfl ?_
        refine Wk.nxt ?_
        refine wp_ret ?_
        refine Wk.ret (.slice A1 N c1) rfl (by kernel_rfl) ?_
        exact ⟨_, _, _, rfl, hO, HB⟩
theorem Rsum20_any (hc kc : Array Value) (Hh : Hid (hc = stCells Mur.H0)) (Hk : Hid (kc = Mur.u32s Mur.K)) (g : Nat) (A : Option Addr) (n c : Nat) (L : List Att) (p : List UInt8) (PA : Option Addr) (pn pc : Nat) (w : World) (hp : w.heap[g]? = some (.cells (hc ++ kc) 97 (0, 0))) (hA_ : SlA w A n L) (hb : Byt w PA pn p) (hn : n ≤ 200) (hpn : pn ≤ 9223372036854775807) : Calls Tryd.prog 28 #[.slice A n c, .pointer (some ⟨g, 0, none⟩), .slice PA pn pc] w fun e w' => ∃ d, Hid (d = Mur.sumL p L) ∧ d.length = 32 ∧ e = .returned (.tuple #[.agg (b8s d).toArray, .int .i64 (((Mur.belowL p L).length : Nat) : Int)]) ∧ Wk.Chg [] w w' := by
  have hcs := hc_size Hh.out
  have kcs := kc_size Hk.out
  have hg_ := (Array.getElem?_eq_some_iff.1 hp).1
  have hLl0 := hA_.len
  refine calls_of_wp Tryd.func28 rfl ?_
  refine wp_seq ?_
  refine Wk.reg ?_
  refine Wk.rEx 0 (some 6) _ rfl rfl (by kernel_rfl) (Wk.new_ex (.pointer (some ⟨w.heap.size, 0, none⟩)) #[.int .u8 0, .int .u8 0, .int .u8 0, .int .u8 0, .int .u8 0, .int .u8 0, .int .u8 0, .int .u8 0, .int .u8 0, .int .u8 0, .int .u8 0, .int .u8 0, .int .u8 0, .int .u8 0, .int .u8 0, .int .u8 0, .int .u8 0, .int .u8 0, .int .u8 0, .int .u8 0, .int .u8 0, .int .u8 0, .int .u8 0, .int .u8 0, .int .u8 0, .int .u8 0, .int .u8 0, .int .u8 0, .int .u8 0, .int .u8 0, .int .u8 0, .int .u8 0] 30 (by kernel_rfl)) ?_
  rintro _ W1 ⟨rfl, hb1, ch1, sz1⟩
  have zz1 := ch1.size
  refine Wk.rPure 1 (some 7) (.int .i64 0) rfl rfl (by kernel_rfl) (by kernel_rfl) ?_
  refine Wk.rEnd 2 rfl ?_
  refine Wk.nxt ?_
  refine wp_seq ?_
  refine wp_seq ?_
  refine Wk.reg ?_
  refine Wk.rPure 0 (some 9) (.slice PA pn pc) rfl rfl (by kernel_rfl) (by kernel_rfl) ?_
  refine Wk.rCall 1 (some 10) 30 [.tmp 9] #[38] [.slice PA pn pc] rfl rfl (by kernel_rfl) rfl (by kernel_rfl) (by kernel_rfl) ?_
  have kk1 : Wk.Chg [] w W1 := Wk.Chg.step ((Wk.Chg.refl _).more (by simp)) ch1 trivial
  refine (Risp_any p PA pn pc W1 (Mur.byt_chg hb kk1 (fun g off e hl => trivial)) (by omega)).mono ?_
  cases hpre1 : Mur.isPre p
  · rintro _ _ ⟨rfl, rfl⟩
    refine ⟨_, rfl, ?_⟩
    refine Wk.rPure 2 (some 11) (.bool true) rfl rfl (by kernel_rfl) (by kernel_rfl) ?_
    refine Wk.rEnd 3 rfl ?_
    refine Wk.nxt ?_
    refine wp_cond_true (by kernel_rfl) ?_
    refine wp_seq ?_
    refine Wk.reg ?_
    refine Wk.rPure 0 (some 12) (.agg ((b8s [0, 0, 0, 0, 0, 0, 0, 0, 0, 0, 0, 0, 0, 0, 0, 0, 0, 0, 0, 0, 0, 0, 0, 0, 0, 0, 0, 0, 0, 0, 0, 0]).toArray)) rfl rfl (by kernel_rfl) (by kernel_rfl) ?_
    refine Wk.rExS 1 none _ rfl rfl (by kernel_rfl) (Mur.storeAll 30 (.tmp 6) (.tmp 12) rfl w.heap.size (by kernel_rfl) ([0, 0, 0, 0, 0, 0, 0, 0, 0, 0, 0, 0, 0, 0, 0, 0, 0, 0, 0, 0, 0, 0, 0, 0, 0, 0, 0, 0, 0, 0, 0, 0]) 32 rfl (by kernel_rfl) (by kernel_rfl) 30 #[.int .u8 0, .int .u8 0, .int .u8 0, .int .u8 0, .int .u8 0, .int .u8 0, .int .u8 0, .int .u8 0, .int .u8 0, .int .u8 0, .int .u8 0, .int .u8 0, .int .u8 0, .int .u8 0, .int .u8 0, .int .u8 0, .int .u8 0, .int .u8 0, .int .u8 0, .int .u8 0, .int .u8 0, .int .u8 0, .int .u8 0, .int .u8 0, .int .u8 0, .int .u8 0, .int .u8 0, .int .u8 0, .int .u8 0, .int .u8 0, .int .u8 0, .int .u8 0] hb1 rfl) ?_
    rintro W2 ⟨hb2, ch2⟩
    have zz2 := ch2.size
    refine Wk.rPure 2 (some 7) (.int .i64 0) rfl rfl (by kernel_rfl) (by kernel_rfl) ?_
    refine Wk.rEnd 3 rfl ?_
    refine Wk.nxt ?_
    refine wp_ret ?_
    refine Wk.thR ?_
    refine Wk.ret (.tuple #[.agg (b8s Mur.z32).toArray, .int .i64 0]) rfl (Mur.results_dig rfl _ _ w.heap.size 30 _ (0, 0) _ (.int .i64 0) (by kernel_rfl) hb2 Tryd.underlying30 rfl (by kernel_rfl) (by kernel_rfl)) ?_
    have kk2 := Wk.Chg.step kk1 ch2 ⟨.inr (by omega), trivial⟩
    exact ⟨Mur.z32, Go.Lib.hid (Mur.sumL_no hpre1).symm, rfl, by rw [Mur.belowL_no hpre1]; rfl, kk2⟩
  · rintro _ _ ⟨rfl, rfl⟩
    refine ⟨_, rfl, ?_⟩
    refine Wk.rPure 2 (some 11) (.bool false) rfl rfl (by kernel_rfl) (by kernel_rfl) ?_
    refine Wk.rEnd 3 rfl ?_
    refine Wk.nxt ?_
    refine wp_cond_false (by kernel_rfl) ?_
    refine wp_skip ?_
    refine Wk.nxt ?_
    refine wp_seq ?_
    refine Wk.reg ?_
    refine Wk.rPure 0 (some 13) (.slice A n c) rfl rfl (by kernel_rfl) (by kernel_rfl) ?_
    refine Wk.rPure 1 (some 14) (.slice PA pn pc) rfl rfl (by kernel_rfl) (by kernel_rfl) ?_
    refine Wk.rCall 2 (some 15) 29 [.tmp 13, .tmp 14] #[50, 38] [.slice A n c, .slice PA pn pc] rfl rfl (by kernel_rfl) rfl (by kernel_rfl) (by kernel_rfl) ?_
    refine (Rbelow_any A n c L p PA pn pc W1 (Mur.SlA.chg hA_ kk1 (fun g off e hl => trivial)) (Mur.byt_chg hb kk1 (fun g off e hl => trivial)) (by omega) (by omega)).mono ?_
    rintro _ W3 ⟨AA1, nn1, nn2, rfl, ow1, ch3⟩
    have zz3 := ch3.size
    have hq1 := ow1.nc
    have hq2 := ow1.cm
    have hq3 := ow1.sl.len
    have hq4 := Mur.belowL_len p L
    refine ⟨_, rfl, ?_⟩
    refine Wk.rPure 3 (some 8) (.slice AA1 nn1 nn2) rfl rfl (by kernel_rfl) (by kernel_rfl) ?_
    refine Wk.rEnd 4 rfl ?_
    refine Wk.nxt ?_
    refine wp_seq ?_
    refine Wk.reg ?_
    refine Wk.rPure 0 (some 16) (.pointer (some ⟨g, 0, none⟩)) rfl rfl (by kernel_rfl) (by kernel_rfl) ?_
    refine Wk.rPure 1 (some 17) (.slice AA1 nn1 nn2) rfl rfl (by kernel_rfl) (by kernel_rfl) ?_
    refine Wk.rCall 2 (some 18) 21 [.tmp 17] #[22] [.slice AA1 nn1 nn2] rfl rfl (by kernel_rfl) rfl (by kernel_rfl) (by kernel_rfl) ?_
    refine (Row_any AA1 nn1 nn2 (Mur.belowL p L) W3 ow1.sl (by omega)).mono ?_
    rintro _ W4 ⟨AA2, nn3, nn4, rfl, ow2, ch4⟩
    have zz4 := ch4.size
    have hrl1 := ow2.byt.1
    rw [Mur.rowL_length] at hrl1
    have hq5 := ow2.nc
    have hq6 := ow2.cm
    refine ⟨_, rfl, ?_⟩
    refine Wk.rCall 3 (some 19) 22 [.tmp 16, .tmp 18] #[41, 38] [.pointer (some ⟨g, 0, none⟩), .slice AA2 nn3 nn4] rfl rfl (by kernel_rfl) rfl (by kernel_rfl) (by kernel_rfl) ?_
    have kk3 := Wk.Chg.step kk1 ch3 trivial
    have kk4 := Wk.Chg.step kk3 ch4 trivial
    refine (Hsum_any hc kc Hh Hk g (Mur.rowL (Mur.belowL p L)) AA2 nn3 nn4 W4 (Wk.Chg.hp kk4 hp trivial) ow2.byt (by omega) ow2.nil (by omega)).mono ?_
    rintro _ W5 ⟨dd1, hd1, hdl1, rfl, ch5⟩
    have zz5 := ch5.size
    refine ⟨_, rfl, ?_⟩
    refine Wk.rPure 4 (some 20) (.slice AA1 nn1 nn2) rfl rfl (by kernel_rfl) (by kernel_rfl) ?_
    refine Wk.rPure 5 (some 21) (.int .i64 ((nn1 : Nat) : Int)) rfl rfl (by kernel_rfl) (by kernel_rfl) ?_
    refine Wk.rExS 6 none _ rfl rfl (by kernel_rfl) (Mur.storeAll 30 (.tmp 6) (.tmp 19) rfl w.heap.size (by kernel_rfl) dd1 32 hdl1 (by kernel_rfl) (by kernel_rfl) 30 #[.int .u8 0, .int .u8 0, .int .u8 0, .int .u8 0, .int .u8 0, .int .u8 0, .int .u8 0, .int .u8 0, .int .u8 0, .int .u8 0, .int .u8 0, .int .u8 0, .int .u8 0, .int .u8 0, .int .u8 0, .int .u8 0, .int .u8 0, .int .u8 0, .int .u8 0, .int .u8 0, .int .u8 0, .int .u8 0, .int .u8 0, .int .u8 0, .int .u8 0, .int .u8 0, .int .u8 0, .int .u8 0, .int .u8 0, .int .u8 0, .int .u8 0, .int .u8 0] (Wk.Chg.hp ch5 (Wk.Chg.hp ch4 (Wk.Chg.hp ch3 hb1 trivial) trivial) trivial) rfl) ?_
    rintro W6 ⟨hb3, ch6⟩
    have zz6 := ch6.size
    refine Wk.rPure 7 (some 7) (.int .i64 ((nn1 : Nat) : Int)) rfl rfl (by kernel_rfl) (by kernel_rfl) ?_
    refine Wk.rEnd 8 rfl ?_
    refine Wk.nxt ?_
    refine wp_ret ?_
    have hd_ : dd1 = Mur.sumL p L := by rw [hd1.out, Mur.sumL_ok hpre1]
    have hn_ : (Mur.belowL p L).length = nn1 := by omega
    refine Wk.ret (.tuple #[.agg ((b8s dd1).toArray), .int .i64 ((nn1 : Nat) : Int)]) rfl (Mur.results_dig rfl _ _ w.heap.size 30 _ (0, 0) _ (.int .i64 ((nn1 : Nat) : Int)) (by kernel_rfl) hb3 Tryd.underlying30 rfl (by rw [List.size_toArray, Mur.b8s_length, hdl1]; kernel_rfl) (by kernel_rfl)) ?_
    have kk5 := Wk.Chg.step kk4 ch5 trivial
    have kk6 := Wk.Chg.step kk5 ch6 ⟨.inr (by omega), trivial⟩
    exact ⟨dd1, Go.Lib.hid hd_, hdl1, by rw [hn_], kk6⟩
end Go.Proofs.YtfhneademopciaaDoor
namespace Go.Proofs.YtfhneademopciaaDoor
open Go.RowKit
open Mur (b8s Byt Own8 Seg Segs flat cutA attC Att SlA OwnA rowA)
set_option maxRecDepth 100000
set_option maxHeartbeats 4000000
theorem Clone_none (w : World) : Calls Tryd.prog 51 #[.slice none 0 0] w fun e w' => e = .returned (.slice none 0 0) ∧ Wk.Chg [] w w' := by
  refine calls_of_wp Tryd.func51 rfl ?_
  refine wp_seq ?_
  refine Wk.reg ?_
  refine Wk.rPure 0 (some 2) (.slice none 0 0) rfl rfl (by kernel_rfl) (by kernel_rfl) ?_
  refine Wk.rEnd 1 rfl ?_
  refine Wk.nxt ?_
  refine wp_seq ?_
  refine wp_seq ?_
  refine Wk.reg ?_
  refine Wk.rPure 0 (some 3) (.slice none 0 0) rfl rfl (by kernel_rfl) (by kernel_rfl) ?_
  refine Wk.rPure 1 (some 4) (.bool true) rfl rfl (by kernel_rfl) (by kernel_rfl) ?_
  refine Wk.rEnd 2 rfl ?_
  refine Wk.nxt ?_
  refine wp_cond_true (by kernel_rfl) ?_
  refine wp_seq ?_
  refine Wk.reg ?_
  refine Wk.rPure 0 (some 2) (.slice none 0 0) rfl rfl (by kernel_rfl) (by kernel_rfl) ?_
  refine Wk.rEnd 1 rfl ?_
  refine Wk.nxt ?_
  refine wp_ret ?_
  refine Wk.thR ?_
  refine Wk.ret (.slice none 0 0) rfl (by kernel_rfl) ?_
  exact ⟨rfl, (Wk.Chg.refl _)⟩
theorem Clone_some (lo q n c : Nat) (L : List Att) (w : World) (h : OwnA w lo 32 (some ⟨q, 0, none⟩) n c L) (hn : n ≤ 300) : Calls Tryd.prog 51 #[.slice (some ⟨q, 0, none⟩) n c] w fun e w' => ∃ A1 c1, e = .returned (.slice A1 n c1) ∧ OwnA w' w.heap.size 32 A1 n c1 L ∧ Wk.Chg [] w w' := by
  have hOl := h.sl.len
  have hOc := h.nc
  have hqn := h.lt q rfl
  refine calls_of_wp Tryd.func51 rfl ?_
  refine wp_seq ?_
  refine Wk.reg ?_
  refine Wk.rPure 0 (some 2) (.slice none 0 0) rfl rfl (by kernel_rfl) (by kernel_rfl) ?_
  refine Wk.rEnd 1 rfl ?_
  refine Wk.nxt ?_
  refine wp_seq ?_
  refine wp_seq ?_
  refine Wk.reg ?_
  refine Wk.rPure 0 (some 3) (.slice (some ⟨q, 0, none⟩) n c) rfl rfl (by kernel_rfl) (by kernel_rfl) ?_
  refine Wk.rPure 1 (some 4) (.bool false) rfl rfl (by kernel_rfl) (by kernel_rfl) ?_
  refine Wk.rEnd 2 rfl ?_
  refine Wk.nxt ?_
  refine wp_cond_false (by kernel_rfl) ?_
  refine wp_skip ?_
  refine Wk.nxt ?_
  refine wp_seq ?_
  refine Wk.reg ?_
  refine Wk.rEx 0 (some 5) _ rfl rfl (by kernel_rfl) (Wk.new_ex (.slice (some ⟨w.heap.size, 0, none⟩) 0 0) #[] 32 (by kernel_rfl)) ?_
  rintro _ W1 ⟨rfl, hb1, ch1, sz1⟩
  have zz1 := ch1.size
  refine Wk.rPure 1 (some 6) (.slice (some ⟨q, 0, none⟩) n c) rfl rfl (by kernel_rfl) (by kernel_rfl) ?_
  have ow1 := Mur.ownA_empty hb1 (Nat.le_refl _)
  have ow2 := Mur.OwnA.chg h ch1 (fun q e _ _ => trivial)
  refine Wk.rEx 2 (some 7) _ rfl rfl (by kernel_rfl) (Mur.appendA (.tmp 5) (.tmp 6) 22 32 rfl Tryd.underlying22 attI w.heap.size (some ⟨w.heap.size, 0, none⟩) 0 0 ([]) (some ⟨q, 0, none⟩) n c L (by kernel_rfl) (by kernel_rfl) ow1 ow2.sl (fun h => by cases h) (by omega) (by omega) n (by omega) L rfl) ?_
  rintro _ W2 ⟨AA1, nn1, rfl, ow3, ch2, ha1⟩
  have zz2 := ch2.size
  have hq1 := ow3.nc
  have hq2 := ow3.cm
  refine Wk.rPure 3 (some 2) (.slice AA1 n nn1) rfl rfl (by kernel_rfl) (by kernel_rfl) ?_
  refine Wk.rEnd 4 rfl ?_
  refine Wk.nxt ?_
  refine wp_ret ?_
  have kk1 : Wk.Chg [] w W1 := Wk.Chg.step ((Wk.Chg.refl _).more (by simp)) ch1 trivial
  have kk2 := Wk.Chg.step kk1 ch2 (Wk.newOr_blk (fun g hg => by have := ow1.lt g hg; omega))
  refine Wk.ret (.slice AA1 n nn1) rfl (by kernel_rfl) ?_
  exact ⟨_, _, rfl, ow3, kk2⟩
theorem Copy_any (lo : Nat) (L : List Att) (g : Nat) (F : List Nat) (w : World) (h : Mur.SetF 32 57 lo w g L F) : Calls Tryd.prog 27 #[.pointer (some ⟨g, 0, none⟩)] w fun e w' => ∃ g' F', e = .returned (.pointer (some ⟨g', 0, none⟩)) ∧ Mur.SetF 32 57 w.heap.size w' g' L F' ∧ Wk.Chg [] w w' := by
  have hmem_ := Mur.SetF.mem h
  obtain ⟨A, n, c, hS, rfl⟩ := h
  have hpS := hS.hp
  have hgl := (Array.getElem?_eq_some_iff.1 hpS).1
  have hOw := hS.own
  have hlen := hS.len
  have hOl := hOw.sl.len
  have hOc := hOw.nc
  have hlo_ := hS.lo_
  rcases hOw.cur with ⟨rfl, rfl, rfl⟩ | ⟨q, cur, rfl, hbq_, hq_, _, _⟩
  · obtain rfl : L = [] := List.eq_nil_of_length_eq_zero hOl
    refine calls_of_wp Tryd.func27 rfl ?_
    refine wp_seq ?_
    refine Wk.reg ?_
    refine Wk.rPure 0 (some 2) (.pointer none) rfl rfl (by kernel_rfl) (by kernel_rfl) ?_
    refine Wk.rEnd 1 rfl ?_
    refine Wk.nxt ?_
    refine wp_seq ?_
    refine wp_seq ?_
    refine Wk.reg ?_
    refine Wk.rPure 0 (some 3) (.pointer (some ⟨g, 0, none⟩)) rfl rfl (by kernel_rfl) (by kernel_rfl) ?_
    refine Wk.rPure 1 (some 4) (.bool false) rfl rfl (by kernel_rfl) (by kernel_rfl) ?_
    refine Wk.rEnd 2 rfl ?_
    refine Wk.nxt ?_
    refine wp_cond_false (by kernel_rfl) ?_
    refine wp_skip ?_
    refine Wk.nxt ?_
    refine wp_seq ?_
    refine Wk.reg ?_
    refine Wk.rPure 0 (some 5) (.pointer (some ⟨g, 0, none⟩)) rfl rfl (by kernel_rfl) (by kernel_rfl) ?_
    refine Wk.rPure 1 (some 6) (.pointer (some ⟨g, 0, none⟩)) rfl rfl (by kernel_rfl) (by kernel_rfl) ?_
    refine Wk.rPure 2 (some 7) (.pointer (some ⟨g, 0, none⟩)) rfl rfl (by kernel_rfl) (by kernel_rfl) ?_
    refine Wk.rPure 3 (some 8) (.slice none 0 0) rfl rfl (by kernel_rfl) (Wk.load1 22 (.tmp 7) rfl (by kernel_rfl) ⟨g, 0, none⟩ (by kernel_rfl) (.slice none 0 0) ((cell_of_row _ _ 0 _ _ _ hpS).trans rfl)) ?_
    refine Wk.rCall 4 (some 9) 51 [.tmp 8] #[22] [.slice none 0 0] rfl rfl (by kernel_rfl) rfl (by kernel_rfl) (by kernel_rfl) ?_
    refine (Clone_none w).mono ?_
    rintro _ W1 ⟨rfl, ch1⟩
    have zz1 := ch1.size
    refine ⟨_, rfl, ?_⟩
    refine Wk.rPure 5 (some 10) (.agg #[.slice none 0 0]) rfl rfl (by kernel_rfl) (by kernel_rfl) ?_
    refine Wk.rEx 6 (some 11) _ rfl rfl (by kernel_rfl) (Wk.new_ex (.pointer (some ⟨W1.heap.size, 0, none⟩)) #[.slice none 0 0] 57 (by kernel_rfl)) ?_
    rintro _ W2 ⟨rfl, hb1, ch2, sz1⟩
    have zz2 := ch2.size
    refine Wk.rPure 7 (some 2) (.pointer (some ⟨W1.heap.size, 0, none⟩)) rfl rfl (by kernel_rfl) (by kernel_rfl) ?_
    refine Wk.rEnd 8 rfl ?_
    refine Wk.nxt ?_
    refine wp_ret ?_
    have kk1 : Wk.Chg [] w W1 := Wk.Chg.step ((Wk.Chg.refl _).more (by simp)) ch1 trivial
    have kk2 := Wk.Chg.step kk1 ch2 trivial
    refine Wk.ret (.pointer (some ⟨W1.heap.size, 0, none⟩)) rfl (by kernel_rfl) ?_
    exact ⟨W1.heap.size, _, rfl, ⟨_, _, _, ⟨hb1, Mur.ownA_nil _ _ _, (fun q h => by cases h), by omega, hS.srt, hS.len, hS.ok⟩, rfl⟩, kk2⟩
  · have hql_ := (Array.getElem?_eq_some_iff.1 hq_).1
    refine calls_of_wp Tryd.func27 rfl ?_
    refine wp_seq ?_
    refine Wk.reg ?_
    refine Wk.rPure 0 (some 2) (.pointer none) rfl rfl (by kernel_rfl) (by kernel_rfl) ?_
    refine Wk.rEnd 1 rfl ?_
    refine Wk.nxt ?_
    refine wp_seq ?_
    refine wp_seq ?_
    refine Wk.reg ?_
    refine Wk.rPure 0 (some 3) (.pointer (some ⟨g, 0, none⟩)) rfl rfl (by kernel_rfl) (by kernel_rfl) ?_
    refine Wk.rPure 1 (some 4) (.bool false) rfl rfl (by kernel_rfl) (by kernel_rfl) ?_
    refine Wk.rEnd 2 rfl ?_
    refine Wk.nxt ?_
    refine wp_cond_false (by kernel_rfl) ?_
    refine wp_skip ?_
    refine Wk.nxt ?_
    refine wp_seq ?_
    refine Wk.reg ?_
    refine Wk.rPure 0 (some 5) (.pointer (some ⟨g, 0, none⟩)) rfl rfl (by kernel_rfl) (by kernel_rfl) ?_
    refine Wk.rPure 1 (some 6) (.pointer (some ⟨g, 0, none⟩)) rfl rfl (by kernel_rfl) (by kernel_rfl) ?_
    refine Wk.rPure 2 (some 7) (.pointer (some ⟨g, 0, none⟩)) rfl rfl (by kernel_rfl) (by kernel_rfl) ?_
    refine Wk.rPure 3 (some 8) (.slice (some ⟨q, 0, none⟩) n c) rfl rfl (by kernel_rfl) (Wk.load1 22 (.tmp 7) rfl (by kernel_rfl) ⟨g, 0, none⟩ (by kernel_rfl) (.slice (some ⟨q, 0, none⟩) n c) ((cell_of_row _ _ 0 _ _ _ hpS).trans rfl)) ?_
    refine Wk.rCall 4 (some 9) 51 [.tmp 8] #[22] [.slice (some ⟨q, 0, none⟩) n c] rfl rfl (by kernel_rfl) rfl (by kernel_rfl) (by kernel_rfl) ?_
    refine (Clone_some lo q n c L w hOw (by omega)).mono ?_
    rintro _ W3 ⟨AA1, nn1, rfl, ow1, ch3⟩
    have zz3 := ch3.size
    have hq1 := ow1.nc
    refine ⟨_, rfl, ?_⟩
    refine Wk.rPure 5 (some 10) (.agg #[.slice AA1 n nn1]) rfl rfl (by kernel_rfl) (by kernel_rfl) ?_
    refine Wk.rEx 6 (some 11) _ rfl rfl (by kernel_rfl) (Wk.new_ex (.pointer (some ⟨W3.heap.size, 0, none⟩)) #[.slice AA1 n nn1] 57 (by kernel_rfl)) ?_
    rintro _ W4 ⟨rfl, hb2, ch4, sz2⟩
    have zz4 := ch4.size
    refine Wk.rPure 7 (some 2) (.pointer (some ⟨W3.heap.size, 0, none⟩)) rfl rfl (by kernel_rfl) (by kernel_rfl) ?_
    refine Wk.rEnd 8 rfl ?_
    refine Wk.nxt ?_
    refine wp_ret ?_
    have ow2 := Mur.OwnA.chg ow1 ch4 (fun q e _ _ => trivial)
    have kk3 : Wk.Chg [] w W3 := Wk.Chg.step ((Wk.Chg.refl _).more (by simp)) ch3 trivial
    have kk4 := Wk.Chg.step kk3 ch4 trivial
    refine Wk.ret (.pointer (some ⟨W3.heap.size, 0, none⟩)) rfl (by kernel_rfl) ?_
    exact ⟨W3.heap.size, _, rfl, ⟨_, _, _, ⟨hb2, ow2, (fun q_ h_ => by have := ow1.lt q_ h_; omega), by omega, hS.srt, hS.len, hS.ok⟩, rfl⟩, kk4⟩
theorem Copy_nil (w : World) : Calls Tryd.prog 27 #[.pointer none] w fun e w' => e = .returned (.pointer none) ∧ Wk.Chg [] w w' := by
  refine calls_of_wp Tryd.func27 rfl ?_
  refine wp_seq ?_
  refine Wk.reg ?_
  refine Wk.rPure 0 (some 2) (.pointer none) rfl rfl (by kernel_rfl) (by kernel_rfl) ?_
  refine Wk.rEnd 1 rfl ?_
  refine Wk.nxt ?_
  refine wp_seq ?_
  refine wp_seq ?_
  refine Wk.reg ?_
  refine Wk.rPure 0 (some 3) (.pointer none) rfl rfl (by kernel_rfl) (by kernel_rfl) ?_
  refine Wk.rPure 1 (some 4) (.bool true) rfl rfl (by kernel_rfl) (by kernel_rfl) ?_
  refine Wk.rEnd 2 rfl ?_
  refine Wk.nxt ?_
  refine wp_cond_true (by kernel_rfl) ?_
  refine wp_seq ?_
  refine Wk.reg ?_
  refine Wk.rPure 0 (some 2) (.pointer none) rfl rfl (by kernel_rfl) (by kernel_rfl) ?_
  refine Wk.rEnd 1 rfl ?_
  refine Wk.nxt ?_
  refine wp_ret ?_
  refine Wk.thR ?_
  refine Wk.ret (.pointer none) rfl (by kernel_rfl) ?_
  exact ⟨rfl, (Wk.Chg.refl _)⟩
theorem below_seqn (A : Option Addr) (n c : Nat) (b1 b2 : Nat) (w : World) (hX1 : w.heap[b1]? = some (.cells #[.pointer none] 24 (0, 0))) (hX2 : w.heap[b2]? = some (.cells #[.slice A n c] 38 (0, 0))) : Wk.Seq Tryd.prog 64 #[.pointer (some ⟨b1, 0, none⟩), .pointer (some ⟨b2, 0, none⟩)] Mur.encA [] [b1, b2] w := by
  refine ⟨fun k_ hk_ => ?_, fun l J W hW hJ0 hY hJ => ?_⟩
  · simp only [List.mem_cons, List.not_mem_nil, or_false] at hk_
    rcases hk_ with rfl | rfl
    · exact (Array.getElem?_eq_some_iff.1 hX1).1
    · exact (Array.getElem?_eq_some_iff.1 hX2).1
  · replace hX1 := hW.hp hX1 (by simp)
    replace hX2 := hW.hp hX2 (by simp)
    show Calls Tryd.prog 64 #[.func (.yield l) #[] #[], .pointer (some ⟨b1, 0, none⟩), .pointer (some ⟨b2, 0, none⟩)] W _
    refine calls_of_wp Tryd.func64 rfl ?_
    refine wp_scope_straight ?_
    refine wp_seq ?_
    refine wp_seq ?_
    refine Wk.reg ?_
    refine Wk.rPure 0 (some 8) (.pointer none) rfl rfl (by kernel_rfl) (Wk.load1 24 (.tmp 1) rfl (by kernel_rfl) ⟨b1, 0, none⟩ (by kernel_rfl) (.pointer none) ((cell_of_row _ _ 0 _ _ _ hX1).trans rfl)) ?_
    refine Wk.rPure 1 (some 9) (.bool true) rfl rfl (by kernel_rfl) (by kernel_rfl) ?_
    refine Wk.rPure 2 (some 10) (.bool true) rfl rfl (by kernel_rfl) (by kernel_rfl) ?_
    refine Wk.rPass 3 (some 11) rfl rfl (by kernel_rfl) ?_
    refine Wk.rPass 4 (some 12) rfl rfl (by kernel_rfl) ?_
    refine Wk.rPass 5 (some 13) rfl rfl (by kernel_rfl) ?_
    refine Wk.rPure 6 (some 14) (.bool true) rfl rfl (by kernel_rfl) (by kernel_rfl) ?_
    refine Wk.rEnd 7 rfl ?_
    refine Wk.nxt ?_
    refine wp_cond_true (by kernel_rfl) ?_
    refine wp_ret ?_
    refine Wk.thR ?_
    refine Wk.ngR ?_
    refine Wk.ret (.tuple #[]) rfl (by kernel_rfl) ?_
    exact ⟨⟨_, rfl⟩, hJ⟩
theorem Below_nil (A : Option Addr) (n c : Nat) (w : World) : Calls Tryd.prog 18 #[.pointer none, .slice A n c] w fun e w' => ∃ A n c, e = .returned (.slice A n c) ∧ OwnA w' w.heap.size 32 A n c [] ∧ Wk.Chg [] w w' := by
  refine calls_of_wp Tryd.func18 rfl ?_
  refine wp_seq ?_
  refine Wk.reg ?_
  refine Wk.rPure 0 (some 4) (.slice none 0 0) rfl rfl (by kernel_rfl) (by kernel_rfl) ?_
  refine Wk.rEnd 1 rfl ?_
  refine Wk.nxt ?_
  refine wp_seq ?_
  refine Wk.reg ?_
  refine Wk.rPure 0 (some 5) (.pointer none) rfl rfl (by kernel_rfl) (by kernel_rfl) ?_
  refine Wk.rPure 1 (some 6) (.slice A n c) rfl rfl (by kernel_rfl) (by kernel_rfl) ?_
  refine Wk.rCall 2 (some 7) 42 [.tmp 5, .tmp 6] #[24, 38] [.pointer none, .slice A n c] rfl rfl (by kernel_rfl) rfl (by kernel_rfl) (by kernel_rfl) ?_
  refine (below_nil A n c w).mono ?_
  rintro _ W1 ⟨bq1, bq2, rfl, hbq1, hbq2, hzq1, hzq2, hzq3, ch1⟩
  have zz1 := ch1.size
  refine ⟨_, rfl, ?_⟩
  refine Wk.rCall 3 (some 8) 44 [.tmp 7] #[85] [.func (.func 64) #[] #[.pointer (some ⟨bq1, 0, none⟩), .pointer (some ⟨bq2, 0, none⟩)]] rfl rfl (by kernel_rfl) rfl (by kernel_rfl) (by kernel_rfl) ?_
  refine (Collect_any bq1 bq2 ([] : List Att) ([bq1, bq2]) W1 (below_seqn A n c bq1 bq2 W1 hbq1 hbq2) (Nat.zero_le _)).mono ?_
  rintro _ W2 ⟨AA1, nn1, nn2, rfl, ow1, ch2⟩
  have zz2 := ch2.size
  have hq1 := ow1.nc
  have hq2 := ow1.cm
  have hq3 := ow1.sl.len
  refine ⟨_, rfl, ?_⟩
  refine Wk.rPure 4 (some 4) (.slice AA1 nn1 nn2) rfl rfl (by kernel_rfl) (by kernel_rfl) ?_
  refine Wk.rEnd 5 rfl ?_
  refine Wk.nxt ?_
  refine wp_ret ?_
  have kk1 : Wk.Chg [] w W1 := Wk.Chg.step ((Wk.Chg.refl _).more (by simp)) ch1 trivial
  have kk2 := Wk.Chg.step kk1 ch2 trivial
  refine Wk.ret (.slice AA1 nn1 nn2) rfl (by kernel_rfl) ?_
  exact ⟨_, _, _, rfl, ow1.rebase (fun q_ h_ => by have := ow1.lt q_ h_; omega), kk2⟩
theorem Of_any (lo : Nat) (L : List Att) (g : Nat) (F : List Nat) (k : List UInt8) (w : World) (h : Mur.SetF 32 57 lo w g L F) (hk : k.length = 32) : Calls Tryd.prog 31 #[.pointer (some ⟨g, 0, none⟩), .agg (b8s k).toArray] w fun e w' => ∃ A n c, e = .returned (.slice A n c) ∧ OwnA w' w.heap.size 32 A n c (Mur.ofK k L) ∧ Wk.Chg [] w w' := by
  have hM_ := Mur.SetF.mem h
  have hS_ := Mur.SetF.len h
  refine Wk.calls_of_wpM Tryd.func31 rfl ?_
  refine Wk.noP ?_
  refine wp_seq ?_
  refine Wk.reg ?_
  refine Wk.rEx 0 (some 3) _ rfl rfl (by kernel_rfl) (Wk.new_ex (.pointer (some ⟨w.heap.size, 0, none⟩)) ((b8s k).toArray) 30 (by kernel_rfl)) ?_
  rintro _ W1 ⟨rfl, hb1, ch1, sz1⟩
  have zz1 := ch1.size
  refine Wk.rEx 1 (some 4) _ rfl rfl (by kernel_rfl) (Wk.new_ex (.pointer (some ⟨W1.heap.size, 0, none⟩)) #[.slice none 0 0] 22 (by kernel_rfl)) ?_
  rintro _ W2 ⟨rfl, hb2, ch2, sz2⟩
  have zz2 := ch2.size
  refine Wk.rEnd 2 rfl ?_
  refine Wk.nxt ?_
  refine wp_seq ?_
  refine wp_seq ?_
  refine Wk.reg ?_
  refine Wk.rPure 0 (some 6) (.pointer (some ⟨g, 0, none⟩)) rfl rfl (by kernel_rfl) (by kernel_rfl) ?_
  refine Wk.rCall 1 (some 7) 42 [.tmp 6, .const (.slice none 0 0)] #[24, 38] [.pointer (some ⟨g, 0, none⟩), .slice none 0 0] rfl rfl (by kernel_rfl) rfl (by kernel_rfl) (by kernel_rfl) ?_
  refine (below_any g none 0 0 W2).mono ?_
  rintro _ W3 ⟨bq1, bq2, rfl, hbq1, hbq2, hzq1, hzq2, hzq3, ch3⟩
  have zz3 := ch3.size
  refine ⟨_, rfl, ?_⟩
  refine Wk.rEnd 2 rfl ?_
  refine Wk.nxt ?_
  refine wp_block ?_
  have kk1 : Wk.Chg [] w W1 := Wk.Chg.step ((Wk.Chg.refl _).more (by simp)) ch1 trivial
  have kk2 := Wk.Chg.step kk1 ch2 trivial
  have kk3 := Wk.Chg.step kk2 ch3 trivial
  have hD1 := Mur.SetF.chg h ch1 (fun s hs => trivial)
  have hD2 := Mur.SetF.chg hD1 ch2 (fun s hs => trivial)
  have hD3 := Mur.SetF.chg hD2 ch3 (fun s hs => trivial)
  have hseq1 := below_seq lo L g F [] none 0 0 bq1 bq2 W3 hD3 (Byt.nil _ none) (by omega) hbq1 hbq2
  rw [Mur.belowL_nil] at hseq1
  have hFw := hseq1.1
  have hFb_ : ∀ k_, k_ ∈ (bq1 :: bq2 :: (F ++ Mur.pblk none 0)) → k_ ≠ W1.heap.size := fun k_ hk_ => by
    simp only [List.mem_cons, List.mem_append] at hk_
    rcases hk_ with rfl | rfl | hk_ | hk_
    · omega
    · omega
    · have := hM_ k_ hk_; omega
    · exact absurd hk_ (by simp [Mur.pblk])
  refine Wk.range (hseq1) (by kernel_rfl) (fun _ _ => by kernel_rfl) (fun x => rfl) (fun pre W' => ∃ A n c, W'.heap[W1.heap.size]? = some (.cells #[.slice A n c] 22 (0, 0)) ∧ OwnA W' W3.heap.size 32 A n c (Mur.ofK k pre) ∧ Wk.Chg [W1.heap.size] W3 W' ∧ W'.heap[w.heap.size]? = some (.cells (b8s k).toArray 30 (0, 0))) ?_ ?_ ?_ ?_ ?_
  · rintro pre A1_ A2_ ⟨A, n, c, h1, h2, h3, hE0⟩ hc
    exact ⟨A, n, c, hc.hp h1 trivial, h2.chg hc (fun _ _ _ _ => trivial), h3.step hc trivial, hc.hp hE0 trivial⟩
  · rintro pre A1_ A2_ r_ o_ ⟨A, n, c, h1, h2, h3, hE0⟩ hr ho hoc hc
    exact ⟨A, n, c, hc.hp h1 ⟨Mur.cells_ne h1 ho hoc, trivial⟩, h2.chg hc (fun q hq _ _ => ⟨h2.off_obj ho hoc q hq, trivial⟩), h3.step hc ⟨.inr hr, trivial⟩, hc.hp hE0 ⟨Mur.cells_ne hE0 ho hoc, trivial⟩⟩
  · exact ⟨none, 0, 0, (Wk.Chg.hp ch3 hb2 trivial), Mur.ownA_nil _ _ _, (Wk.Chg.refl _).more (by simp), (Wk.Chg.hp ch3 (Wk.Chg.hp ch2 hb1 trivial) trivial)⟩
  · intro lz pre x post A1 hsp hI hwl hlA hlz
    obtain ⟨A, n, c, hIp, hIo, hIc, hE0⟩ := hI
    have hlhE0_ := (Array.getElem?_eq_some_iff.1 hE0).1
    have hzI_ := hIc.size
    have hIlen := hIo.sl.len
    have hInc := hIo.nc
    have hbl_ := (Array.getElem?_eq_some_iff.1 hIp).1
    have hbz := Mur.cells_ne' hIp hlz
    have hIol := hIo.off_loop hlz
    have hpl_ : pre.length + 1 ≤ 200 := by have := congrArg List.length hsp; simp at this; omega
    have hfl_ := List.length_filter_le (fun _ : Att => true) pre
    have hbzhE0 := Mur.cells_ne' hE0 hlz
    have hol_ := Mur.ofK_len k pre
    refine Wk.regI ?_
    refine Wk.iEx 0 (some 5) _ rfl rfl rfl (by kernel_rfl) (Wk.new_ex (.pointer (some ⟨A1.heap.size, 0, none⟩)) #[.int .u8 0, .int .u8 0, .int .u8 0, .int .u8 0, .int .u8 0, .int .u8 0, .int .u8 0, .int .u8 0, .int .u8 0, .int .u8 0, .int .u8 0, .int .u8 0, .int .u8 0, .int .u8 0, .int .u8 0, .int .u8 0, .int .u8 0, .int .u8 0, .int .u8 0, .int .u8 0, .int .u8 0, .int .u8 0, .int .u8 0, .int .u8 0, .int .u8 0, .int .u8 0, .int .u8 0, .int .u8 0, .int .u8 0, .int .u8 0, .int .u8 0, .int .u8 0, .int .u8 0, .int .u8 0, .int .u8 0, .int .u8 0, .int .u8 0, .int .u8 0, .int .u8 0, .int .u8 0, .int .u8 0, .int .u8 0, .int .u8 0, .int .u8 0, .int .u8 0, .int .u8 0, .int .u8 0, .int .u8 0, .int .u8 0, .int .u8 0, .int .u8 0, .int .u8 0, .int .u8 0, .int .u8 0, .int .u8 0, .int .u8 0, .int .u8 0, .int .u8 0, .int .u8 0, .int .u8 0, .int .u8 0, .int .u8 0, .int .u8 0, .int .u8 0, .int .i64 0, .int .u8 0, .int .u8 0, .int .u8 0, .int .u8 0, .int .u8 0, .int .u8 0, .int .u8 0, .int .u8 0, .int .u8 0, .int .u8 0, .int .u8 0, .int .u8 0, .int .u8 0, .int .u8 0, .int .u8 0, .int .u8 0, .int .u8 0, .int .u8 0, .int .u8 0, .int .u8 0, .int .u8 0, .int .u8 0, .int .u8 0, .int .u8 0, .int .u8 0, .int .u8 0, .int .u8 0, .int .u8 0, .int .u8 0, .int .u8 0, .int .u8 0, .int .u8 0] 32 (by kernel_rfl)) ?_
    rintro _ W4 ⟨rfl, hb3, ch4, sz3⟩
    have zz4 := ch4.size
    rw [← Mur.attC_zero] at hb3
    refine Wk.iExS 1 none _ rfl rfl rfl (by kernel_rfl) (Mur.storeArr 32 (.tmp 5) (.tmp 8) rfl A1.heap.size (by kernel_rfl) (Mur.attC x.k x.r x.n x.t).toArray 97 (Mur.attC_size x.hk x.hr x.ht) Mur.attC_all (by kernel_rfl) (by kernel_rfl) 32 ((Mur.attC Mur.z32 Mur.z32 0 Mur.z32).toArray) hb3 (Mur.attC_size rfl rfl rfl)) ?_
    rintro W5 ⟨hb4, ch5⟩
    have zz5 := ch5.size
    refine Wk.iEnd 2 rfl ?_
    refine Wk.nxt ?_
    have kk4 : Wk.Chg [] A1 W4 := Wk.Chg.step ((Wk.Chg.refl _).more (by simp)) ch4 trivial
    have kk5 := Wk.Chg.step kk4 ch5 ⟨.inr (by omega), trivial⟩
    refine ⟨kk5, ?_⟩
    have hlz2_ := hlz.imp (fun _ h_ => Wk.Chg.hp kk5 h_ trivial)
    intro A2 hch2
    have zz6 := hch2.size
    refine wpIn_block ?_
    refine wpIn_seq ?_
    refine Wk.regI ?_
    refine Wk.iPure 0 (some 9) (.pointer (some ⟨A1.heap.size, 0, none⟩)) rfl rfl rfl (by kernel_rfl) (by kernel_rfl) ?_
    refine Wk.iPure 1 (some 10) (.agg ((b8s x.k).toArray)) rfl rfl rfl (by kernel_rfl) (Wk.loadR 30 (.tmp 9) rfl _ Tryd.underlying30 rfl A1.heap.size 0 (by kernel_rfl) (b8s x.k) (by rw [Mur.b8s_length, x.hk]; kernel_rfl) (Mur.att_key (Wk.Chg.hp hch2 hb4 ⟨by omega, trivial⟩))) ?_
    refine Wk.iPure 2 (some 11) (.agg ((b8s k).toArray)) rfl rfl rfl (by kernel_rfl) (Mur.loadAll 30 (.tmp 3) rfl _ Tryd.underlying30 rfl w.heap.size (by kernel_rfl) k 32 hk (by kernel_rfl) 30 (0, 0) (Wk.Chg.hp hch2 (Wk.Chg.hp ch5 (Wk.Chg.hp ch4 hE0 trivial) ⟨by omega, trivial⟩) ⟨by omega, trivial⟩)) ?_
    by_cases hkx : x.k = k
    · refine Wk.iPure 3 (some 12) (.bool true) rfl rfl rfl (by kernel_rfl) (Mur.run_eql_yes digT x.k k x.hk hk hkx _ (.tmp 10) (.tmp 11) 30 rfl (by kernel_rfl) (by kernel_rfl)) ?_
      refine Wk.iEnd 4 rfl ?_
      refine Wk.nxt ?_
      refine wpIn_cond_true (by kernel_rfl) ?_
      refine Wk.regI ?_
      refine Wk.iPure 0 (some 13) (.slice A n c) rfl rfl rfl (by kernel_rfl) (Wk.load1 22 (.tmp 4) rfl (by kernel_rfl) ⟨W1.heap.size, 0, none⟩ (by kernel_rfl) (.slice A n c) ((cell_of_row _ _ 0 _ _ _ (Wk.Chg.hp hch2 (Wk.Chg.hp ch5 (Wk.Chg.hp ch4 hIp trivial) ⟨by omega, trivial⟩) ⟨by omega, trivial⟩)).trans rfl)) ?_
      refine Wk.iPure 1 (some 14) (.agg ((Mur.attC x.k x.r x.n x.t).toArray)) rfl rfl rfl (by kernel_rfl) (Mur.loadArr 32 (.tmp 5) rfl _ Tryd.underlying32 rfl A1.heap.size (by kernel_rfl) (Mur.attC x.k x.r x.n x.t).toArray 97 (Mur.attC_size x.hk x.hr x.ht) (by kernel_rfl) 32 (0, 0) (Wk.Chg.hp hch2 hb4 ⟨by omega, trivial⟩)) ?_
      refine Wk.iEx 2 (some 15) _ rfl rfl rfl (by kernel_rfl) (Mur.build1 22 32 (.tmp 14) rfl Tryd.underlying22 attI x.k x.r x.t x.n x.hk x.hr x.ht (by kernel_rfl)) ?_
      rintro _ W6 ⟨rfl, hb5, ch6, sz4⟩
      have zz7 := ch6.size
      have ow1 := Mur.OwnA.chg hIo ch4 (fun q e _ _ => trivial)
      have ow2 := Mur.OwnA.chg ow1 ch5 (fun q e _ _ => ⟨by have := hIo.lt q e; omega, trivial⟩)
      have ow3 := Mur.OwnA.chg ow2 hch2 (fun q e _ _ => ⟨hIol q e, trivial⟩)
      have ow4 := Mur.OwnA.chg ow3 ch6 (fun q e _ _ => trivial)
      refine Wk.iEx 3 (some 16) _ rfl rfl rfl (by kernel_rfl) (Mur.appendA (.tmp 13) (.tmp 15) 22 32 rfl Tryd.underlying22 attI W3.heap.size A n c (Mur.ofK k pre) (some ⟨A2.heap.size, 0, none⟩) 1 1 ([x]) (by kernel_rfl) (by kernel_rfl) ow4 (Mur.slA_box x hb5) (fun h => by cases h) (by omega) (by omega) (n + 1) (by omega) ((Mur.ofK k pre) ++ ([x])) rfl) ?_
      rintro _ W7 ⟨AA1, nn1, rfl, ow5, ch7, ha1⟩
      have zz8 := ch7.size
      have hq1 := ow5.nc
      have hq2 := ow5.cm
      refine Wk.iExS 4 none _ rfl rfl rfl (by kernel_rfl) (Wk.store1 22 (.tmp 4) (.tmp 16) rfl (by kernel_rfl) W1.heap.size 0 (by kernel_rfl) (.slice AA1 (n + 1) nn1) (by kernel_rfl) rfl 22 #[.slice A n c] (Wk.Chg.hp ch7 (Wk.Chg.hp ch6 (Wk.Chg.hp hch2 (Wk.Chg.hp ch5 (Wk.Chg.hp ch4 hIp trivial) ⟨by omega, trivial⟩) ⟨by omega, trivial⟩) trivial) (Wk.off_blk (fun gz hgz => by have := hIo.lt gz hgz; omega))) (by simp)) ?_
      rintro W8 ⟨hb6, ch8⟩
      replace hb6 : W8.heap[W1.heap.size]? = some (.cells #[.slice AA1 (n + 1) nn1] 22 (0, 0)) := hb6
      have zz9 := ch8.size
      refine Wk.iEnd 5 rfl ?_
      refine Wk.inN ?_
      have kk6 : Wk.Chg ([W1.heap.size] ++ Wk.blk (.slice A n c)) A2 W6 := Wk.Chg.step ((Wk.Chg.refl _).more (by simp)) ch6 trivial
      have kk7 := Wk.Chg.step kk6 ch7 (Mur.newOr_iff.2 (fun t ht => .inl (List.mem_append_right _ ht)))
      have kk8 := Wk.Chg.step kk7 ch8 ⟨.inl (by simp), trivial⟩
      have kk9 := Wk.Chg.step hIc ch4 trivial
      have kk10 := Wk.Chg.step kk9 ch5 ⟨.inr (by omega), trivial⟩
      have kk11 := Wk.Chg.step kk10 hch2 ⟨.inr (by omega), trivial⟩
      have kk12 := Wk.Chg.step kk11 ch6 trivial
      have kk13 := Wk.Chg.step kk12 ch7 (Wk.newOr_blk (fun g hg => by have := hIo.lt g hg; omega))
      have kk14 := Wk.Chg.step kk13 ch8 ⟨.inl (by simp), trivial⟩
      have ow6 := Mur.OwnA.chg ow5 ch8 (fun q e _ _ => ⟨by have := ow5.lt q e; omega, trivial⟩)
      refine Wk.roundN _ kk8 (fun s_ hs_ hlt_ => ?_) (fun k_ hk_ => ⟨hFb_ k_ hk_, Wk.off_blk (fun q hq => by have := hIo.lt q hq; have := hFw k_ hk_; omega)⟩) ⟨_, _, _, hb6, (by rw [show Mur.ofK k (pre ++ [x]) = Mur.ofK k pre ++ [x] from Mur.ofK_yes hkx]; exact ow6), kk14, (Wk.Chg.hp ch8 (Wk.Chg.hp ch7 (Wk.Chg.hp ch6 (Wk.Chg.hp hch2 (Wk.Chg.hp ch5 (Wk.Chg.hp ch4 hE0 trivial) ⟨by omega, trivial⟩) ⟨by omega, trivial⟩) trivial) (Wk.off_blk (fun gz hgz => by have := hIo.lt gz hgz; omega))) ⟨by omega, trivial⟩)⟩
      rcases List.mem_cons.1 hs_ with rfl | hs_
      · exact ⟨_, (hch2.hp (ch5.hp (ch4.hp hIp trivial) ⟨by omega, trivial⟩) ⟨hbz, trivial⟩), rfl⟩
      · exact (Mur.OwnA.chg (Mur.OwnA.chg (Mur.OwnA.chg hIo ch4 (fun q e _ _ => trivial)) ch5 (fun q e _ _ => ⟨by have := hIo.lt q e; omega, trivial⟩)) hch2 (fun q e _ _ => ⟨hIol q e, trivial⟩)).isCells hs_
    · refine Wk.iPure 3 (some 12) (.bool false) rfl rfl rfl (by kernel_rfl) (Mur.run_eql_no digT x.k k x.hk hk hkx _ (.tmp 10) (.tmp 11) 30 rfl (by kernel_rfl) (by kernel_rfl)) ?_
      refine Wk.iEnd 4 rfl ?_
      refine Wk.nxt ?_
      refine wpIn_cond_false (by kernel_rfl) ?_
      refine wpIn_skip ?_
      refine Wk.inN ?_
      have kk15 := Wk.Chg.step hIc ch4 trivial
      have kk16 := Wk.Chg.step kk15 ch5 ⟨.inr (by omega), trivial⟩
      have kk17 := Wk.Chg.step kk16 hch2 ⟨.inr (by omega), trivial⟩
      have ow7 := Mur.OwnA.chg hIo ch4 (fun q e _ _ => trivial)
      have ow8 := Mur.OwnA.chg ow7 ch5 (fun q e _ _ => ⟨by have := hIo.lt q e; omega, trivial⟩)
      have ow9 := Mur.OwnA.chg ow8 hch2 (fun q e _ _ => ⟨hIol q e, trivial⟩)
      refine Wk.roundN _ (Wk.Chg.refl _) (fun s_ hs_ => absurd hs_ (by simp)) (fun k_ hk_ => trivial) ⟨_, _, _, (Wk.Chg.hp hch2 (Wk.Chg.hp ch5 (Wk.Chg.hp ch4 hIp trivial) ⟨by omega, trivial⟩) ⟨by omega, trivial⟩), (by rw [show Mur.ofK k (pre ++ [x]) = Mur.ofK k pre from Mur.ofK_no hkx]; exact ow9), kk17, (Wk.Chg.hp hch2 (Wk.Chg.hp ch5 (Wk.Chg.hp ch4 hE0 trivial) ⟨by omega, trivial⟩) ⟨by omega, trivial⟩)⟩
  · intro D W9 hI hwD hKD
    obtain ⟨A, n, c, hIp, hIo, hIc, hE0⟩ := hI
    have hlhE0_ := (Array.getElem?_eq_some_iff.1 hE0).1
    have hzI_ := hIc.size
    have hIlen := hIo.sl.len
    have hInc := hIo.nc
    have hbl_ := (Array.getElem?_eq_some_iff.1 hIp).1
    have hbD := Mur.cells_ne hIp hKD rfl
    have hIoD := hIo.off_obj hKD rfl
    have hDl := (Array.getElem?_eq_some_iff.1 hKD).1
    have hbDhE0 := Mur.cells_ne hE0 hKD rfl
    have hW9 : Wk.Chg [] w W9 := Wk.Chg.step kk3 hIc ⟨.inr (by omega), trivial⟩
    refine Wk.inN ?_
    refine Wk.nxt ?_
    refine wp_seq ?_
    refine Wk.reg ?_
    refine Wk.rPure 0 (some 17) (.slice A n c) rfl rfl (by kernel_rfl) (Wk.load1 22 (.tmp 4) rfl (by kernel_rfl) ⟨W1.heap.size, 0, none⟩ (by kernel_rfl) (.slice A n c) ((cell_of_row _ _ 0 _ _ _ hIp).trans rfl)) ?_
    refine Wk.rExS 1 none _ rfl rfl (by kernel_rfl) (Wk.store1 22 (.tmp 4) (.tmp 17) rfl (by kernel_rfl) W1.heap.size 0 (by kernel_rfl) (.slice A n c) (by kernel_rfl) rfl 22 #[.slice A n c] hIp (by simp)) ?_
    rintro W10 ⟨hb7, ch9⟩
    replace hb7 : W10.heap[W1.heap.size]? = some (.cells #[.slice A n c] 22 (0, 0)) := hb7
    have zz10 := ch9.size
    refine Wk.rEnd 2 rfl ?_
    refine Wk.nxt ?_
    refine wp_ret ?_
    refine Wk.npR ?_
    refine Wk.retM D rfl (Wk.Chg.hp ch9 hKD ⟨by omega, trivial⟩) ?_
    intro W11 ch10
    have zz11 := ch10.size
    have ow10 := Mur.OwnA.chg hIo ch9 (fun q e _ _ => ⟨by have := hIo.lt q e; omega, trivial⟩)
    have ow11 := Mur.OwnA.chg ow10 ch10 (fun q e _ _ => ⟨hIoD q e, trivial⟩)
    have kk18 := Wk.Chg.step hW9 ch9 ⟨.inr (by omega), trivial⟩
    have kk19 := Wk.Chg.step kk18 ch10 ⟨.inr (by omega), trivial⟩
    refine ⟨.slice A n c, Mur.results_sl rfl _ _ W1.heap.size 22 (.slice A n c) (0, 0) (by kernel_rfl) (Wk.Chg.hp ch10 hb7 ⟨by omega, trivial⟩) (by kernel_rfl), ⟨_, _, _, rfl, ow11.rebase (fun q_ h_ => by have := hIo.lt q_ h_; omega), kk19⟩⟩
theorem Of_nil (k : List UInt8) (w : World) (hk : k.length = 32) : Calls Tryd.prog 31 #[.pointer none, .agg (b8s k).toArray] w fun e w' => ∃ A n c, e = .returned (.slice A n c) ∧ OwnA w' w.heap.size 32 A n c [] ∧ Wk.Chg [] w w' := by
  refine Wk.calls_of_wpM Tryd.func31 rfl ?_
  refine Wk.noP ?_
  refine wp_seq ?_
  refine Wk.reg ?_
  refine Wk.rEx 0 (some 3) _ rfl rfl (by kernel_rfl) (Wk.new_ex (.pointer (some ⟨w.heap.size, 0, none⟩)) ((b8s k).toArray) 30 (by kernel_rfl)) ?_
  rintro _ W1 ⟨rfl, hb1, ch1, sz1⟩
  have zz1 := ch1.size
  refine Wk.rEx 1 (some 4) _ rfl rfl (by kernel_rfl) (Wk.new_ex (.pointer (some ⟨W1.heap.size, 0, none⟩)) #[.slice none 0 0] 22 (by kernel_rfl)) ?_
  rintro _ W2 ⟨rfl, hb2, ch2, sz2⟩
  have zz2 := ch2.size
  refine Wk.rEnd 2 rfl ?_
  refine Wk.nxt ?_
  refine wp_seq ?_
  refine wp_seq ?_
  refine Wk.reg ?_
  refine Wk.rPure 0 (some 6) (.pointer none) rfl rfl (by kernel_rfl) (by kernel_rfl) ?_
  refine Wk.rCall 1 (some 7) 42 [.tmp 6, .const (.slice none 0 0)] #[24, 38] [.pointer none, .slice none 0 0] rfl rfl (by kernel_rfl) rfl (by kernel_rfl) (by kernel_rfl) ?_
  refine (below_nil none 0 0 W2).mono ?_
  rintro _ W3 ⟨bq1, bq2, rfl, hbq1, hbq2, hzq1, hzq2, hzq3, ch3⟩
  have zz3 := ch3.size
  refine ⟨_, rfl, ?_⟩
  refine Wk.rEnd 2 rfl ?_
  refine Wk.nxt ?_
  refine wp_block ?_
  have kk1 : Wk.Chg [] w W1 := Wk.Chg.step ((Wk.Chg.refl _).more (by simp)) ch1 trivial
  have kk2 := Wk.Chg.step kk1 ch2 trivial
  have kk3 := Wk.Chg.step kk2 ch3 trivial
  have hseq1 := below_seqn none 0 0 bq1 bq2 W3 hbq1 hbq2
  have hFw := hseq1.1
  have hFb_ : ∀ k_, k_ ∈ [bq1, bq2] → k_ ≠ W1.heap.size := fun k_ hk_ => by
    simp only [List.mem_cons, List.not_mem_nil, or_false] at hk_
    rcases hk_ with rfl | rfl <;> omega
  refine Wk.range (hseq1) (by kernel_rfl) (fun _ _ => by kernel_rfl) (fun x => rfl) (fun pre W' => ∃ A n c, W'.heap[W1.heap.size]? = some (.cells #[.slice A n c] 22 (0, 0)) ∧ OwnA W' W3.heap.size 32 A n c (Mur.ofK k pre) ∧ Wk.Chg [W1.heap.size] W3 W' ∧ W'.heap[w.heap.size]? = some (.cells (b8s k).toArray 30 (0, 0))) ?_ ?_ ?_ ?_ ?_
  · rintro pre A1_ A2_ ⟨A, n, c, h1, h2, h3, hE0⟩ hc
    exact ⟨A, n, c, hc.hp h1 trivial, h2.chg hc (fun _ _ _ _ => trivial), h3.step hc trivial, hc.hp hE0 trivial⟩
  · rintro pre A1_ A2_ r_ o_ ⟨A, n, c, h1, h2, h3, hE0⟩ hr ho hoc hc
    exact ⟨A, n, c, hc.hp h1 ⟨Mur.cells_ne h1 ho hoc, trivial⟩, h2.chg hc (fun q hq _ _ => ⟨h2.off_obj ho hoc q hq, trivial⟩), h3.step hc ⟨.inr hr, trivial⟩, hc.hp hE0 ⟨Mur.cells_ne hE0 ho hoc, trivial⟩⟩
  · exact ⟨none, 0, 0, (Wk.Chg.hp ch3 hb2 trivial), Mur.ownA_nil _ _ _, (Wk.Chg.refl _).more (by simp), (Wk.Chg.hp ch3 (Wk.Chg.hp ch2 hb1 trivial) trivial)⟩
  · intro lz pre x post A1 hsp hI hwl hlA hlz
    obtain ⟨A, n, c, hIp, hIo, hIc, hE0⟩ := hI
    have hlhE0_ := (Array.getElem?_eq_some_iff.1 hE0).1
    have hzI_ := hIc.size
    have hIlen := hIo.sl.len
    have hInc := hIo.nc
    have hbl_ := (Array.getElem?_eq_some_iff.1 hIp).1
    have hbz := Mur.cells_ne' hIp hlz
    have hIol := hIo.off_loop hlz
    have hpl_ : pre.length + 1 ≤ 200 := by have := congrArg List.length hsp; simp at this <;> omega
    have hfl_ := List.length_filter_le (fun _ : Att => true) pre
    have hbzhE0 := Mur.cells_ne' hE0 hlz
    have hol_ := Mur.ofK_len k pre
    refine Wk.regI ?_
    refine Wk.iEx 0 (some 5) _ rfl rfl rfl (by kernel_rfl) (Wk.new_ex (.pointer (some ⟨A1.heap.size, 0, none⟩)) #[.int .u8 0, .int .u8 0, .int .u8 0, .int .u8 0, .int .u8 0, .int .u8 0, .int .u8 0, .int .u8 0, .int .u8 0, .int .u8 0, .int .u8 0, .int .u8 0, .int .u8 0, .int .u8 0, .int .u8 0, .int .u8 0, .int .u8 0, .int .u8 0, .int .u8 0, .int .u8 0, .int .u8 0, .int .u8 0, .int .u8 0, .int .u8 0, .int .u8 0, .int .u8 0, .int .u8 0, .int .u8 0, .int .u8 0, .int .u8 0, .int .u8 0, .int .u8 0, .int .u8 0, .int .u8 0, .int .u8 0, .int .u8 0, .int .u8 0, .int .u8 0, .int .u8 0, .int .u8 0, .int .u8 0, .int .u8 0, .int .u8 0, .int .u8 0, .int .u8 0, .int .u8 0, .int .u8 0, .int .u8 0, .int .u8 0, .int .u8 0, .int .u8 0, .int .u8 0, .int .u8 0, .int .u8 0, .int .u8 0, .int .u8 0, .int .u8 0, .int .u8 0, .int .u8 0, .int .u8 0, .int .u8 0, .int .u8 0, .int .u8 0, .int .u8 0, .int .i64 0, .int .u8 0, .int .u8 0, .int .u8 0, .int .u8 0, .int .u8 0, .int .u8 0, .int .u8 0, .int .u8 0, .int .u8 0, .int .u8 0, .int .u8 0, .int .u8 0, .int .u8 0, .int .u8 0, .int .u8 0, .int .u8 0, .int .u8 0, .int .u8 0, .int .u8 0, .int .u8 0, .int .u8 0, .int .u8 0, .int .u8 0, .int .u8 0, .int .u8 0, .int .u8 0, .int .u8 0, .int .u8 0, .int .u8 0, .int .u8 0, .int .u8 0, .int .u8 0] 32 (by kernel_rfl)) ?_
    rintro _ W4 ⟨rfl, hb3, ch4, sz3⟩
    have zz4 := ch4.size
    rw [← Mur.attC_zero] at hb3
    refine Wk.iExS 1 none _ rfl rfl rfl (by kernel_rfl) (Mur.storeArr 32 (.tmp 5) (.tmp 8) rfl A1.heap.size (by kernel_rfl) (Mur.attC x.k x.r x.n x.t).toArray 97 (Mur.attC_size x.hk x.hr x.ht) Mur.attC_all (by kernel_rfl) (by kernel_rfl) 32 ((Mur.attC Mur.z32 Mur.z32 0 Mur.z32).toArray) hb3 (Mur.attC_size rfl rfl rfl)) ?_
    rintro W5 ⟨hb4, ch5⟩
    have zz5 := ch5.size
    refine Wk.iEnd 2 rfl ?_
    refine Wk.nxt ?_
    have kk4 : Wk.Chg [] A1 W4 := Wk.Chg.step ((Wk.Chg.refl _).more (by simp)) ch4 trivial
    have kk5 := Wk.Chg.step kk4 ch5 ⟨.inr (by omega), trivial⟩
    refine ⟨kk5, ?_⟩
    have hlz2_ := hlz.imp (fun _ h_ => Wk.Chg.hp kk5 h_ trivial)
    intro A2 hch2
    have zz6 := hch2.size
    refine wpIn_block ?_
    refine wpIn_seq ?_
    refine Wk.regI ?_
    refine Wk.iPure 0 (some 9) (.pointer (some ⟨A1.heap.size, 0, none⟩)) rfl rfl rfl (by kernel_rfl) (by kernel_rfl) ?_
    refine Wk.iPure 1 (some 10) (.agg ((b8s x.k).toArray)) rfl rfl rfl (by kernel_rfl) (Wk.loadR 30 (.tmp 9) rfl _ Tryd.underlying30 rfl A1.heap.size 0 (by kernel_rfl) (b8s x.k) (by rw [Mur.b8s_length, x.hk]; kernel_rfl) (Mur.att_key (Wk.Chg.hp hch2 hb4 ⟨by omega, trivial⟩))) ?_
    refine Wk.iPure 2 (some 11) (.agg ((b8s k).toArray)) rfl rfl rfl (by kernel_rfl) (Mur.loadAll 30 (.tmp 3) rfl _ Tryd.underlying30 rfl w.heap.size (by kernel_rfl) k 32 hk (by kernel_rfl) 30 (0, 0) (Wk.Chg.hp hch2 (Wk.Chg.hp ch5 (Wk.Chg.hp ch4 hE0 trivial) ⟨by omega, trivial⟩) ⟨by omega, trivial⟩)) ?_
    by_cases hkx : x.k = k
    · refine Wk.iPure 3 (some 12) (.bool true) rfl rfl rfl (by kernel_rfl) (Mur.run_eql_yes digT x.k k x.hk hk hkx _ (.tmp 10) (.tmp 11) 30 rfl (by kernel_rfl) (by kernel_rfl)) ?_
      refine Wk.iEnd 4 rfl ?_
      refine Wk.nxt ?_
      refine wpIn_cond_true (by kernel_rfl) ?_
      refine Wk.regI ?_
      refine Wk.iPure 0 (some 13) (.slice A n c) rfl rfl rfl (by kernel_rfl) (Wk.load1 22 (.tmp 4) rfl (by kernel_rfl) ⟨W1.heap.size, 0, none⟩ (by kernel_rfl) (.slice A n c) ((cell_of_row _ _ 0 _ _ _ (Wk.Chg.hp hch2 (Wk.Chg.hp ch5 (Wk.Chg.hp ch4 hIp trivial) ⟨by omega, trivial⟩) ⟨by omega, trivial⟩)).trans rfl)) ?_
      refine Wk.iPure 1 (some 14) (.agg ((Mur.attC x.k x.r x.n x.t).toArray)) rfl rfl rfl (by kernel_rfl) (Mur.loadArr 32 (.tmp 5) rfl _ Tryd.underlying32 rfl A1.heap.size (by kernel_rfl) (Mur.attC x.k x.r x.n x.t).toArray 97 (Mur.attC_size x.hk x.hr x.ht) (by kernel_rfl) 32 (0, 0) (Wk.Chg.hp hch2 hb4 ⟨by omega, trivial⟩)) ?_
      refine Wk.iEx 2 (some 15) _ rfl rfl rfl (by kernel_rfl) (Mur.build1 22 32 (.tmp 14) rfl Tryd.underlying22 attI x.k x.r x.t x.n x.hk x.hr x.ht (by kernel_rfl)) ?_
      rintro _ W6 ⟨rfl, hb5, ch6, sz4⟩
      have zz7 := ch6.size
      have ow1 := Mur.OwnA.chg hIo ch4 (fun q e _ _ => trivial)
      have ow2 := Mur.OwnA.chg ow1 ch5 (fun q e _ _ => ⟨by have := hIo.lt q e; omega, trivial⟩)
      have ow3 := Mur.OwnA.chg ow2 hch2 (fun q e _ _ => ⟨hIol q e, trivial⟩)
      have ow4 := Mur.OwnA.chg ow3 ch6 (fun q e _ _ => trivial)
      refine Wk.iEx 3 (some 16) _ rfl rfl rfl (by kernel_rfl) (Mur.appendA (.tmp 13) (.tmp 15) 22 32 rfl Tryd.underlying22 attI W3.heap.size A n c (Mur.ofK k pre) (some ⟨A2.heap.size, 0, none⟩) 1 1 ([x]) (by kernel_rfl) (by kernel_rfl) ow4 (Mur.slA_box x hb5) (fun h => by cases h) (by omega) (by omega) (n + 1) (by omega) ((Mur.ofK k pre) ++ ([x])) rfl) ?_
      rintro _ W7 ⟨AA1, nn1, rfl, ow5, ch7, ha1⟩
      have zz8 := ch7.size
      have hq1 := ow5.nc
      have hq2 := ow5.cm
      refine Wk.iExS 4 none _ rfl rfl rfl (by kernel_rfl) (Wk.store1 22 (.tmp 4) (.tmp 16) rfl (by kernel_rfl) W1.heap.size 0 (by kernel_rfl) (.slice AA1 (n + 1) nn1) (by kernel_rfl) rfl 22 #[.slice A n c] (Wk.Chg.hp ch7 (Wk.Chg.hp ch6 (Wk.Chg.hp hch2 (Wk.Chg.hp ch5 (Wk.Chg.hp ch4 hIp trivial) ⟨by omega, trivial⟩) ⟨by omega, trivial⟩) trivial) (Wk.off_blk (fun gz hgz => by have := hIo.lt gz hgz; omega))) (by simp)) ?_
      rintro W8 ⟨hb6, ch8⟩
      replace hb6 : W8.heap[W1.heap.size]? = some (.cells #[.slice AA1 (n + 1) nn1] 22 (0, 0)) := hb6
      have zz9 := ch8.size
      refine Wk.iEnd 5 rfl ?_
      refine Wk.inN ?_
      have kk6 : Wk.Chg ([W1.heap.size] ++ Wk.blk (.slice A n c)) A2 W6 := Wk.Chg.step ((Wk.Chg.refl _).more (by simp)) ch6 trivial
      have kk7 := Wk.Chg.step kk6 ch7 (Mur.newOr_iff.2 (fun t ht => .inl (List.mem_append_right _ ht)))
      have kk8 := Wk.Chg.step kk7 ch8 ⟨.inl (by simp), trivial⟩
      have kk9 := Wk.Chg.step hIc ch4 trivial
      have kk10 := Wk.Chg.step kk9 ch5 ⟨.inr (by omega), trivial⟩
      have kk11 := Wk.Chg.step kk10 hch2 ⟨.inr (by omega), trivial⟩
      have kk12 := Wk.Chg.step kk11 ch6 trivial
      have kk13 := Wk.Chg.step kk12 ch7 (Wk.newOr_blk (fun g hg => by have := hIo.lt g hg; omega))
      have kk14 := Wk.Chg.step kk13 ch8 ⟨.inl (by simp), trivial⟩
      have ow6 := Mur.OwnA.chg ow5 ch8 (fun q e _ _ => ⟨by have := ow5.lt q e; omega, trivial⟩)
      refine Wk.roundN _ kk8 (fun s_ hs_ hlt_ => ?_) (fun k_ hk_ => ⟨hFb_ k_ hk_, Wk.off_blk (fun q hq => by have := hIo.lt q hq; have := hFw k_ hk_; omega)⟩) ⟨_, _, _, hb6, (by rw [show Mur.ofK k (pre ++ [x]) = Mur.ofK k pre ++ [x] from Mur.ofK_yes hkx]; exact ow6), kk14, (Wk.Chg.hp ch8 (Wk.Chg.hp ch7 (Wk.Chg.hp ch6 (Wk.Chg.hp hch2 (Wk.Chg.hp ch5 (Wk.Chg.hp ch4 hE0 trivial) ⟨by omega, trivial⟩) ⟨by omega, trivial⟩) trivial) (Wk.off_blk (fun gz hgz => by have := hIo.lt gz hgz; omega))) ⟨by omega, trivial⟩)⟩
      rcases List.mem_cons.1 hs_ with rfl | hs_
      · exact ⟨_, (hch2.hp (ch5.hp (ch4.hp hIp trivial) ⟨by omega, trivial⟩) ⟨hbz, trivial⟩), rfl⟩
      · exact (Mur.OwnA.chg (Mur.OwnA.chg (Mur.OwnA.chg hIo ch4 (fun q e _ _ => trivial)) ch5 (fun q e _ _ => ⟨by have := hIo.lt q e; omega, trivial⟩)) hch2 (fun q e _ _ => ⟨hIol q e, trivial⟩)).isCells hs_
    · refine Wk.iPure 3 (some 12) (.bool false) rfl rfl rfl (by kernel_rfl) (Mur.run_eql_no digT x.k k x.hk hk hkx _ (.tmp 10) (.tmp 11) 30 rfl (by kernel_rfl) (by kernel_rfl)) ?_
      refine Wk.iEnd 4 rfl ?_
      refine Wk.nxt ?_
      refine wpIn_cond_false (by kernel_rfl) ?_
      refine wpIn_skip ?_
      refine Wk.inN ?_
      have kk15 := Wk.Chg.step hIc ch4 trivial
      have kk16 := Wk.Chg.step kk15 ch5 ⟨.inr (by omega), trivial⟩
      have kk17 := Wk.Chg.step kk16 hch2 ⟨.inr (by omega), trivial⟩
      have ow7 := Mur.OwnA.chg hIo ch4 (fun q e _ _ => trivial)
      have ow8 := Mur.OwnA.chg ow7 ch5 (fun q e _ _ => ⟨by have := hIo.lt q e; omega, trivial⟩)
      have ow9 := Mur.OwnA.chg ow8 hch2 (fun q e _ _ => ⟨hIol q e, trivial⟩)
      refine Wk.roundN _ (Wk.Chg.refl _) (fun s_ hs_ => absurd hs_ (by simp)) (fun k_ hk_ => trivial) ⟨_, _, _, (Wk.Chg.hp hch2 (Wk.Chg.hp ch5 (Wk.Chg.hp ch4 hIp trivial) ⟨by omega, trivial⟩) ⟨by omega, trivial⟩), (by rw [show Mur.ofK k (pre ++ [x]) = Mur.ofK k pre from Mur.ofK_no hkx]; exact ow9), kk17, (Wk.Chg.hp hch2 (Wk.Chg.hp ch5 (Wk.Chg.hp ch4 hE0 trivial) ⟨by omega, trivial⟩) ⟨by omega, trivial⟩)⟩
  · intro D W9 hI hwD hKD
    obtain ⟨A, n, c, hIp, hIo, hIc, hE0⟩ := hI
    have hlhE0_ := (Array.getElem?_eq_some_iff.1 hE0).1
    have hzI_ := hIc.size
    have hIlen := hIo.sl.len
    have hInc := hIo.nc
    have hbl_ := (Array.getElem?_eq_some_iff.1 hIp).1
    have hbD := Mur.cells_ne hIp hKD rfl
    have hIoD := hIo.off_obj hKD rfl
    have hDl := (Array.getElem?_eq_some_iff.1 hKD).1
    have hbDhE0 := Mur.cells_ne hE0 hKD rfl
    have hW9 : Wk.Chg [] w W9 := Wk.Chg.step kk3 hIc ⟨.inr (by omega), trivial⟩
    refine Wk.inN ?_
    refine Wk.nxt ?_
    refine wp_seq ?_
    refine Wk.reg ?_
    refine Wk.rPure 0 (some 17) (.slice A n c) rfl rfl (by kernel_rfl) (Wk.load1 22 (.tmp 4) rfl (by kernel_rfl) ⟨W1.heap.size, 0, none⟩ (by kernel_rfl) (.slice A n c) ((cell_of_row _ _ 0 _ _ _ hIp).trans rfl)) ?_
    refine Wk.rExS 1 none _ rfl rfl (by kernel_rfl) (Wk.store1 22 (.tmp 4) (.tmp 17) rfl (by kernel_rfl) W1.heap.size 0 (by kernel_rfl) (.slice A n c) (by kernel_rfl) rfl 22 #[.slice A n c] hIp (by simp)) ?_
    rintro W10 ⟨hb7, ch9⟩
    replace hb7 : W10.heap[W1.heap.size]? = some (.cells #[.slice A n c] 22 (0, 0)) := hb7
    have zz10 := ch9.size
    refine Wk.rEnd 2 rfl ?_
    refine Wk.nxt ?_
    refine wp_ret ?_
    refine Wk.npR ?_
    refine Wk.retM D rfl (Wk.Chg.hp ch9 hKD ⟨by omega, trivial⟩) ?_
    intro W11 ch10
    have zz11 := ch10.size
    have ow10 := Mur.OwnA.chg hIo ch9 (fun q e _ _ => ⟨by have := hIo.lt q e; omega, trivial⟩)
    have ow11 := Mur.OwnA.chg ow10 ch10 (fun q e _ _ => ⟨hIoD q e, trivial⟩)
    have kk18 := Wk.Chg.step hW9 ch9 ⟨.inr (by omega), trivial⟩
    have kk19 := Wk.Chg.step kk18 ch10 ⟨.inr (by omega), trivial⟩
    refine ⟨.slice A n c, Mur.results_sl rfl _ _ W1.heap.size 22 (.slice A n c) (0, 0) (by kernel_rfl) (Wk.Chg.hp ch10 hb7 ⟨by omega, trivial⟩) (by kernel_rfl), ⟨_, _, _, rfl, ow11.rebase (fun q_ h_ => by have := hIo.lt q_ h_; omega), kk19⟩⟩
end Go.Proofs.YtfhneademopciaaDoor
namespace Mur
open Go Go.RowKit Wk
def k999 : List UInt8 := [9, 9, 9, 0, 0, 0, 0, 0, 0, 0, 0, 0, 0, 0, 0, 0, 0, 0, 0, 0, 0, 0, 0, 0, 0, 0, 0, 0, 0, 0, 0, 0]
def k9A : Att := ⟨k999, z32, z32, 4999, rfl, rfl, rfl, by decide⟩
theorem ownA_cells {w : World} {base e : Nat} {A : Option Addr} {n c : Nat} {L : List Att} (h : OwnA w base e A n c L) : ∀ q, (Value.slice A n c).ownBlock = some q → ∃ cs, w.heap[q]? = some (.cells cs e (0, 0)) ∧ cs.size = c * 97 := by
  intro q hq
  rcases h.cur with ⟨rfl, rfl, rfl⟩ | ⟨g, cur, rfl, _, hg, hcs, _⟩
  · cases hq
  · obtain rfl : g = q := by simpa [Value.ownBlock] using hq
    exact ⟨cur, hg, hcs⟩
end Mur
namespace Mur
theorem addS_nil (x : Att) : ((addS x []).1.length = 1 ∧ (addS x []).2 = 0) ∨ ((addS x []).1.length = 0 ∧ (addS x []).2 = 2) := by
  by_cases hm : may x.n
  · refine .inl ?_
    rw [addS_ok hm (by simp) (by unfold pos; simp)]
    simp [ins_length]
  · refine .inr ?_
    rw [addS_may hm]
    simp
end Mur
