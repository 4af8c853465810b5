/- BuilderWaits, walked. -/
import Derived.Test.YtidhohnhhhooaaaBdCon
import Derived.Test.YtidhohnhhhooaaaBdWait
namespace Go.Proofs.Ytidhohnhhhooaaa
open Go.RowKit
open Mur (Trn Fct Upd Tls Tolds Ref refTo toldTo trnTo tick outsTo wants tcells)
set_option maxRecDepth 100000
set_option maxHeartbeats 4000000
def WaitsYes_F0 (b : Array Value) (u0 : Value) (u2 : Value) (u3 : Value) (u9 : Value) (u10 : Value) (u36 : Value) (u37 : Value) : Act := ⟨#[u0, b.getD 1 undef, u2, u3, b.getD 4 undef, b.getD 5 undef, b.getD 6 undef, b.getD 7 undef, b.getD 8 undef, u9, u10, b.getD 11 undef, b.getD 12 undef, b.getD 13 undef, b.getD 14 undef, b.getD 15 undef, b.getD 16 undef, b.getD 17 undef, b.getD 18 undef, b.getD 19 undef, b.getD 20 undef, b.getD 21 undef, b.getD 22 undef, b.getD 23 undef, b.getD 24 undef, b.getD 25 undef, b.getD 26 undef, b.getD 27 undef, b.getD 28 undef, b.getD 29 undef, b.getD 30 undef, b.getD 31 undef, b.getD 32 undef, b.getD 33 undef, b.getD 34 undef, b.getD 35 undef, u36, u37, b.getD 38 undef, b.getD 39 undef, b.getD 40 undef, b.getD 41 undef, b.getD 42 undef, b.getD 43 undef, b.getD 44 undef, b.getD 45 undef, b.getD 46 undef, b.getD 47 undef, b.getD 48 undef, b.getD 49 undef, b.getD 50 undef, b.getD 51 undef, b.getD 52 undef, b.getD 53 undef, b.getD 54 undef, b.getD 55 undef, b.getD 56 undef, b.getD 57 undef, b.getD 58 undef, b.getD 59 undef, b.getD 60 undef, b.getD 61 undef, b.getD 62 undef, b.getD 63 undef, b.getD 64 undef, b.getD 65 undef, b.getD 66 undef, b.getD 67 undef, b.getD 68 undef, b.getD 69 undef, b.getD 70 undef, b.getD 71 undef, b.getD 72 undef, b.getD 73 undef, b.getD 74 undef, b.getD 75 undef, b.getD 76 undef, b.getD 77 undef, b.getD 78 undef, b.getD 79 undef, b.getD 80 undef, b.getD 81 undef, b.getD 82 undef, b.getD 83 undef, b.getD 84 undef, b.getD 85 undef, b.getD 86 undef, b.getD 87 undef, b.getD 88 undef, b.getD 89 undef, b.getD 90 undef, b.getD 91 undef, b.getD 92 undef, b.getD 93 undef, b.getD 94 undef, b.getD 95 undef], []⟩
def WaitsYes_J9_1 (b : Array Value) (u0 : Value) (u2 : Value) (u3 : Value) (u9 : Value) (u10 : Value) (u11 : Value) (u36 : Value) (u37 : Value) : Act := ⟨#[u0, b.getD 1 undef, u2, u3, b.getD 4 undef, b.getD 5 undef, b.getD 6 undef, b.getD 7 undef, b.getD 8 undef, u9, u10, u11, b.getD 12 undef, b.getD 13 undef, b.getD 14 undef, b.getD 15 undef, b.getD 16 undef, b.getD 17 undef, b.getD 18 undef, b.getD 19 undef, b.getD 20 undef, b.getD 21 undef, b.getD 22 undef, b.getD 23 undef, b.getD 24 undef, b.getD 25 undef, b.getD 26 undef, b.getD 27 undef, b.getD 28 undef, b.getD 29 undef, b.getD 30 undef, b.getD 31 undef, b.getD 32 undef, b.getD 33 undef, b.getD 34 undef, b.getD 35 undef, u36, u37, b.getD 38 undef, b.getD 39 undef, b.getD 40 undef, b.getD 41 undef, b.getD 42 undef, b.getD 43 undef, b.getD 44 undef, b.getD 45 undef, b.getD 46 undef, b.getD 47 undef, b.getD 48 undef, b.getD 49 undef, b.getD 50 undef, b.getD 51 undef, b.getD 52 undef, b.getD 53 undef, b.getD 54 undef, b.getD 55 undef, b.getD 56 undef, b.getD 57 undef, b.getD 58 undef, b.getD 59 undef, b.getD 60 undef, b.getD 61 undef, b.getD 62 undef, b.getD 63 undef, b.getD 64 undef, b.getD 65 undef, b.getD 66 undef, b.getD 67 undef, b.getD 68 undef, b.getD 69 undef, b.getD 70 undef, b.getD 71 undef, b.getD 72 undef, b.getD 73 undef, b.getD 74 undef, b.getD 75 undef, b.getD 76 undef, b.getD 77 undef, b.getD 78 undef, b.getD 79 undef, b.getD 80 undef, b.getD 81 undef, b.getD 82 undef, b.getD 83 undef, b.getD 84 undef, b.getD 85 undef, b.getD 86 undef, b.getD 87 undef, b.getD 88 undef, b.getD 89 undef, b.getD 90 undef, b.getD 91 undef, b.getD 92 undef, b.getD 93 undef, b.getD 94 undef, b.getD 95 undef], []⟩
theorem waits_yes (most budget : Int) (L : List Int) (LS : List Bool) (A B : Option Addr) (n c nb d : Nat) (w : World) (hl : Wk.Sl w A n 1 (L.map fun x => .int .i64 x)) (hs : Wk.Sl w B nb 1 (LS.map fun b => .bool b)) (hn : n ≤ 9223372036854775807) (hmm : nb ≤ 9223372036854775807) (hm : 0 ≤ most ∧ most ≤ 1000000) (hb : 0 ≤ budget ∧ budget ≤ 1000000) :
    Calls Try.prog 6 #[.int .i64 most, .int .i64 budget, .slice A n c, .slice B nb d] w fun e w' => e = .returned (.bool true) ∧ Below w.heap.size w w' := by
  have HL := Go.Lib.hid hl
  have HS := Go.Lib.hid hs
  have hl1 : L.length = n := by have := hl.1; simpa using this
  have hs1 : LS.length = nb := by have := hs.1; simpa using this
  clear hl hs
  obtain ⟨hm1, hm2⟩ := hm
  obtain ⟨hbb1, hbb2⟩ := hb
  refine calls_of_wp Try.func6 rfl ?_
  refine wp_seq ?_
  refine Wk.reg ?_
  refine Wk.rPure 0 (some 8) (.bool false) rfl rfl (by kernel_rfl) (by kernel_rfl) ?_
  refine Wk.rEnd 1 rfl ?_
  refine Wk.nxt ?_
  refine wp_seq ?_
  refine Wk.reg ?_
  refine Wk.rPure 0 (some 13) (.int .i64 most) rfl rfl (by kernel_rfl) (by kernel_rfl) ?_
  refine Wk.rPure 1 (some 14) (.int .i64 budget) rfl rfl (by kernel_rfl) (by kernel_rfl) ?_
  refine Wk.rCall 2 (some 15) 7 [.tmp 13, .tmp 14] #[3, 3] [.int .i64 most, .int .i64 budget] rfl rfl (by kernel_rfl) rfl (by kernel_rfl) (by kernel_rfl) ?_
  refine (New_law most budget w (by omega) (by omega) (by omega) (by omega)).mono ?_
  rintro _ W1 ⟨rfl, hb1, ch1, sz1⟩
  have zz1 := ch1.size
  refine ⟨_, rfl, ?_⟩
  refine Wk.rPure 3 (some 9) (.pointer (some ⟨w.heap.size, 0, none⟩)) rfl rfl (by kernel_rfl) (by kernel_rfl) ?_
  refine Wk.rEnd 4 rfl ?_
  refine Wk.nxt ?_
  refine wp_seq ?_
  refine wp_seq ?_
  refine Wk.reg ?_
  refine Wk.rPure 0 (some 16) (.pointer (some ⟨w.heap.size, 0, none⟩)) rfl rfl (by kernel_rfl) (by kernel_rfl) ?_
  refine Wk.rPure 1 (some 17) (.bool false) rfl rfl (by kernel_rfl) (by kernel_rfl) ?_
  refine Wk.rPure 2 (some 18) (.bool false) rfl rfl (by kernel_rfl) (by kernel_rfl) ?_
  refine Wk.rPure 3 (some 19) (.int .i64 most) rfl rfl (by kernel_rfl) (by kernel_rfl) ?_
  by_cases hx1 : most > (1000 : Int)
  · refine Wk.rPure 4 (some 20) (.bool true) rfl rfl (by kernel_rfl) (Wk.boolT (b := decide (most > (1000 : Int))) (decide_eq_true (by first | exact hx1 | omega)) (by kernel_rfl)) ?_
    refine Wk.rPure 5 (some 21) (.bool true) rfl rfl (by kernel_rfl) (by kernel_rfl) ?_
    refine Wk.rPure 6 (some 22) (.bool true) rfl rfl (by kernel_rfl) (by kernel_rfl) ?_
    refine Wk.rPass 7 (some 23) rfl rfl (by kernel_rfl) ?_
    refine Wk.rPass 8 (some 24) rfl rfl (by kernel_rfl) ?_
    refine Wk.rPass 9 (some 25) rfl rfl (by kernel_rfl) ?_
    refine Wk.rPure 10 (some 26) (.bool true) rfl rfl (by kernel_rfl) (by kernel_rfl) ?_
    refine Wk.rPure 11 (some 27) (.bool true) rfl rfl (by kernel_rfl) (by kernel_rfl) ?_
    refine Wk.rPass 12 (some 28) rfl rfl (by kernel_rfl) ?_
    refine Wk.rPass 13 (some 29) rfl rfl (by kernel_rfl) ?_
    refine Wk.rPass 14 (some 30) rfl rfl (by kernel_rfl) ?_
    refine Wk.rPass 15 (some 31) rfl rfl (by kernel_rfl) ?_
    refine Wk.rPass 16 (some 32) rfl rfl (by kernel_rfl) ?_
    refine Wk.rPure 17 (some 33) (.bool true) rfl rfl (by kernel_rfl) (by kernel_rfl) ?_
    refine Wk.rEnd 18 rfl ?_
    refine Wk.nxt ?_
    refine wp_cond_true (by kernel_rfl) ?_
    refine wp_seq ?_
    refine Wk.reg ?_
    refine Wk.rCall 0 (some 34) 8 [] #[] [] rfl rfl (by kernel_rfl) rfl (by kernel_rfl) (by kernel_rfl) ?_
    refine (known_any W1).mono ?_
    rintro _ W2 ⟨rfl, hB1⟩
    have ch2 := Wk.Chg.ofBelow hB1
    have zz2 := ch2.size
    refine ⟨_, rfl, ?_⟩
    refine Wk.rPure 1 (some 8) (.bool true) rfl rfl (by kernel_rfl) (by kernel_rfl) ?_
    refine Wk.rEnd 2 rfl ?_
    refine Wk.nxt ?_
    refine wp_ret ?_
    refine Wk.thR ?_
    have kk1 : Wk.Chg [] w W1 := Wk.Chg.step ((Wk.Chg.refl _).more (by simp)) ch1 trivial
    have kk2 := Wk.Chg.step kk1 ch2 trivial
    refine Wk.ret (.bool true) rfl (by kernel_rfl) ?_
    exact ⟨rfl, Wk.Chg.below0 kk2⟩
  · refine Wk.rPure 4 (some 20) (.bool false) rfl rfl (by kernel_rfl) (Wk.boolF (b := decide (most > (1000 : Int))) (decide_eq_false (by first | exact hx1 | omega)) (by kernel_rfl)) ?_
    refine Wk.rPure 5 (some 21) (.bool false) rfl rfl (by kernel_rfl) (by kernel_rfl) ?_
    refine Wk.rPure 6 (some 22) (.bool false) rfl rfl (by kernel_rfl) (by kernel_rfl) ?_
    refine Wk.rPure 7 (some 23) (.slice A n c) rfl rfl (by kernel_rfl) (by kernel_rfl) ?_
    refine Wk.rPure 8 (some 24) (.int .i64 ((n : Nat) : Int)) rfl rfl (by kernel_rfl) (by kernel_rfl) ?_
    by_cases hx2 : ((n : Nat) : Int) > (200 : Int)
    · refine Wk.rPure 9 (some 25) (.bool true) rfl rfl (by kernel_rfl) (Wk.boolT (b := decide (((n : Nat) : Int) > (200 : Int))) (decide_eq_true (by first | exact hx2 | omega)) (by kernel_rfl)) ?_
      refine Wk.rPure 10 (some 26) (.bool true) rfl rfl (by kernel_rfl) (by kernel_rfl) ?_
      refine Wk.rPure 11 (some 27) (.bool true) rfl rfl (by kernel_rfl) (by kernel_rfl) ?_
      refine Wk.rPass 12 (some 28) rfl rfl (by kernel_rfl) ?_
      refine Wk.rPass 13 (some 29) rfl rfl (by kernel_rfl) ?_
      refine Wk.rPass 14 (some 30) rfl rfl (by kernel_rfl) ?_
      refine Wk.rPass 15 (some 31) rfl rfl (by kernel_rfl) ?_
      refine Wk.rPass 16 (some 32) rfl rfl (by kernel_rfl) ?_
      refine Wk.rPure 17 (some 33) (.bool true) rfl rfl (by kernel_rfl) (by kernel_rfl) ?_
      refine Wk.rEnd 18 rfl ?_
      refine Wk.nxt ?_
      refine wp_cond_true (by kernel_rfl) ?_
      refine wp_seq ?_
      refine Wk.reg ?_
      refine Wk.rCall 0 (some 34) 8 [] #[] [] rfl rfl (by kernel_rfl) rfl (by kernel_rfl) (by kernel_rfl) ?_
      refine (known_any W1).mono ?_
      rintro _ W3 ⟨rfl, hB2⟩
      have ch3 := Wk.Chg.ofBelow hB2
      have zz3 := ch3.size
      refine ⟨_, rfl, ?_⟩
      refine Wk.rPure 1 (some 8) (.bool true) rfl rfl (by kernel_rfl) (by kernel_rfl) ?_
      refine Wk.rEnd 2 rfl ?_
      refine Wk.nxt ?_
      refine wp_ret ?_
      refine Wk.thR ?_
      have kk3 : Wk.Chg [] w W1 := Wk.Chg.step ((Wk.Chg.refl _).more (by simp)) ch1 trivial
      have kk4 := Wk.Chg.step kk3 ch3 trivial
      refine Wk.ret (.bool true) rfl (by kernel_rfl) ?_
      exact ⟨rfl, Wk.Chg.below0 kk4⟩
    · refine Wk.rPure 9 (some 25) (.bool false) rfl rfl (by kernel_rfl) (Wk.boolF (b := decide (((n : Nat) : Int) > (200 : Int))) (decide_eq_false (by first | exact hx2 | omega)) (by kernel_rfl)) ?_
      refine Wk.rPure 10 (some 26) (.bool false) rfl rfl (by kernel_rfl) (by kernel_rfl) ?_
      refine Wk.rPure 11 (some 27) (.bool false) rfl rfl (by kernel_rfl) (by kernel_rfl) ?_
      refine Wk.rPure 12 (some 28) (.slice B nb d) rfl rfl (by kernel_rfl) (by kernel_rfl) ?_
      refine Wk.rPure 13 (some 29) (.int .i64 ((nb : Nat) : Int)) rfl rfl (by kernel_rfl) (by kernel_rfl) ?_
      refine Wk.rPure 14 (some 30) (.slice A n c) rfl rfl (by kernel_rfl) (by kernel_rfl) ?_
      refine Wk.rPure 15 (some 31) (.int .i64 ((n : Nat) : Int)) rfl rfl (by kernel_rfl) (by kernel_rfl) ?_
      by_cases hx3 : ((nb : Nat) : Int) < ((n : Nat) : Int)
      · refine Wk.rPure 16 (some 32) (.bool true) rfl rfl (by kernel_rfl) (Wk.boolT (b := decide (((nb : Nat) : Int) < ((n : Nat) : Int))) (decide_eq_true (by first | exact hx3 | omega)) (by kernel_rfl)) ?_
        refine Wk.rPure 17 (some 33) (.bool true) rfl rfl (by kernel_rfl) (by kernel_rfl) ?_
        refine Wk.rEnd 18 rfl ?_
        refine Wk.nxt ?_
        refine wp_cond_true (by kernel_rfl) ?_
        refine wp_seq ?_
        refine Wk.reg ?_
        refine Wk.rCall 0 (some 34) 8 [] #[] [] rfl rfl (by kernel_rfl) rfl (by kernel_rfl) (by kernel_rfl) ?_
        refine (known_any W1).mono ?_
        rintro _ W4 ⟨rfl, hB3⟩
        have ch4 := Wk.Chg.ofBelow hB3
        have zz4 := ch4.size
        refine ⟨_, rfl, ?_⟩
        refine Wk.rPure 1 (some 8) (.bool true) rfl rfl (by kernel_rfl) (by kernel_rfl) ?_
        refine Wk.rEnd 2 rfl ?_
        refine Wk.nxt ?_
        refine wp_ret ?_
        refine Wk.thR ?_
        have kk5 : Wk.Chg [] w W1 := Wk.Chg.step ((Wk.Chg.refl _).more (by simp)) ch1 trivial
        have kk6 := Wk.Chg.step kk5 ch4 trivial
        refine Wk.ret (.bool true) rfl (by kernel_rfl) ?_
        exact ⟨rfl, Wk.Chg.below0 kk6⟩
      · refine Wk.rPure 16 (some 32) (.bool false) rfl rfl (by kernel_rfl) (Wk.boolF (b := decide (((nb : Nat) : Int) < ((n : Nat) : Int))) (decide_eq_false (by first | exact hx3 | omega)) (by kernel_rfl)) ?_
        refine Wk.rPure 17 (some 33) (.bool false) rfl rfl (by kernel_rfl) (by kernel_rfl) ?_
        refine Wk.rEnd 18 rfl ?_
        refine Wk.nxt ?_
        refine wp_cond_false (by kernel_rfl) ?_
        refine wp_skip ?_
        refine Wk.nxt ?_
        refine wp_seq ?_
        refine Wk.reg ?_
        refine Wk.rPure 0 (some 10) (.int .i64 0) rfl rfl (by kernel_rfl) (by kernel_rfl) ?_
        refine Wk.rEnd 1 rfl ?_
        refine Wk.nxt ?_
        refine wp_seq ?_
        refine wp_seq ?_
        refine Wk.reg ?_
        refine Wk.rPure 0 (some 35) (.slice A n c) rfl rfl (by kernel_rfl) (by kernel_rfl) ?_
        refine Wk.rPure 1 (some 36) (.int .i64 ((n : Nat) : Int)) rfl rfl (by kernel_rfl) (by kernel_rfl) ?_
        refine Wk.rPure 2 (some 37) (.int .i64 0) rfl rfl (by kernel_rfl) (by kernel_rfl) ?_
        refine Wk.rEnd 3 rfl ?_
        refine Wk.nxt ?_
        refine wp_block ?_
        refine Wk.loop (fun m_ a wr => ∃ (k : Nat) (bg : Bool) (lst : Int) (now : Int), m_ = n - k ∧ a = WaitsYes_F0 a.tmps (.int .i64 most) (.slice A n c) (.slice B nb d) (.pointer (some ⟨w.heap.size, 0, none⟩)) (.int .i64 now) (.int .i64 ((n : Nat) : Int)) (.int .i64 ((k : Nat) : Int)) ∧ k ≤ n ∧ wr.heap[w.heap.size]? = some (.cells (Mur.waitT most budget bg lst).cells 41 (0, 0)) ∧ (0 ≤ now ∧ now ≤ 5 * (k : Int)) ∧ (1 ≤ k → bg = true) ∧ (bg = true ∨ now = 0) ∧ Wk.Chg [] w wr) (n - 0) ?_ ?_
        · have kk7 : Wk.Chg [] w W1 := Wk.Chg.step ((Wk.Chg.refl _).more (by simp)) ch1 trivial
          refine ⟨0, false, 0, 0, rfl, by kernel_rfl, Nat.zero_le _, hb1, ⟨by decide, by decide⟩, (fun h => absurd h (by omega)), (.inr rfl), kk7⟩
        · rintro mm1 aa1 W5 ⟨k, bg, lst, now, hmm1, hF1, hk, hG, ⟨hn1, hn2⟩, hb1, hb0, HB⟩
          generalize aa1.tmps = bb1 at hF1
          subst hF1
          have hsz : w.heap.size < W5.heap.size := (Array.getElem?_eq_some_iff.1 hG).1
          by_cases hlt : k < n
          · obtain ⟨g, off, rfl, hc⟩ := HL.out.2 (by intro h; simp at h; subst h; simp at hl1; omega)
            obtain ⟨x, hx⟩ : ∃ p, L[k]? = some p := ⟨_, List.getElem?_eq_getElem (by omega)⟩
            obtain ⟨gb, ob, rfl, hcb⟩ := HS.out.2 (by intro h; simp at h; subst h; simp at hs1; omega)
            obtain ⟨lb, hlb⟩ : ∃ p, LS[k]? = some p := ⟨_, List.getElem?_eq_getElem (by omega)⟩
            have q := hc (k * 1) (.int .i64 x) (by simp [hx])
            have qb := hcb (k * 1) (.bool lb) (by simp [hlb])
            have hg : g < w.heap.size := World.block_lt_of_cell? w _ q
            have hgb : gb < w.heap.size := World.block_lt_of_cell? w _ qb
            have hcl := Mur.clip_range (show (0 : Int) ≤ 5 by decide) x
            clear hc hcb
            refine wp_seq ?_
            refine Wk.reg ?_
            refine Wk.rPure 0 (some 38) (.bool true) rfl rfl (by kernel_rfl) (Wk.boolT (b := decide (((k : Nat) : Int) < ((n : Nat) : Int))) (decide_eq_true (by omega)) (by kernel_rfl)) ?_
            refine Wk.rEnd 1 rfl ?_
            refine Wk.nxt ?_
            refine wp_seq ?_
            refine wp_cond_true (by kernel_rfl) ?_
            refine wp_skip ?_
            refine Wk.nxt ?_
            refine wp_seq ?_
            refine wp_block ?_
            refine wp_seq ?_
            refine Wk.reg ?_
            refine Wk.rPure 0 (some 39) (.int .i64 ((k : Nat) : Int)) rfl rfl (by kernel_rfl) (by kernel_rfl) ?_
            refine Wk.rPure 1 (some 11) (.int .i64 ((k : Nat) : Int)) rfl rfl (by kernel_rfl) (by kernel_rfl) ?_
            refine Wk.rEnd 2 rfl ?_
            refine Wk.nxt ?_
            refine wp_seq ?_
            refine Wk.reg ?_
            refine Wk.rPure 0 (some 40) (.int .i64 now) rfl rfl (by kernel_rfl) (by kernel_rfl) ?_
            refine Wk.rPure 1 (some 41) (.slice (some ⟨g, off, none⟩) n c) rfl rfl (by kernel_rfl) (by kernel_rfl) ?_
            refine Wk.rPure 2 (some 42) (.int .i64 ((k : Nat) : Int)) rfl rfl (by kernel_rfl) (by kernel_rfl) ?_
            refine Wk.rPure 3 (some 43) (.pointer (some ⟨g, off + k * 1, none⟩)) rfl rfl (by kernel_rfl) (Wk.index_sl 42 3 (.tmp 41) (.tmp 42) rfl Try.underlying42 1 (by kernel_rfl) g off n c k .i64 (by kernel_rfl) (by kernel_rfl) (by omega)) ?_
            refine Wk.rPure 4 (some 44) (.int .i64 x) rfl rfl (by kernel_rfl) (Wk.load1 3 (.tmp 43) rfl (by kernel_rfl) ⟨g, off + k * 1, none⟩ (by kernel_rfl) (.int .i64 x) (Wk.Chg.cell HB q trivial)) ?_
            refine Wk.rPure 5 (some 45) (.int .i64 (if (0 : Int) > x then (0 : Int) else x)) rfl rfl (by kernel_rfl) (by kernel_rfl) ?_
            refine Wk.rPure 6 (some 46) (.int .i64 (if (5 : Int) < (if (0 : Int) > x then (0 : Int) else x) then (5 : Int) else (if (0 : Int) > x then (0 : Int) else x))) rfl rfl (by kernel_rfl) (by kernel_rfl) ?_
            refine Wk.rPure 7 (some 47) (.int .i64 (now + Mur.clip 5 x)) rfl rfl (by kernel_rfl) (Wk.int64 (n := now + Mur.clip 5 x) (z := now + Mur.clip 5 x) rfl (by omega) (by omega) (by kernel_rfl)) ?_
            refine Wk.rPure 8 (some 10) (.int .i64 (now + Mur.clip 5 x)) rfl rfl (by kernel_rfl) (by kernel_rfl) ?_
            refine Wk.rEnd 9 rfl ?_
            refine Wk.nxt ?_
            refine wp_seq ?_
            refine Wk.cut (fun a wj => ∃ (nw : Int), a = WaitsYes_J9_1 a.tmps (.int .i64 most) (.slice (some ⟨g, off, none⟩) n c) (.slice (some ⟨gb, ob, none⟩) nb d) (.pointer (some ⟨w.heap.size, 0, none⟩)) (.int .i64 nw) (.int .i64 ((k : Nat) : Int)) (.int .i64 ((n : Nat) : Int)) (.int .i64 ((k : Nat) : Int)) ∧ W5 = wj ∧ (bg = true ∨ nw = 0) ∧ (0 ≤ nw ∧ nw ≤ 5 * ((k + 1 : Nat) : Int))) ?_ ?_
            · refine wp_seq ?_
              refine Wk.reg ?_
              refine Wk.rPure 0 (some 48) (.int .i64 ((k : Nat) : Int)) rfl rfl (by kernel_rfl) (by kernel_rfl) ?_
              by_cases hx4 : ((k : Nat) : Int) = (0 : Int)
              · refine Wk.rPure 1 (some 49) (.bool true) rfl rfl (by kernel_rfl) (Wk.boolT (b := (((k : Nat) : Int) == (0 : Int))) (beq_iff_eq.2 (by first | exact hx4 | omega)) (by kernel_rfl)) ?_
                refine Wk.rEnd 2 rfl ?_
                refine Wk.nxt ?_
                refine wp_cond_true (by kernel_rfl) ?_
                refine Wk.reg ?_
                refine Wk.rPure 0 (some 10) (.int .i64 0) rfl rfl (by kernel_rfl) (by kernel_rfl) ?_
                refine Wk.rEnd 1 rfl ?_
                refine Wk.nxt ?_
                exact ⟨0, by kernel_rfl, rfl, (.inr rfl), ⟨by omega, by omega⟩⟩
              · refine Wk.rPure 1 (some 49) (.bool false) rfl rfl (by kernel_rfl) (Wk.boolF (b := (((k : Nat) : Int) == (0 : Int))) (beq_eq_false_iff_ne.2 (by first | exact hx4 | omega)) (by kernel_rfl)) ?_
                refine Wk.rEnd 2 rfl ?_
                refine Wk.nxt ?_
                refine wp_cond_false (by kernel_rfl) ?_
                refine wp_skip ?_
                refine Wk.nxt ?_
                exact ⟨now + Mur.clip 5 x, by kernel_rfl, rfl, (.inl (hb1 (by omega))), ⟨by omega, by omega⟩⟩
            · rintro aa2 _ ⟨nw, hF2, rfl, hbn, ⟨hnw1, hnw2⟩⟩
              generalize aa2.tmps = bb2 at hF2
              subst hF2
              refine Wk.nxt ?_
              refine wp_seq ?_
              refine wp_seq ?_
              refine Wk.reg ?_
              refine Wk.rPure 0 (some 50) (.int .i64 nw) rfl rfl (by kernel_rfl) (by kernel_rfl) ?_
              refine Wk.rPure 1 (some 51) (.int .i64 most) rfl rfl (by kernel_rfl) (by kernel_rfl) ?_
              by_cases hx5 : nw ≥ most
              · refine Wk.rPure 2 (some 52) (.bool true) rfl rfl (by kernel_rfl) (Wk.boolT (b := decide (nw ≥ most)) (decide_eq_true (by first | exact hx5 | omega)) (by kernel_rfl)) ?_
                refine Wk.rEnd 3 rfl ?_
                refine Wk.nxt ?_
                refine wp_cond_true (by kernel_rfl) ?_
                refine wp_seq ?_
                refine Wk.reg ?_
                refine Wk.rPure 0 (some 53) (.pointer (some ⟨w.heap.size, 0, none⟩)) rfl rfl (by kernel_rfl) (by kernel_rfl) ?_
                refine Wk.rPure 1 (some 54) (.int .i64 nw) rfl rfl (by kernel_rfl) (by kernel_rfl) ?_
                refine Wk.rPure 2 (some 55) (.slice (some ⟨gb, ob, none⟩) nb d) rfl rfl (by kernel_rfl) (by kernel_rfl) ?_
                refine Wk.rPure 3 (some 56) (.int .i64 ((k : Nat) : Int)) rfl rfl (by kernel_rfl) (by kernel_rfl) ?_
                refine Wk.rPure 4 (some 57) (.pointer (some ⟨gb, ob + k * 1, none⟩)) rfl rfl (by kernel_rfl) (Wk.index_sl 43 4 (.tmp 55) (.tmp 56) rfl Try.underlying43 1 (by kernel_rfl) gb ob nb d k .i64 (by kernel_rfl) (by kernel_rfl) (by omega)) ?_
                refine Wk.rPure 5 (some 58) (.bool lb) rfl rfl (by kernel_rfl) (Wk.load1 4 (.tmp 57) rfl (by kernel_rfl) ⟨gb, ob + k * 1, none⟩ (by kernel_rfl) (.bool lb) (Wk.Chg.cell HB qb trivial)) ?_
                refine Wk.rPure 6 (some 59) (.agg #[.bool false, .bool false, .bool lb, .bool false, .bool false, .bool false, .bool false, .bool false]) rfl rfl (by kernel_rfl) (by kernel_rfl) ?_
                refine Wk.rCall 7 (some 60) 10 [.tmp 53, .tmp 54, .tmp 59] #[23, 3, 28] [.pointer (some ⟨w.heap.size, 0, none⟩), .int .i64 nw, .agg #[.bool false, .bool false, .bool lb, .bool false, .bool false, .bool false, .bool false, .bool false]] rfl rfl (by kernel_rfl) rfl (by kernel_rfl) (by kernel_rfl) ?_
                refine (Step_any (Mur.waitT most budget bg lst) nw (⟨false, false, lb, false, false, false, false, false⟩ : Fct) w.heap.size _ hG (Mur.wait_ok ⟨by omega, by omega⟩ ⟨by omega, by omega⟩ _ _) ⟨by omega, by omega⟩).mono ?_
                have hd1 := Mur.wait_run (most := most) (budget := budget) (lst := lst) hbn (show most ≤ nw by omega) lb
                rintro _ W6 ⟨rfl, hu1⟩
                rw [hd1]
                have ch5 := Mur.Upd.chg hu1
                replace hu1 := hu1.self
                have zz5 := ch5.size
                refine ⟨_, rfl, ?_⟩
                refine Wk.rPure 8 (some 61) (.bool true) rfl rfl (by kernel_rfl) (Wk.boolT (b := ((3 : Int) == (3 : Int))) (beq_iff_eq.2 (by decide)) (by kernel_rfl)) ?_
                refine Wk.rPure 9 (some 62) (.bool true) rfl rfl (by kernel_rfl) (by kernel_rfl) ?_
                refine Wk.rCall 10 (some 63) 8 [] #[] [] rfl rfl (by kernel_rfl) rfl (by kernel_rfl) (by kernel_rfl) ?_
                refine (known_any W6).mono ?_
                rintro _ W7 ⟨rfl, hB4⟩
                have ch6 := Wk.Chg.ofBelow hB4
                have zz6 := ch6.size
                refine ⟨_, rfl, ?_⟩
                refine Wk.rPure 11 (some 64) (.bool true) rfl rfl (by kernel_rfl) (by kernel_rfl) ?_
                refine Wk.rPure 12 (some 8) (.bool true) rfl rfl (by kernel_rfl) (by kernel_rfl) ?_
                refine Wk.rEnd 13 rfl ?_
                refine Wk.nxt ?_
                refine wp_ret ?_
                refine Wk.thR ?_
                refine Wk.inR ?_
                refine Wk.thR ?_
                refine Wk.thR ?_
                refine Wk.inR ?_
                refine Wk.thR ?_
                have kk8 := Wk.Chg.step HB ch5 ⟨.inr (by omega), trivial⟩
                have kk9 := Wk.Chg.step kk8 ch6 trivial
                refine Wk.ret (.bool true) rfl (by kernel_rfl) ?_
                exact ⟨rfl, Wk.Chg.below0 kk9⟩
              · refine Wk.rPure 2 (some 52) (.bool false) rfl rfl (by kernel_rfl) (Wk.boolF (b := decide (nw ≥ most)) (decide_eq_false (by first | exact hx5 | omega)) (by kernel_rfl)) ?_
                refine Wk.rEnd 3 rfl ?_
                refine Wk.nxt ?_
                refine wp_cond_false (by kernel_rfl) ?_
                refine wp_skip ?_
                refine Wk.nxt ?_
                refine wp_seq ?_
                refine Wk.reg ?_
                refine Wk.rPure 0 (some 12) (.int .u8 1) rfl rfl (by kernel_rfl) (by kernel_rfl) ?_
                refine Wk.rEnd 1 rfl ?_
                refine Wk.nxt ?_
                refine wp_seq ?_
                refine wp_seq ?_
                refine Wk.reg ?_
                refine Wk.rPure 0 (some 65) (.slice (some ⟨gb, ob, none⟩) nb d) rfl rfl (by kernel_rfl) (by kernel_rfl) ?_
                refine Wk.rPure 1 (some 66) (.int .i64 ((k : Nat) : Int)) rfl rfl (by kernel_rfl) (by kernel_rfl) ?_
                refine Wk.rPure 2 (some 67) (.pointer (some ⟨gb, ob + k * 1, none⟩)) rfl rfl (by kernel_rfl) (Wk.index_sl 43 4 (.tmp 65) (.tmp 66) rfl Try.underlying43 1 (by kernel_rfl) gb ob nb d k .i64 (by kernel_rfl) (by kernel_rfl) (by omega)) ?_
                refine Wk.rPure 3 (some 68) (.bool lb) rfl rfl (by kernel_rfl) (Wk.load1 4 (.tmp 67) rfl (by kernel_rfl) ⟨gb, ob + k * 1, none⟩ (by kernel_rfl) (.bool lb) (Wk.Chg.cell HB qb trivial)) ?_
                refine Wk.rEnd 4 rfl ?_
                refine Wk.nxt ?_
                cases lb
                · refine wp_cond_false (by kernel_rfl) ?_
                  refine wp_skip ?_
                  refine Wk.nxt ?_
                  refine wp_seq ?_
                  refine Wk.reg ?_
                  refine Wk.rPure 0 (some 69) (.pointer (some ⟨w.heap.size, 0, none⟩)) rfl rfl (by kernel_rfl) (by kernel_rfl) ?_
                  refine Wk.rPure 1 (some 70) (.int .i64 nw) rfl rfl (by kernel_rfl) (by kernel_rfl) ?_
                  refine Wk.rPure 2 (some 71) (.slice (some ⟨gb, ob, none⟩) nb d) rfl rfl (by kernel_rfl) (by kernel_rfl) ?_
                  refine Wk.rPure 3 (some 72) (.int .i64 ((k : Nat) : Int)) rfl rfl (by kernel_rfl) (by kernel_rfl) ?_
                  refine Wk.rPure 4 (some 73) (.pointer (some ⟨gb, ob + k * 1, none⟩)) rfl rfl (by kernel_rfl) (Wk.index_sl 43 4 (.tmp 71) (.tmp 72) rfl Try.underlying43 1 (by kernel_rfl) gb ob nb d k .i64 (by kernel_rfl) (by kernel_rfl) (by omega)) ?_
                  refine Wk.rPure 5 (some 74) (.bool false) rfl rfl (by kernel_rfl) (Wk.load1 4 (.tmp 73) rfl (by kernel_rfl) ⟨gb, ob + k * 1, none⟩ (by kernel_rfl) (.bool false) (Wk.Chg.cell HB qb trivial)) ?_
                  refine Wk.rPure 6 (some 75) (.agg #[.bool false, .bool false, .bool false, .bool false, .bool false, .bool false, .bool false, .bool false]) rfl rfl (by kernel_rfl) (by kernel_rfl) ?_
                  refine Wk.rCall 7 (some 76) 10 [.tmp 69, .tmp 70, .tmp 75] #[23, 3, 28] [.pointer (some ⟨w.heap.size, 0, none⟩), .int .i64 nw, .agg #[.bool false, .bool false, .bool false, .bool false, .bool false, .bool false, .bool false, .bool false]] rfl rfl (by kernel_rfl) rfl (by kernel_rfl) (by kernel_rfl) ?_
                  refine (Step_any (Mur.waitT most budget bg lst) nw (⟨false, false, false, false, false, false, false, false⟩ : Fct) w.heap.size _ hG (Mur.wait_ok ⟨by omega, by omega⟩ ⟨by omega, by omega⟩ _ _) ⟨by omega, by omega⟩).mono ?_
                  rw [Mur.wait_claim hbn (by omega)]
                  rintro _ W8 ⟨rfl, hu2⟩
                  have ch7 := Mur.Upd.chg hu2
                  replace hu2 := hu2.self
                  have zz7 := ch7.size
                  refine ⟨_, rfl, ?_⟩
                  refine Wk.rPure 8 (some 77) (.int .u8 1) rfl rfl (by kernel_rfl) (by kernel_rfl) ?_
                  refine Wk.rPure 9 (some 78) (.bool false) rfl rfl (by kernel_rfl) (Wk.boolF (b := ((1 : Int) != (1 : Int))) (bne_eq_false_iff_eq.2 (by decide)) (by kernel_rfl)) ?_
                  refine Wk.rPure 10 (some 79) (.bool false) rfl rfl (by kernel_rfl) (by kernel_rfl) ?_
                  refine Wk.rPure 11 (some 80) (.pointer (some ⟨w.heap.size, 0, none⟩)) rfl rfl (by kernel_rfl) (by kernel_rfl) ?_
                  refine Wk.rCall 12 (some 81) 11 [.tmp 80] #[23] [.pointer (some ⟨w.heap.size, 0, none⟩)] rfl rfl (by kernel_rfl) rfl (by kernel_rfl) (by kernel_rfl) ?_
                  refine (Over_any (Mur.waitT most budget true 1) w.heap.size _ hu2).mono ?_
                  rintro _ _ ⟨rfl, rfl⟩
                  rw [show (((Mur.waitT most budget true 1).state == 4) : Bool) = false from rfl]
                  refine ⟨_, rfl, ?_⟩
                  refine Wk.rPure 13 (some 82) (.bool false) rfl rfl (by kernel_rfl) (by kernel_rfl) ?_
                  refine Wk.rEnd 14 rfl ?_
                  refine Wk.nxt ?_
                  refine wp_cond_false (by kernel_rfl) ?_
                  refine wp_skip ?_
                  refine Wk.inN ?_
                  refine Wk.nxt ?_
                  refine Wk.reg ?_
                  refine Wk.rPure 0 (some 83) (.int .i64 ((k + 1 : Nat) : Int)) rfl rfl (by kernel_rfl) (Wk.int64 (n := ((k : Nat) : Int) + 1) (z := ((k + 1 : Nat) : Int)) (by omega) (by omega) (by omega) (by kernel_rfl)) ?_
                  refine Wk.rPure 1 (some 37) (.int .i64 ((k + 1 : Nat) : Int)) rfl rfl (by kernel_rfl) (by kernel_rfl) ?_
                  refine Wk.rEnd 2 rfl ?_
                  refine Wk.nxt ?_
                  have kk10 := Wk.Chg.step HB ch7 ⟨.inr (by omega), trivial⟩
                  refine ⟨_, ?_, k + 1, true, 1, nw, rfl, by kernel_rfl, (by omega), hu2, ⟨by omega, by omega⟩, (fun _ => rfl), (.inl rfl), kk10⟩
                  · omega
                · refine wp_cond_true (by kernel_rfl) ?_
                  refine Wk.reg ?_
                  refine Wk.rPure 0 (some 12) (.int .u8 0) rfl rfl (by kernel_rfl) (by kernel_rfl) ?_
                  refine Wk.rEnd 1 rfl ?_
                  refine Wk.nxt ?_
                  refine wp_seq ?_
                  refine Wk.reg ?_
                  refine Wk.rPure 0 (some 69) (.pointer (some ⟨w.heap.size, 0, none⟩)) rfl rfl (by kernel_rfl) (by kernel_rfl) ?_
                  refine Wk.rPure 1 (some 70) (.int .i64 nw) rfl rfl (by kernel_rfl) (by kernel_rfl) ?_
                  refine Wk.rPure 2 (some 71) (.slice (some ⟨gb, ob, none⟩) nb d) rfl rfl (by kernel_rfl) (by kernel_rfl) ?_
                  refine Wk.rPure 3 (some 72) (.int .i64 ((k : Nat) : Int)) rfl rfl (by kernel_rfl) (by kernel_rfl) ?_
                  refine Wk.rPure 4 (some 73) (.pointer (some ⟨gb, ob + k * 1, none⟩)) rfl rfl (by kernel_rfl) (Wk.index_sl 43 4 (.tmp 71) (.tmp 72) rfl Try.underlying43 1 (by kernel_rfl) gb ob nb d k .i64 (by kernel_rfl) (by kernel_rfl) (by omega)) ?_
                  refine Wk.rPure 5 (some 74) (.bool true) rfl rfl (by kernel_rfl) (Wk.load1 4 (.tmp 73) rfl (by kernel_rfl) ⟨gb, ob + k * 1, none⟩ (by kernel_rfl) (.bool true) (Wk.Chg.cell HB qb trivial)) ?_
                  refine Wk.rPure 6 (some 75) (.agg #[.bool false, .bool false, .bool true, .bool false, .bool false, .bool false, .bool false, .bool false]) rfl rfl (by kernel_rfl) (by kernel_rfl) ?_
                  refine Wk.rCall 7 (some 76) 10 [.tmp 69, .tmp 70, .tmp 75] #[23, 3, 28] [.pointer (some ⟨w.heap.size, 0, none⟩), .int .i64 nw, .agg #[.bool false, .bool false, .bool true, .bool false, .bool false, .bool false, .bool false, .bool false]] rfl rfl (by kernel_rfl) rfl (by kernel_rfl) (by kernel_rfl) ?_
                  refine (Step_any (Mur.waitT most budget bg lst) nw (⟨false, false, true, false, false, false, false, false⟩ : Fct) w.heap.size _ hG (Mur.wait_ok ⟨by omega, by omega⟩ ⟨by omega, by omega⟩ _ _) ⟨by omega, by omega⟩).mono ?_
                  rw [Mur.wait_lease hbn (by omega)]
                  rintro _ W9 ⟨rfl, hu3⟩
                  have ch8 := Mur.Upd.chg hu3
                  replace hu3 := hu3.self
                  have zz8 := ch8.size
                  refine ⟨_, rfl, ?_⟩
                  refine Wk.rPure 8 (some 77) (.int .u8 0) rfl rfl (by kernel_rfl) (by kernel_rfl) ?_
                  refine Wk.rPure 9 (some 78) (.bool false) rfl rfl (by kernel_rfl) (Wk.boolF (b := ((0 : Int) != (0 : Int))) (bne_eq_false_iff_eq.2 (by decide)) (by kernel_rfl)) ?_
                  refine Wk.rPure 10 (some 79) (.bool false) rfl rfl (by kernel_rfl) (by kernel_rfl) ?_
                  refine Wk.rPure 11 (some 80) (.pointer (some ⟨w.heap.size, 0, none⟩)) rfl rfl (by kernel_rfl) (by kernel_rfl) ?_
                  refine Wk.rCall 12 (some 81) 11 [.tmp 80] #[23] [.pointer (some ⟨w.heap.size, 0, none⟩)] rfl rfl (by kernel_rfl) rfl (by kernel_rfl) (by kernel_rfl) ?_
                  refine (Over_any (Mur.waitT most budget true 0) w.heap.size _ hu3).mono ?_
                  rintro _ _ ⟨rfl, rfl⟩
                  rw [show (((Mur.waitT most budget true 0).state == 4) : Bool) = false from rfl]
                  refine ⟨_, rfl, ?_⟩
                  refine Wk.rPure 13 (some 82) (.bool false) rfl rfl (by kernel_rfl) (by kernel_rfl) ?_
                  refine Wk.rEnd 14 rfl ?_
                  refine Wk.nxt ?_
                  refine wp_cond_false (by kernel_rfl) ?_
                  refine wp_skip ?_
                  refine Wk.inN ?_
                  refine Wk.nxt ?_
                  refine Wk.reg ?_
                  refine Wk.rPure 0 (some 83) (.int .i64 ((k + 1 : Nat) : Int)) rfl rfl (by kernel_rfl) (Wk.int64 (n := ((k : Nat) : Int) + 1) (z := ((k + 1 : Nat) : Int)) (by omega) (by omega) (by omega) (by kernel_rfl)) ?_
                  refine Wk.rPure 1 (some 37) (.int .i64 ((k + 1 : Nat) : Int)) rfl rfl (by kernel_rfl) (by kernel_rfl) ?_
                  refine Wk.rEnd 2 rfl ?_
                  refine Wk.nxt ?_
                  have kk11 := Wk.Chg.step HB ch8 ⟨.inr (by omega), trivial⟩
                  refine ⟨_, ?_, k + 1, true, 0, nw, rfl, by kernel_rfl, (by omega), hu3, ⟨by omega, by omega⟩, (fun _ => rfl), (.inl rfl), kk11⟩
                  · omega
          · refine wp_seq ?_
            refine Wk.reg ?_
            refine Wk.rPure 0 (some 38) (.bool false) rfl rfl (by kernel_rfl) (Wk.boolF (b := decide (((k : Nat) : Int) < ((n : Nat) : Int))) (decide_eq_false (by omega)) (by kernel_rfl)) ?_
            refine Wk.rEnd 1 rfl ?_
            refine Wk.nxt ?_
            refine wp_seq ?_
            refine wp_cond_false (by kernel_rfl) ?_
            refine wp_exit ?_
            refine Wk.thX ?_
            refine Wk.thX ?_
            refine Wk.inX ?_
            refine Wk.nxt ?_
            refine wp_seq ?_
            refine Wk.reg ?_
            refine Wk.rPure 0 (some 84) (.pointer (some ⟨w.heap.size, 0, none⟩)) rfl rfl (by kernel_rfl) (by kernel_rfl) ?_
            refine Wk.rPure 1 (some 85) (.int .i64 now) rfl rfl (by kernel_rfl) (by kernel_rfl) ?_
            refine Wk.rPure 2 (some 86) (.agg #[.bool true, .bool false, .bool true, .bool false, .bool false, .bool false, .bool false, .bool false]) rfl rfl (by kernel_rfl) (by kernel_rfl) ?_
            refine Wk.rCall 3 (some 87) 10 [.tmp 84, .tmp 85, .tmp 86] #[23, 3, 28] [.pointer (some ⟨w.heap.size, 0, none⟩), .int .i64 now, .agg #[.bool true, .bool false, .bool true, .bool false, .bool false, .bool false, .bool false, .bool false]] rfl rfl (by kernel_rfl) rfl (by kernel_rfl) (by kernel_rfl) ?_
            refine (Step_any (Mur.waitT most budget bg lst) now (⟨true, false, true, false, false, false, false, false⟩ : Fct) w.heap.size _ hG (Mur.wait_ok ⟨by omega, by omega⟩ ⟨by omega, by omega⟩ _ _) ⟨by omega, by omega⟩).mono ?_
            obtain ⟨hd1, hd2⟩ := Mur.wait_done most budget now lst bg
            rintro _ W10 ⟨rfl, hu4⟩
            rw [hd1]
            have ch9 := Mur.Upd.chg hu4
            replace hu4 := hu4.self
            have zz9 := ch9.size
            refine ⟨_, rfl, ?_⟩
            refine Wk.rPure 4 (some 88) (.bool true) rfl rfl (by kernel_rfl) (Wk.boolT (b := ((4 : Int) == (4 : Int))) (beq_iff_eq.2 (by decide)) (by kernel_rfl)) ?_
            refine Wk.rPure 5 (some 89) (.bool true) rfl rfl (by kernel_rfl) (by kernel_rfl) ?_
            refine Wk.rPure 6 (some 90) (.pointer (some ⟨w.heap.size, 0, none⟩)) rfl rfl (by kernel_rfl) (by kernel_rfl) ?_
            refine Wk.rCall 7 (some 91) 11 [.tmp 90] #[23] [.pointer (some ⟨w.heap.size, 0, none⟩)] rfl rfl (by kernel_rfl) rfl (by kernel_rfl) (by kernel_rfl) ?_
            refine (Over_any (Trn.Step (Mur.waitT most budget bg lst) now (⟨true, false, true, false, false, false, false, false⟩ : Fct)).1 w.heap.size _ hu4).mono ?_
            rintro _ _ ⟨rfl, rfl⟩
            rw [hd2]
            rw [show (((4 : Int) == 4) : Bool) = true from rfl]
            refine ⟨_, rfl, ?_⟩
            refine Wk.rPure 8 (some 92) (.bool true) rfl rfl (by kernel_rfl) (by kernel_rfl) ?_
            refine Wk.rPure 9 (some 93) (.bool true) rfl rfl (by kernel_rfl) (by kernel_rfl) ?_
            refine Wk.rCall 10 (some 94) 8 [] #[] [] rfl rfl (by kernel_rfl) rfl (by kernel_rfl) (by kernel_rfl) ?_
            refine (known_any W10).mono ?_
            rintro _ W11 ⟨rfl, hB5⟩
            have ch10 := Wk.Chg.ofBelow hB5
            have zz10 := ch10.size
            refine ⟨_, rfl, ?_⟩
            refine Wk.rPure 11 (some 95) (.bool true) rfl rfl (by kernel_rfl) (by kernel_rfl) ?_
            refine Wk.rPure 12 (some 8) (.bool true) rfl rfl (by kernel_rfl) (by kernel_rfl) ?_
            refine Wk.rEnd 13 rfl ?_
            refine Wk.nxt ?_
            refine wp_ret ?_
            have kk12 := Wk.Chg.step HB ch9 ⟨.inr (by omega), trivial⟩
            have kk13 := Wk.Chg.step kk12 ch10 trivial
            refine Wk.ret (.bool true) rfl (by kernel_rfl) ?_
            exact ⟨rfl, Wk.Chg.below0 kk13⟩
end Go.Proofs.Ytidhohnhhhooaaa
