/- BuilderOnce, walked. -/
import Derived.Test.YtidhohnhhhooaaaBdCon
import Derived.Test.YtidhohnhhhooaaaBdOnce
namespace Go.Proofs.Ytidhohnhhhooaaa
open Go.RowKit
open Mur (Trn Fct Upd Tls Tolds Ref refTo toldTo trnTo tick outsTo wants tcells)
set_option maxRecDepth 100000
set_option maxHeartbeats 4000000
def OnceYes_F0 (b : Array Value) (u0 : Value) (u2 : Value) (u7 : Value) (u8 : Value) (u9 : Value) (u10 : Value) (u11 : Value) (u29 : Value) (u30 : Value) : Act := ⟨#[u0, b.getD 1 undef, u2, b.getD 3 undef, b.getD 4 undef, b.getD 5 undef, b.getD 6 undef, u7, u8, u9, u10, u11, b.getD 12 undef, b.getD 13 undef, b.getD 14 undef, b.getD 15 undef, b.getD 16 undef, b.getD 17 undef, b.getD 18 undef, b.getD 19 undef, b.getD 20 undef, b.getD 21 undef, b.getD 22 undef, b.getD 23 undef, b.getD 24 undef, b.getD 25 undef, b.getD 26 undef, b.getD 27 undef, b.getD 28 undef, u29, u30, b.getD 31 undef, b.getD 32 undef, b.getD 33 undef, b.getD 34 undef, b.getD 35 undef, b.getD 36 undef, b.getD 37 undef, b.getD 38 undef, b.getD 39 undef, b.getD 40 undef, b.getD 41 undef, b.getD 42 undef, b.getD 43 undef, b.getD 44 undef, b.getD 45 undef, b.getD 46 undef, b.getD 47 undef, b.getD 48 undef, b.getD 49 undef, b.getD 50 undef, b.getD 51 undef, b.getD 52 undef, b.getD 53 undef, b.getD 54 undef, b.getD 55 undef, b.getD 56 undef, b.getD 57 undef, b.getD 58 undef, b.getD 59 undef, b.getD 60 undef, b.getD 61 undef, b.getD 62 undef, b.getD 63 undef, b.getD 64 undef, b.getD 65 undef, b.getD 66 undef, b.getD 67 undef, b.getD 68 undef, b.getD 69 undef, b.getD 70 undef, b.getD 71 undef, b.getD 72 undef, b.getD 73 undef, b.getD 74 undef, b.getD 75 undef, b.getD 76 undef, b.getD 77 undef, b.getD 78 undef, b.getD 79 undef, b.getD 80 undef, b.getD 81 undef, b.getD 82 undef, b.getD 83 undef, b.getD 84 undef, b.getD 85 undef, b.getD 86 undef, b.getD 87 undef, b.getD 88 undef, b.getD 89 undef, b.getD 90 undef, b.getD 91 undef, b.getD 92 undef, b.getD 93 undef, b.getD 94 undef, b.getD 95 undef, b.getD 96 undef, b.getD 97 undef, b.getD 98 undef, b.getD 99 undef, b.getD 100 undef, b.getD 101 undef, b.getD 102 undef, b.getD 103 undef, b.getD 104 undef, b.getD 105 undef, b.getD 106 undef, b.getD 107 undef, b.getD 108 undef, b.getD 109 undef, b.getD 110 undef, b.getD 111 undef, b.getD 112 undef, b.getD 113 undef, b.getD 114 undef, b.getD 115 undef, b.getD 116 undef, b.getD 117 undef, b.getD 118 undef, b.getD 119 undef, b.getD 120 undef, b.getD 121 undef, b.getD 122 undef, b.getD 123 undef, b.getD 124 undef, b.getD 125 undef, b.getD 126 undef, b.getD 127 undef, b.getD 128 undef, b.getD 129 undef, b.getD 130 undef, b.getD 131 undef, b.getD 132 undef, b.getD 133 undef, b.getD 134 undef, b.getD 135 undef, b.getD 136 undef, b.getD 137 undef, b.getD 138 undef, b.getD 139 undef, b.getD 140 undef, b.getD 141 undef, b.getD 142 undef, b.getD 143 undef, b.getD 144 undef, b.getD 145 undef, b.getD 146 undef, b.getD 147 undef, b.getD 148 undef, b.getD 149 undef, b.getD 150 undef, b.getD 151 undef, b.getD 152 undef, b.getD 153 undef, b.getD 154 undef, b.getD 155 undef, b.getD 156 undef, b.getD 157 undef, b.getD 158 undef, b.getD 159 undef], []⟩
def OnceYes_J11_1 (b : Array Value) (u0 : Value) (u2 : Value) (u7 : Value) (u8 : Value) (u9 : Value) (u10 : Value) (u11 : Value) (u12 : Value) (u29 : Value) (u30 : Value) : Act := ⟨#[u0, b.getD 1 undef, u2, b.getD 3 undef, b.getD 4 undef, b.getD 5 undef, b.getD 6 undef, u7, u8, u9, u10, u11, u12, b.getD 13 undef, b.getD 14 undef, b.getD 15 undef, b.getD 16 undef, b.getD 17 undef, b.getD 18 undef, b.getD 19 undef, b.getD 20 undef, b.getD 21 undef, b.getD 22 undef, b.getD 23 undef, b.getD 24 undef, b.getD 25 undef, b.getD 26 undef, b.getD 27 undef, b.getD 28 undef, u29, u30, b.getD 31 undef, b.getD 32 undef, b.getD 33 undef, b.getD 34 undef, b.getD 35 undef, b.getD 36 undef, b.getD 37 undef, b.getD 38 undef, b.getD 39 undef, b.getD 40 undef, b.getD 41 undef, b.getD 42 undef, b.getD 43 undef, b.getD 44 undef, b.getD 45 undef, b.getD 46 undef, b.getD 47 undef, b.getD 48 undef, b.getD 49 undef, b.getD 50 undef, b.getD 51 undef, b.getD 52 undef, b.getD 53 undef, b.getD 54 undef, b.getD 55 undef, b.getD 56 undef, b.getD 57 undef, b.getD 58 undef, b.getD 59 undef, b.getD 60 undef, b.getD 61 undef, b.getD 62 undef, b.getD 63 undef, b.getD 64 undef, b.getD 65 undef, b.getD 66 undef, b.getD 67 undef, b.getD 68 undef, b.getD 69 undef, b.getD 70 undef, b.getD 71 undef, b.getD 72 undef, b.getD 73 undef, b.getD 74 undef, b.getD 75 undef, b.getD 76 undef, b.getD 77 undef, b.getD 78 undef, b.getD 79 undef, b.getD 80 undef, b.getD 81 undef, b.getD 82 undef, b.getD 83 undef, b.getD 84 undef, b.getD 85 undef, b.getD 86 undef, b.getD 87 undef, b.getD 88 undef, b.getD 89 undef, b.getD 90 undef, b.getD 91 undef, b.getD 92 undef, b.getD 93 undef, b.getD 94 undef, b.getD 95 undef, b.getD 96 undef, b.getD 97 undef, b.getD 98 undef, b.getD 99 undef, b.getD 100 undef, b.getD 101 undef, b.getD 102 undef, b.getD 103 undef, b.getD 104 undef, b.getD 105 undef, b.getD 106 undef, b.getD 107 undef, b.getD 108 undef, b.getD 109 undef, b.getD 110 undef, b.getD 111 undef, b.getD 112 undef, b.getD 113 undef, b.getD 114 undef, b.getD 115 undef, b.getD 116 undef, b.getD 117 undef, b.getD 118 undef, b.getD 119 undef, b.getD 120 undef, b.getD 121 undef, b.getD 122 undef, b.getD 123 undef, b.getD 124 undef, b.getD 125 undef, b.getD 126 undef, b.getD 127 undef, b.getD 128 undef, b.getD 129 undef, b.getD 130 undef, b.getD 131 undef, b.getD 132 undef, b.getD 133 undef, b.getD 134 undef, b.getD 135 undef, b.getD 136 undef, b.getD 137 undef, b.getD 138 undef, b.getD 139 undef, b.getD 140 undef, b.getD 141 undef, b.getD 142 undef, b.getD 143 undef, b.getD 144 undef, b.getD 145 undef, b.getD 146 undef, b.getD 147 undef, b.getD 148 undef, b.getD 149 undef, b.getD 150 undef, b.getD 151 undef, b.getD 152 undef, b.getD 153 undef, b.getD 154 undef, b.getD 155 undef, b.getD 156 undef, b.getD 157 undef, b.getD 158 undef, b.getD 159 undef], []⟩
theorem start_first (most budget : Int) (L : Tls) (k : Nat) : ((trnTo 1000 0 most budget L k).start (tick 1000 0 L (k + 1))).first = tick 1000 0 L 1 := by
  rcases k with _ | k
  · rfl
  · obtain ⟨sim, _, hbg⟩ := Mur.sim_told 1000 0 most budget L (k + 1) (k + 1) (Nat.le_refl _)
    unfold Trn.start
    rw [if_pos (hbg (by omega))]
    exact sim.begun (hbg (by omega))
theorem once_yes (most budget : Int) (L : Tls) (A : Option Addr) (n c : Nat) (w : World) (hl : Tolds w A n L) (hn : n ≤ 9223372036854775807) (hm : 0 ≤ most ∧ most ≤ 1000000) (hb : 0 ≤ budget ∧ budget ≤ 1000000) :
    Calls Try.prog 5 #[.int .i64 most, .int .i64 budget, .slice A n c] w fun e w' => e = .returned (.bool true) ∧ Below w.heap.size w w' := by
  have HL := Go.Lib.hid hl
  clear hl
  obtain ⟨hm1, hm2⟩ := hm
  obtain ⟨hb1, hb2⟩ := hb
  refine calls_of_wp Try.func5 rfl ?_
  refine wp_seq ?_
  refine Wk.reg ?_
  refine Wk.rPure 0 (some 6) (.bool false) rfl rfl (by kernel_rfl) (by kernel_rfl) ?_
  refine Wk.rEnd 1 rfl ?_
  refine Wk.nxt ?_
  refine wp_seq ?_
  refine Wk.reg ?_
  refine Wk.rPure 0 (some 17) (.int .i64 most) rfl rfl (by kernel_rfl) (by kernel_rfl) ?_
  refine Wk.rPure 1 (some 18) (.int .i64 budget) rfl rfl (by kernel_rfl) (by kernel_rfl) ?_
  refine Wk.rCall 2 (some 19) 7 [.tmp 17, .tmp 18] #[3, 3] [.int .i64 most, .int .i64 budget] rfl rfl (by kernel_rfl) rfl (by kernel_rfl) (by kernel_rfl) ?_
  refine (New_law most budget w (by omega) (by omega) (by omega) (by omega)).mono ?_
  rintro _ W1 ⟨rfl, hb1, ch1, sz1⟩
  have zz1 := ch1.size
  refine ⟨_, rfl, ?_⟩
  refine Wk.rPure 3 (some 7) (.pointer (some ⟨w.heap.size, 0, none⟩)) rfl rfl (by kernel_rfl) (by kernel_rfl) ?_
  refine Wk.rEnd 4 rfl ?_
  refine Wk.nxt ?_
  refine wp_seq ?_
  refine wp_seq ?_
  refine Wk.reg ?_
  refine Wk.rPure 0 (some 20) (.pointer (some ⟨w.heap.size, 0, none⟩)) rfl rfl (by kernel_rfl) (by kernel_rfl) ?_
  refine Wk.rPure 1 (some 21) (.bool false) rfl rfl (by kernel_rfl) (by kernel_rfl) ?_
  refine Wk.rPure 2 (some 22) (.bool false) rfl rfl (by kernel_rfl) (by kernel_rfl) ?_
  refine Wk.rPure 3 (some 23) (.slice A n c) rfl rfl (by kernel_rfl) (by kernel_rfl) ?_
  refine Wk.rPure 4 (some 24) (.int .i64 ((n : Nat) : Int)) rfl rfl (by kernel_rfl) (by kernel_rfl) ?_
  by_cases hx1 : ((n : Nat) : Int) > (200 : Int)
  · refine Wk.rPure 5 (some 25) (.bool true) rfl rfl (by kernel_rfl) (Wk.boolT (b := decide (((n : Nat) : Int) > (200 : Int))) (decide_eq_true (by first | exact hx1 | omega)) (by kernel_rfl)) ?_
    refine Wk.rPure 6 (some 26) (.bool true) rfl rfl (by kernel_rfl) (by kernel_rfl) ?_
    refine Wk.rEnd 7 rfl ?_
    refine Wk.nxt ?_
    refine wp_cond_true (by kernel_rfl) ?_
    refine wp_seq ?_
    refine Wk.reg ?_
    refine Wk.rCall 0 (some 27) 8 [] #[] [] rfl rfl (by kernel_rfl) rfl (by kernel_rfl) (by kernel_rfl) ?_
    refine (known_any W1).mono ?_
    rintro _ W2 ⟨rfl, hB1⟩
    have ch2 := Wk.Chg.ofBelow hB1
    have zz2 := ch2.size
    refine ⟨_, rfl, ?_⟩
    refine Wk.rPure 1 (some 6) (.bool true) rfl rfl (by kernel_rfl) (by kernel_rfl) ?_
    refine Wk.rEnd 2 rfl ?_
    refine Wk.nxt ?_
    refine wp_ret ?_
    refine Wk.thR ?_
    have kk1 : Wk.Chg [] w W1 := Wk.Chg.step ((Wk.Chg.refl _).more (by simp)) ch1 trivial
    have kk2 := Wk.Chg.step kk1 ch2 trivial
    refine Wk.ret (.bool true) rfl (by kernel_rfl) ?_
    exact ⟨rfl, Wk.Chg.below0 kk2⟩
  · refine Wk.rPure 5 (some 25) (.bool false) rfl rfl (by kernel_rfl) (Wk.boolF (b := decide (((n : Nat) : Int) > (200 : Int))) (decide_eq_false (by first | exact hx1 | omega)) (by kernel_rfl)) ?_
    refine Wk.rPure 6 (some 26) (.bool false) rfl rfl (by kernel_rfl) (by kernel_rfl) ?_
    refine Wk.rEnd 7 rfl ?_
    refine Wk.nxt ?_
    refine wp_cond_false (by kernel_rfl) ?_
    refine wp_skip ?_
    refine Wk.nxt ?_
    refine wp_seq ?_
    refine Wk.reg ?_
    refine Wk.rPure 0 (some 8) (.int .i64 0) rfl rfl (by kernel_rfl) (by kernel_rfl) ?_
    refine Wk.rPure 1 (some 9) (.int .i64 0) rfl rfl (by kernel_rfl) (by kernel_rfl) ?_
    refine Wk.rEnd 2 rfl ?_
    refine Wk.nxt ?_
    refine wp_seq ?_
    refine Wk.reg ?_
    refine Wk.rPure 0 (some 10) (.int .i64 0) rfl rfl (by kernel_rfl) (by kernel_rfl) ?_
    refine Wk.rEnd 1 rfl ?_
    refine Wk.nxt ?_
    refine wp_seq ?_
    refine Wk.reg ?_
    refine Wk.rPure 0 (some 11) (.int .u8 0) rfl rfl (by kernel_rfl) (by kernel_rfl) ?_
    refine Wk.rEnd 1 rfl ?_
    refine Wk.nxt ?_
    refine wp_seq ?_
    refine wp_seq ?_
    refine Wk.reg ?_
    refine Wk.rPure 0 (some 28) (.slice A n c) rfl rfl (by kernel_rfl) (by kernel_rfl) ?_
    refine Wk.rPure 1 (some 29) (.int .i64 ((n : Nat) : Int)) rfl rfl (by kernel_rfl) (by kernel_rfl) ?_
    refine Wk.rPure 2 (some 30) (.int .i64 0) rfl rfl (by kernel_rfl) (by kernel_rfl) ?_
    refine Wk.rEnd 3 rfl ?_
    refine Wk.nxt ?_
    refine wp_block ?_
    refine Wk.loop (fun m a wr => ∃ (k : Nat) (last : Int) (ft : Int) (first : Int), m = n - k ∧ a = OnceYes_F0 a.tmps (.int .i64 most) (.slice A n c) (.pointer (some ⟨w.heap.size, 0, none⟩)) (.int .i64 (tick 1000 0 L k)) (.int .i64 first) (.int .i64 ft) (.int .u8 last) (.int .i64 ((n : Nat) : Int)) (.int .i64 ((k : Nat) : Int)) ∧ k ≤ n ∧ wr.heap[w.heap.size]? = some (.cells (trnTo 1000 0 most budget L k).cells 41 (0, 0)) ∧ Mur.OnceInv (trnTo 1000 0 most budget L k) last ft ∧ (1 ≤ k → first = tick 1000 0 L 1) ∧ (0 ≤ first ∧ first ≤ 1000000) ∧ Wk.Chg [] w wr) (n - 0) ?_ ?_
    · have kk3 : Wk.Chg [] w W1 := Wk.Chg.step ((Wk.Chg.refl _).more (by simp)) ch1 trivial
      refine ⟨0, 0, 0, 0, rfl, by kernel_rfl, Nat.zero_le _, hb1, Mur.OnceInv.new _ _, (fun h => absurd h (by omega)), ⟨by decide, by decide⟩, kk3⟩
    · rintro mm1 aa1 W3 ⟨k, last, ft, first, hmm1, hF1, hk, hG, hI, hF, ⟨hfi1, hfi2⟩, HB⟩
      generalize aa1.tmps = bb1 at hF1
      subst hF1
      have hsz : w.heap.size < W3.heap.size := (Array.getElem?_eq_some_iff.1 hG).1
      have htk := Mur.tick_range (show (0 : Int) ≤ 1000 by decide) L k (now := 0)
      have htk1 := Mur.tick_range (show (0 : Int) ≤ 1000 by decide) L 1 (now := 0)
      obtain ⟨sim, _, hbg⟩ := Mur.sim_told 1000 0 most budget L k k (Nat.le_refl _)
      have hf0 := hI.f0
      by_cases hlt : k < n
      · obtain ⟨g, off, rfl, hc⟩ := HL.out.2 (by omega)
        obtain ⟨⟨x, f⟩, hx⟩ : ∃ p, L[k]? = some p := ⟨_, List.getElem?_eq_getElem (by rw [HL.out.1]; exact hlt)⟩
        obtain ⟨b0, b1, b2, b3, b4, b5, b6, b7⟩ := f
        obtain ⟨q, qf⟩ := hc k x _ hx
        have hg : g < w.heap.size := World.block_lt_of_cell? w _ q
        have qF : w.rangeAt g (off + k * 9 + 1) [.bool b0, .bool b1, .bool b2, .bool b3, .bool b4, .bool b5, .bool b6, .bool b7] := fun j v hv => qf j v hv
        have hcl := Mur.clip_range (show (0 : Int) ≤ 1000 by decide) x
        clear hc
        refine wp_seq ?_
        refine Wk.reg ?_
        refine Wk.rPure 0 (some 31) (.bool true) rfl rfl (by kernel_rfl) (Wk.boolT (b := decide (((k : Nat) : Int) < ((n : Nat) : Int))) (decide_eq_true (by omega)) (by kernel_rfl)) ?_
        refine Wk.rEnd 1 rfl ?_
        refine Wk.nxt ?_
        refine wp_seq ?_
        refine wp_cond_true (by kernel_rfl) ?_
        refine wp_skip ?_
        refine Wk.nxt ?_
        refine wp_seq ?_
        refine wp_block ?_
        refine wp_seq ?_
        refine Wk.reg ?_
        refine Wk.rPure 0 (some 32) (.int .i64 ((k : Nat) : Int)) rfl rfl (by kernel_rfl) (by kernel_rfl) ?_
        refine Wk.rPure 1 (some 12) (.int .i64 ((k : Nat) : Int)) rfl rfl (by kernel_rfl) (by kernel_rfl) ?_
        refine Wk.rEnd 2 rfl ?_
        refine Wk.nxt ?_
        refine wp_seq ?_
        refine Wk.reg ?_
        refine Wk.rPure 0 (some 33) (.int .i64 (tick 1000 0 L k)) rfl rfl (by kernel_rfl) (by kernel_rfl) ?_
        refine Wk.rPure 1 (some 34) (.slice (some ⟨g, off, none⟩) n c) rfl rfl (by kernel_rfl) (by kernel_rfl) ?_
        refine Wk.rPure 2 (some 35) (.int .i64 ((k : Nat) : Int)) rfl rfl (by kernel_rfl) (by kernel_rfl) ?_
        refine Wk.rPure 3 (some 36) (.pointer (some ⟨g, off + k * 9, none⟩)) rfl rfl (by kernel_rfl) (Wk.index_sl 22 30 (.tmp 34) (.tmp 35) rfl Try.underlying22 9 (by kernel_rfl) g off n c k .i64 (by kernel_rfl) (by kernel_rfl) (by omega)) ?_
        refine Wk.rPure 4 (some 37) (.pointer (some ⟨g, off + k * 9, none⟩)) rfl rfl (by kernel_rfl) (by kernel_rfl) ?_
        refine Wk.rPure 5 (some 38) (.int .i64 x) rfl rfl (by kernel_rfl) (Wk.load1 3 (.tmp 37) rfl (by kernel_rfl) ⟨g, off + k * 9, none⟩ (by kernel_rfl) (.int .i64 x) (Wk.Chg.cell HB q trivial)) ?_
        refine Wk.rPure 6 (some 39) (.int .i64 (if (0 : Int) > x then (0 : Int) else x)) rfl rfl (by kernel_rfl) (by kernel_rfl) ?_
        refine Wk.rPure 7 (some 40) (.int .i64 (if (1000 : Int) < (if (0 : Int) > x then (0 : Int) else x) then (1000 : Int) else (if (0 : Int) > x then (0 : Int) else x))) rfl rfl (by kernel_rfl) (by kernel_rfl) ?_
        have hts := Mur.tick_succ hx (hi := 1000) (now := 0)
        refine Wk.rPure 8 (some 41) (.int .i64 (tick 1000 0 L (k + 1))) rfl rfl (by kernel_rfl) (Wk.int64 (n := tick 1000 0 L k + Mur.clip 1000 x) (z := tick 1000 0 L (k + 1)) hts.symm (by omega) (by omega) (by kernel_rfl)) ?_
        refine Wk.rPure 9 (some 8) (.int .i64 (tick 1000 0 L (k + 1))) rfl rfl (by kernel_rfl) (by kernel_rfl) ?_
        refine Wk.rEnd 10 rfl ?_
        refine Wk.nxt ?_
        refine wp_seq ?_
        refine Wk.cut (fun a wj => ∃ (fi : Int), a = OnceYes_J11_1 a.tmps (.int .i64 most) (.slice (some ⟨g, off, none⟩) n c) (.pointer (some ⟨w.heap.size, 0, none⟩)) (.int .i64 (tick 1000 0 L (k + 1))) (.int .i64 fi) (.int .i64 ft) (.int .u8 last) (.int .i64 ((k : Nat) : Int)) (.int .i64 ((n : Nat) : Int)) (.int .i64 ((k : Nat) : Int)) ∧ W3 = wj ∧ fi = tick 1000 0 L 1) ?_ ?_
        · refine wp_seq ?_
          refine Wk.reg ?_
          refine Wk.rPure 0 (some 42) (.int .i64 ((k : Nat) : Int)) rfl rfl (by kernel_rfl) (by kernel_rfl) ?_
          by_cases hx2 : ((k : Nat) : Int) = (0 : Int)
          · refine Wk.rPure 1 (some 43) (.bool true) rfl rfl (by kernel_rfl) (Wk.boolT (b := (((k : Nat) : Int) == (0 : Int))) (beq_iff_eq.2 (by first | exact hx2 | omega)) (by kernel_rfl)) ?_
            refine Wk.rEnd 2 rfl ?_
            refine Wk.nxt ?_
            refine wp_cond_true (by kernel_rfl) ?_
            refine Wk.reg ?_
            refine Wk.rPure 0 (some 44) (.int .i64 (tick 1000 0 L (k + 1))) rfl rfl (by kernel_rfl) (by kernel_rfl) ?_
            refine Wk.rPure 1 (some 9) (.int .i64 (tick 1000 0 L (k + 1))) rfl rfl (by kernel_rfl) (by kernel_rfl) ?_
            refine Wk.rEnd 2 rfl ?_
            refine Wk.nxt ?_
            exact ⟨tick 1000 0 L (k + 1), by kernel_rfl, rfl, by rw [show k = 0 by omega]⟩
          · refine Wk.rPure 1 (some 43) (.bool false) rfl rfl (by kernel_rfl) (Wk.boolF (b := (((k : Nat) : Int) == (0 : Int))) (beq_eq_false_iff_ne.2 (by first | exact hx2 | omega)) (by kernel_rfl)) ?_
            refine Wk.rEnd 2 rfl ?_
            refine Wk.nxt ?_
            refine wp_cond_false (by kernel_rfl) ?_
            refine wp_skip ?_
            refine Wk.nxt ?_
            exact ⟨first, by kernel_rfl, rfl, hF (by omega)⟩
        · rintro aa2 _ ⟨fi, hF2, rfl, hfi⟩
          generalize aa2.tmps = bb2 at hF2
          subst hF2
          refine Wk.nxt ?_
          refine wp_seq ?_
          refine Wk.reg ?_
          refine Wk.rPure 0 (some 45) (.pointer (some ⟨w.heap.size, 0, none⟩)) rfl rfl (by kernel_rfl) (by kernel_rfl) ?_
          refine Wk.rCall 1 (some 46) 11 [.tmp 45] #[23] [.pointer (some ⟨w.heap.size, 0, none⟩)] rfl rfl (by kernel_rfl) rfl (by kernel_rfl) (by kernel_rfl) ?_
          refine (Over_any (trnTo 1000 0 most budget L k) w.heap.size _ hG).mono ?_
          rintro _ _ ⟨rfl, rfl⟩
          obtain ⟨ov, hov⟩ : ∃ ov, ((trnTo 1000 0 most budget L k).state == 4) = ov := ⟨_, rfl⟩
          rw [hov]
          replace hov := Go.Lib.hid hov
          refine ⟨_, rfl, ?_⟩
          refine Wk.rPure 2 (some 13) (.bool ov) rfl rfl (by kernel_rfl) (by kernel_rfl) ?_
          refine Wk.rEnd 3 rfl ?_
          refine Wk.nxt ?_
          refine wp_seq ?_
          refine Wk.reg ?_
          refine Wk.rPure 0 (some 47) (.pointer (some ⟨w.heap.size, 0, none⟩)) rfl rfl (by kernel_rfl) (by kernel_rfl) ?_
          refine Wk.rPure 1 (some 48) (.int .i64 (tick 1000 0 L (k + 1))) rfl rfl (by kernel_rfl) (by kernel_rfl) ?_
          refine Wk.rPure 2 (some 49) (.slice (some ⟨g, off, none⟩) n c) rfl rfl (by kernel_rfl) (by kernel_rfl) ?_
          refine Wk.rPure 3 (some 50) (.int .i64 ((k : Nat) : Int)) rfl rfl (by kernel_rfl) (by kernel_rfl) ?_
          refine Wk.rPure 4 (some 51) (.pointer (some ⟨g, off + k * 9, none⟩)) rfl rfl (by kernel_rfl) (Wk.index_sl 22 30 (.tmp 49) (.tmp 50) rfl Try.underlying22 9 (by kernel_rfl) g off n c k .i64 (by kernel_rfl) (by kernel_rfl) (by omega)) ?_
          refine Wk.rPure 5 (some 52) (.pointer (some ⟨g, off + k * 9 + 1, none⟩)) rfl rfl (by kernel_rfl) (by kernel_rfl) ?_
          refine Wk.rPure 6 (some 53) (.agg #[.bool b0, .bool b1, .bool b2, .bool b3, .bool b4, .bool b5, .bool b6, .bool b7]) rfl rfl (by kernel_rfl) (Wk.loadR 28 (.tmp 52) rfl _ Try.underlying28 rfl g (off + k * 9 + 1) (by kernel_rfl) ([.bool b0, .bool b1, .bool b2, .bool b3, .bool b4, .bool b5, .bool b6, .bool b7]) (by kernel_rfl) (Wk.Chg.range HB qF trivial)) ?_
          refine Wk.rCall 7 (some 54) 10 [.tmp 47, .tmp 48, .tmp 53] #[23, 3, 28] [.pointer (some ⟨w.heap.size, 0, none⟩), .int .i64 (tick 1000 0 L (k + 1)), .agg #[.bool b0, .bool b1, .bool b2, .bool b3, .bool b4, .bool b5, .bool b6, .bool b7]] rfl rfl (by kernel_rfl) rfl (by kernel_rfl) (by kernel_rfl) ?_
          obtain ⟨hout, hinv⟩ := Mur.once_step hI (tick 1000 0 L (k + 1)) (⟨b0, b1, b2, b3, b4, b5, b6, b7⟩ : Fct)
          rw [← Mur.trnTo_succ hx] at hinv
          refine (Step_told 1000 0 most budget L k hx w.heap.size W3 hG (by decide) (by decide) ⟨by omega, by omega⟩ ⟨by omega, by omega⟩ (by omega)).mono ?_
          rintro _ W4 ⟨rfl, hb2, ch3⟩
          generalize (Trn.Step (trnTo 1000 0 most budget L k) (tick 1000 0 L (k + 1)) (⟨b0, b1, b2, b3, b4, b5, b6, b7⟩ : Fct)).2 = xw at hout hinv ⊢
          obtain ⟨hrange, hover, hfet, hrun, hdone, hwrong⟩ := hout
          have zz3 := ch3.size
          have hs := start_first most budget L k
          rw [hs, ← hfi, sim.most] at hrun
          rcases hrange with rfl | rfl | rfl | rfl | rfl | rfl
          · have hn4 : (trnTo 1000 0 most budget L k).state ≠ 4 := fun h => by have := (hover h).2; omega
            obtain rfl : ov = false := by rw [← hov.out]; simpa using hn4
            refine ⟨_, rfl, ?_⟩
            refine Wk.rPure 8 (some 14) (.int .u8 0) rfl rfl (by kernel_rfl) (by kernel_rfl) ?_
            refine Wk.rEnd 9 rfl ?_
            refine Wk.nxt ?_
            refine wp_seq ?_
            refine wp_seq ?_
            refine Wk.reg ?_
            refine Wk.rPure 0 (some 55) (.int .u8 0) rfl rfl (by kernel_rfl) (by kernel_rfl) ?_
            refine Wk.rPure 1 (some 56) (.bool false) rfl rfl (by kernel_rfl) (Wk.boolF (b := ((0 : Int) == (2 : Int))) (beq_eq_false_iff_ne.2 (by decide)) (by kernel_rfl)) ?_
            refine Wk.rPure 2 (some 57) (.bool false) rfl rfl (by kernel_rfl) (by kernel_rfl) ?_
            refine Wk.rPass 3 (some 58) rfl rfl (by kernel_rfl) ?_
            refine Wk.rPass 4 (some 59) rfl rfl (by kernel_rfl) ?_
            refine Wk.rPure 5 (some 60) (.bool false) rfl rfl (by kernel_rfl) (by kernel_rfl) ?_
            refine Wk.rEnd 6 rfl ?_
            refine Wk.nxt ?_
            refine wp_cond_false (by kernel_rfl) ?_
            refine wp_skip ?_
            refine Wk.nxt ?_
            refine wp_seq ?_
            refine wp_block ?_
            refine wp_seq ?_
            refine wp_seq ?_
            refine Wk.reg ?_
            refine Wk.rPure 0 (some 64) (.bool false) rfl rfl (by kernel_rfl) (by kernel_rfl) ?_
            refine Wk.rPure 1 (some 65) (.bool false) rfl rfl (by kernel_rfl) (by kernel_rfl) ?_
            refine Wk.rPass 2 (some 66) rfl rfl (by kernel_rfl) ?_
            refine Wk.rPass 3 (some 67) rfl rfl (by kernel_rfl) ?_
            refine Wk.rPass 4 (some 68) rfl rfl (by kernel_rfl) ?_
            refine Wk.rPure 5 (some 69) (.bool false) rfl rfl (by kernel_rfl) (by kernel_rfl) ?_
            refine Wk.rPure 6 (some 63) (.bool false) rfl rfl (by kernel_rfl) (by kernel_rfl) ?_
            refine Wk.rEnd 7 rfl ?_
            refine Wk.nxt ?_
            refine wp_cond_false (by kernel_rfl) ?_
            refine wp_seq ?_
            refine Wk.reg ?_
            refine Wk.rPure 0 (some 70) (.int .i64 ft) rfl rfl (by kernel_rfl) (by kernel_rfl) ?_
            refine Wk.rPure 1 (some 71) (.bool false) rfl rfl (by kernel_rfl) (Wk.boolF (b := decide (ft > (1 : Int))) (decide_eq_false (by omega)) (by kernel_rfl)) ?_
            refine Wk.rPure 2 (some 63) (.bool false) rfl rfl (by kernel_rfl) (by kernel_rfl) ?_
            refine Wk.rEnd 3 rfl ?_
            refine Wk.nxt ?_
            refine wp_cond_false (by kernel_rfl) ?_
            refine Wk.reg ?_
            refine Wk.rPure 0 (some 72) (.int .u8 0) rfl rfl (by kernel_rfl) (by kernel_rfl) ?_
            refine Wk.rPure 1 (some 73) (.bool false) rfl rfl (by kernel_rfl) (Wk.boolF (b := decide ((0 : Int) > (5 : Int))) (decide_eq_false (by decide)) (by kernel_rfl)) ?_
            refine Wk.rPure 2 (some 63) (.bool false) rfl rfl (by kernel_rfl) (by kernel_rfl) ?_
            refine Wk.rEnd 3 rfl ?_
            refine Wk.nxt ?_
            refine wp_cond_false (by kernel_rfl) ?_
            refine wp_seq ?_
            refine Wk.reg ?_
            refine Wk.rPure 0 (some 75) (.int .u8 0) rfl rfl (by kernel_rfl) (by kernel_rfl) ?_
            refine Wk.rPure 1 (some 76) (.bool false) rfl rfl (by kernel_rfl) (Wk.boolF (b := ((0 : Int) == (3 : Int))) (beq_eq_false_iff_ne.2 (by decide)) (by kernel_rfl)) ?_
            refine Wk.rPure 2 (some 77) (.bool false) rfl rfl (by kernel_rfl) (by kernel_rfl) ?_
            refine Wk.rPass 3 (some 78) rfl rfl (by kernel_rfl) ?_
            refine Wk.rPass 4 (some 79) rfl rfl (by kernel_rfl) ?_
            refine Wk.rPure 5 (some 80) (.bool false) rfl rfl (by kernel_rfl) (by kernel_rfl) ?_
            refine Wk.rPure 6 (some 81) (.bool false) rfl rfl (by kernel_rfl) (by kernel_rfl) ?_
            refine Wk.rPass 7 (some 82) rfl rfl (by kernel_rfl) ?_
            refine Wk.rPass 8 (some 83) rfl rfl (by kernel_rfl) ?_
            refine Wk.rPass 9 (some 84) rfl rfl (by kernel_rfl) ?_
            refine Wk.rPass 10 (some 85) rfl rfl (by kernel_rfl) ?_
            refine Wk.rPass 11 (some 86) rfl rfl (by kernel_rfl) ?_
            refine Wk.rPass 12 (some 87) rfl rfl (by kernel_rfl) ?_
            refine Wk.rPass 13 (some 88) rfl rfl (by kernel_rfl) ?_
            refine Wk.rPure 14 (some 89) (.bool false) rfl rfl (by kernel_rfl) (by kernel_rfl) ?_
            refine Wk.rPure 15 (some 90) (.bool false) rfl rfl (by kernel_rfl) (by kernel_rfl) ?_
            refine Wk.rPass 16 (some 91) rfl rfl (by kernel_rfl) ?_
            refine Wk.rPass 17 (some 92) rfl rfl (by kernel_rfl) ?_
            refine Wk.rPass 18 (some 93) rfl rfl (by kernel_rfl) ?_
            refine Wk.rPass 19 (some 94) rfl rfl (by kernel_rfl) ?_
            refine Wk.rPass 20 (some 95) rfl rfl (by kernel_rfl) ?_
            refine Wk.rPure 21 (some 96) (.bool false) rfl rfl (by kernel_rfl) (by kernel_rfl) ?_
            refine Wk.rPure 22 (some 74) (.bool false) rfl rfl (by kernel_rfl) (by kernel_rfl) ?_
            refine Wk.rEnd 23 rfl ?_
            refine Wk.nxt ?_
            refine wp_cond_false (by kernel_rfl) ?_
            refine wp_seq ?_
            refine wp_seq ?_
            refine Wk.reg ?_
            refine Wk.rPure 0 (some 98) (.int .u8 0) rfl rfl (by kernel_rfl) (by kernel_rfl) ?_
            refine Wk.rPure 1 (some 99) (.bool false) rfl rfl (by kernel_rfl) (Wk.boolF (b := ((0 : Int) == (4 : Int))) (beq_eq_false_iff_ne.2 (by decide)) (by kernel_rfl)) ?_
            refine Wk.rPure 2 (some 100) (.bool false) rfl rfl (by kernel_rfl) (by kernel_rfl) ?_
            refine Wk.rPass 3 (some 101) rfl rfl (by kernel_rfl) ?_
            refine Wk.rPass 4 (some 102) rfl rfl (by kernel_rfl) ?_
            refine Wk.rPure 5 (some 103) (.bool false) rfl rfl (by kernel_rfl) (by kernel_rfl) ?_
            refine Wk.rPure 6 (some 104) (.bool false) rfl rfl (by kernel_rfl) (by kernel_rfl) ?_
            refine Wk.rPass 7 (some 105) rfl rfl (by kernel_rfl) ?_
            refine Wk.rPass 8 (some 106) rfl rfl (by kernel_rfl) ?_
            refine Wk.rPass 9 (some 107) rfl rfl (by kernel_rfl) ?_
            refine Wk.rPass 10 (some 108) rfl rfl (by kernel_rfl) ?_
            refine Wk.rPass 11 (some 109) rfl rfl (by kernel_rfl) ?_
            refine Wk.rPass 12 (some 110) rfl rfl (by kernel_rfl) ?_
            refine Wk.rPass 13 (some 111) rfl rfl (by kernel_rfl) ?_
            refine Wk.rPure 14 (some 112) (.bool false) rfl rfl (by kernel_rfl) (by kernel_rfl) ?_
            refine Wk.rPure 15 (some 113) (.bool false) rfl rfl (by kernel_rfl) (by kernel_rfl) ?_
            refine Wk.rPass 16 (some 114) rfl rfl (by kernel_rfl) ?_
            refine Wk.rPass 17 (some 115) rfl rfl (by kernel_rfl) ?_
            refine Wk.rPass 18 (some 116) rfl rfl (by kernel_rfl) ?_
            refine Wk.rPass 19 (some 117) rfl rfl (by kernel_rfl) ?_
            refine Wk.rPass 20 (some 118) rfl rfl (by kernel_rfl) ?_
            refine Wk.rPass 21 (some 119) rfl rfl (by kernel_rfl) ?_
            refine Wk.rPass 22 (some 120) rfl rfl (by kernel_rfl) ?_
            refine Wk.rPure 23 (some 121) (.bool false) rfl rfl (by kernel_rfl) (by kernel_rfl) ?_
            refine Wk.rPure 24 (some 97) (.bool false) rfl rfl (by kernel_rfl) (by kernel_rfl) ?_
            refine Wk.rEnd 25 rfl ?_
            refine Wk.nxt ?_
            refine wp_cond_false (by kernel_rfl) ?_
            refine Wk.reg ?_
            refine Wk.rPure 0 (some 122) (.int .u8 0) rfl rfl (by kernel_rfl) (by kernel_rfl) ?_
            refine Wk.rPure 1 (some 123) (.bool false) rfl rfl (by kernel_rfl) (Wk.boolF (b := ((0 : Int) == (5 : Int))) (beq_eq_false_iff_ne.2 (by decide)) (by kernel_rfl)) ?_
            refine Wk.rPure 2 (some 124) (.bool false) rfl rfl (by kernel_rfl) (by kernel_rfl) ?_
            refine Wk.rPass 3 (some 125) rfl rfl (by kernel_rfl) ?_
            refine Wk.rPass 4 (some 126) rfl rfl (by kernel_rfl) ?_
            refine Wk.rPure 5 (some 127) (.bool false) rfl rfl (by kernel_rfl) (by kernel_rfl) ?_
            refine Wk.rPure 6 (some 128) (.bool false) rfl rfl (by kernel_rfl) (by kernel_rfl) ?_
            refine Wk.rPass 7 (some 129) rfl rfl (by kernel_rfl) ?_
            refine Wk.rPass 8 (some 130) rfl rfl (by kernel_rfl) ?_
            refine Wk.rPass 9 (some 131) rfl rfl (by kernel_rfl) ?_
            refine Wk.rPass 10 (some 132) rfl rfl (by kernel_rfl) ?_
            refine Wk.rPass 11 (some 133) rfl rfl (by kernel_rfl) ?_
            refine Wk.rPass 12 (some 134) rfl rfl (by kernel_rfl) ?_
            refine Wk.rPass 13 (some 135) rfl rfl (by kernel_rfl) ?_
            refine Wk.rPure 14 (some 136) (.bool false) rfl rfl (by kernel_rfl) (by kernel_rfl) ?_
            refine Wk.rPure 15 (some 97) (.bool false) rfl rfl (by kernel_rfl) (by kernel_rfl) ?_
            refine Wk.rEnd 16 rfl ?_
            refine Wk.nxt ?_
            refine wp_cond_false (by kernel_rfl) ?_
            refine wp_skip ?_
            refine Wk.inN ?_
            refine Wk.nxt ?_
            refine Wk.reg ?_
            refine Wk.rPure 0 (some 137) (.int .u8 0) rfl rfl (by kernel_rfl) (by kernel_rfl) ?_
            refine Wk.rPure 1 (some 11) (.int .u8 0) rfl rfl (by kernel_rfl) (by kernel_rfl) ?_
            refine Wk.rEnd 2 rfl ?_
            refine Wk.inN ?_
            refine Wk.nxt ?_
            refine Wk.reg ?_
            refine Wk.rPure 0 (some 138) (.int .i64 ((k + 1 : Nat) : Int)) rfl rfl (by kernel_rfl) (Wk.int64 (n := ((k : Nat) : Int) + 1) (z := ((k + 1 : Nat) : Int)) (by omega) (by omega) (by omega) (by kernel_rfl)) ?_
            refine Wk.rPure 1 (some 30) (.int .i64 ((k + 1 : Nat) : Int)) rfl rfl (by kernel_rfl) (by kernel_rfl) ?_
            refine Wk.rEnd 2 rfl ?_
            refine Wk.nxt ?_
            have kk4 := Wk.Chg.step HB ch3 ⟨.inr (by omega), trivial⟩
            refine ⟨_, ?_, k + 1, 0, ft, fi, rfl, by kernel_rfl, (by omega), hb2, (by simpa using hinv), (fun _ => hfi), ⟨by omega, by omega⟩, kk4⟩
            · omega
          · have hn4 : (trnTo 1000 0 most budget L k).state ≠ 4 := fun h => by have := (hover h).2; omega
            obtain rfl : ov = false := by rw [← hov.out]; simpa using hn4
            refine ⟨_, rfl, ?_⟩
            refine Wk.rPure 8 (some 14) (.int .u8 1) rfl rfl (by kernel_rfl) (by kernel_rfl) ?_
            refine Wk.rEnd 9 rfl ?_
            refine Wk.nxt ?_
            refine wp_seq ?_
            refine wp_seq ?_
            refine Wk.reg ?_
            refine Wk.rPure 0 (some 55) (.int .u8 1) rfl rfl (by kernel_rfl) (by kernel_rfl) ?_
            refine Wk.rPure 1 (some 56) (.bool false) rfl rfl (by kernel_rfl) (Wk.boolF (b := ((1 : Int) == (2 : Int))) (beq_eq_false_iff_ne.2 (by decide)) (by kernel_rfl)) ?_
            refine Wk.rPure 2 (some 57) (.bool false) rfl rfl (by kernel_rfl) (by kernel_rfl) ?_
            refine Wk.rPass 3 (some 58) rfl rfl (by kernel_rfl) ?_
            refine Wk.rPass 4 (some 59) rfl rfl (by kernel_rfl) ?_
            refine Wk.rPure 5 (some 60) (.bool false) rfl rfl (by kernel_rfl) (by kernel_rfl) ?_
            refine Wk.rEnd 6 rfl ?_
            refine Wk.nxt ?_
            refine wp_cond_false (by kernel_rfl) ?_
            refine wp_skip ?_
            refine Wk.nxt ?_
            refine wp_seq ?_
            refine wp_block ?_
            refine wp_seq ?_
            refine wp_seq ?_
            refine Wk.reg ?_
            refine Wk.rPure 0 (some 64) (.bool false) rfl rfl (by kernel_rfl) (by kernel_rfl) ?_
            refine Wk.rPure 1 (some 65) (.bool false) rfl rfl (by kernel_rfl) (by kernel_rfl) ?_
            refine Wk.rPass 2 (some 66) rfl rfl (by kernel_rfl) ?_
            refine Wk.rPass 3 (some 67) rfl rfl (by kernel_rfl) ?_
            refine Wk.rPass 4 (some 68) rfl rfl (by kernel_rfl) ?_
            refine Wk.rPure 5 (some 69) (.bool false) rfl rfl (by kernel_rfl) (by kernel_rfl) ?_
            refine Wk.rPure 6 (some 63) (.bool false) rfl rfl (by kernel_rfl) (by kernel_rfl) ?_
            refine Wk.rEnd 7 rfl ?_
            refine Wk.nxt ?_
            refine wp_cond_false (by kernel_rfl) ?_
            refine wp_seq ?_
            refine Wk.reg ?_
            refine Wk.rPure 0 (some 70) (.int .i64 ft) rfl rfl (by kernel_rfl) (by kernel_rfl) ?_
            refine Wk.rPure 1 (some 71) (.bool false) rfl rfl (by kernel_rfl) (Wk.boolF (b := decide (ft > (1 : Int))) (decide_eq_false (by omega)) (by kernel_rfl)) ?_
            refine Wk.rPure 2 (some 63) (.bool false) rfl rfl (by kernel_rfl) (by kernel_rfl) ?_
            refine Wk.rEnd 3 rfl ?_
            refine Wk.nxt ?_
            refine wp_cond_false (by kernel_rfl) ?_
            refine Wk.reg ?_
            refine Wk.rPure 0 (some 72) (.int .u8 1) rfl rfl (by kernel_rfl) (by kernel_rfl) ?_
            refine Wk.rPure 1 (some 73) (.bool false) rfl rfl (by kernel_rfl) (Wk.boolF (b := decide ((1 : Int) > (5 : Int))) (decide_eq_false (by decide)) (by kernel_rfl)) ?_
            refine Wk.rPure 2 (some 63) (.bool false) rfl rfl (by kernel_rfl) (by kernel_rfl) ?_
            refine Wk.rEnd 3 rfl ?_
            refine Wk.nxt ?_
            refine wp_cond_false (by kernel_rfl) ?_
            refine wp_seq ?_
            refine Wk.reg ?_
            refine Wk.rPure 0 (some 75) (.int .u8 1) rfl rfl (by kernel_rfl) (by kernel_rfl) ?_
            refine Wk.rPure 1 (some 76) (.bool false) rfl rfl (by kernel_rfl) (Wk.boolF (b := ((1 : Int) == (3 : Int))) (beq_eq_false_iff_ne.2 (by decide)) (by kernel_rfl)) ?_
            refine Wk.rPure 2 (some 77) (.bool false) rfl rfl (by kernel_rfl) (by kernel_rfl) ?_
            refine Wk.rPass 3 (some 78) rfl rfl (by kernel_rfl) ?_
            refine Wk.rPass 4 (some 79) rfl rfl (by kernel_rfl) ?_
            refine Wk.rPure 5 (some 80) (.bool false) rfl rfl (by kernel_rfl) (by kernel_rfl) ?_
            refine Wk.rPure 6 (some 81) (.bool false) rfl rfl (by kernel_rfl) (by kernel_rfl) ?_
            refine Wk.rPass 7 (some 82) rfl rfl (by kernel_rfl) ?_
            refine Wk.rPass 8 (some 83) rfl rfl (by kernel_rfl) ?_
            refine Wk.rPass 9 (some 84) rfl rfl (by kernel_rfl) ?_
            refine Wk.rPass 10 (some 85) rfl rfl (by kernel_rfl) ?_
            refine Wk.rPass 11 (some 86) rfl rfl (by kernel_rfl) ?_
            refine Wk.rPass 12 (some 87) rfl rfl (by kernel_rfl) ?_
            refine Wk.rPass 13 (some 88) rfl rfl (by kernel_rfl) ?_
            refine Wk.rPure 14 (some 89) (.bool false) rfl rfl (by kernel_rfl) (by kernel_rfl) ?_
            refine Wk.rPure 15 (some 90) (.bool false) rfl rfl (by kernel_rfl) (by kernel_rfl) ?_
            refine Wk.rPass 16 (some 91) rfl rfl (by kernel_rfl) ?_
            refine Wk.rPass 17 (some 92) rfl rfl (by kernel_rfl) ?_
            refine Wk.rPass 18 (some 93) rfl rfl (by kernel_rfl) ?_
            refine Wk.rPass 19 (some 94) rfl rfl (by kernel_rfl) ?_
            refine Wk.rPass 20 (some 95) rfl rfl (by kernel_rfl) ?_
            refine Wk.rPure 21 (some 96) (.bool false) rfl rfl (by kernel_rfl) (by kernel_rfl) ?_
            refine Wk.rPure 22 (some 74) (.bool false) rfl rfl (by kernel_rfl) (by kernel_rfl) ?_
            refine Wk.rEnd 23 rfl ?_
            refine Wk.nxt ?_
            refine wp_cond_false (by kernel_rfl) ?_
            refine wp_seq ?_
            refine wp_seq ?_
            refine Wk.reg ?_
            refine Wk.rPure 0 (some 98) (.int .u8 1) rfl rfl (by kernel_rfl) (by kernel_rfl) ?_
            refine Wk.rPure 1 (some 99) (.bool false) rfl rfl (by kernel_rfl) (Wk.boolF (b := ((1 : Int) == (4 : Int))) (beq_eq_false_iff_ne.2 (by decide)) (by kernel_rfl)) ?_
            refine Wk.rPure 2 (some 100) (.bool false) rfl rfl (by kernel_rfl) (by kernel_rfl) ?_
            refine Wk.rPass 3 (some 101) rfl rfl (by kernel_rfl) ?_
            refine Wk.rPass 4 (some 102) rfl rfl (by kernel_rfl) ?_
            refine Wk.rPure 5 (some 103) (.bool false) rfl rfl (by kernel_rfl) (by kernel_rfl) ?_
            refine Wk.rPure 6 (some 104) (.bool false) rfl rfl (by kernel_rfl) (by kernel_rfl) ?_
            refine Wk.rPass 7 (some 105) rfl rfl (by kernel_rfl) ?_
            refine Wk.rPass 8 (some 106) rfl rfl (by kernel_rfl) ?_
            refine Wk.rPass 9 (some 107) rfl rfl (by kernel_rfl) ?_
            refine Wk.rPass 10 (some 108) rfl rfl (by kernel_rfl) ?_
            refine Wk.rPass 11 (some 109) rfl rfl (by kernel_rfl) ?_
            refine Wk.rPass 12 (some 110) rfl rfl (by kernel_rfl) ?_
            refine Wk.rPass 13 (some 111) rfl rfl (by kernel_rfl) ?_
            refine Wk.rPure 14 (some 112) (.bool false) rfl rfl (by kernel_rfl) (by kernel_rfl) ?_
            refine Wk.rPure 15 (some 113) (.bool false) rfl rfl (by kernel_rfl) (by kernel_rfl) ?_
            refine Wk.rPass 16 (some 114) rfl rfl (by kernel_rfl) ?_
            refine Wk.rPass 17 (some 115) rfl rfl (by kernel_rfl) ?_
            refine Wk.rPass 18 (some 116) rfl rfl (by kernel_rfl) ?_
            refine Wk.rPass 19 (some 117) rfl rfl (by kernel_rfl) ?_
            refine Wk.rPass 20 (some 118) rfl rfl (by kernel_rfl) ?_
            refine Wk.rPass 21 (some 119) rfl rfl (by kernel_rfl) ?_
            refine Wk.rPass 22 (some 120) rfl rfl (by kernel_rfl) ?_
            refine Wk.rPure 23 (some 121) (.bool false) rfl rfl (by kernel_rfl) (by kernel_rfl) ?_
            refine Wk.rPure 24 (some 97) (.bool false) rfl rfl (by kernel_rfl) (by kernel_rfl) ?_
            refine Wk.rEnd 25 rfl ?_
            refine Wk.nxt ?_
            refine wp_cond_false (by kernel_rfl) ?_
            refine Wk.reg ?_
            refine Wk.rPure 0 (some 122) (.int .u8 1) rfl rfl (by kernel_rfl) (by kernel_rfl) ?_
            refine Wk.rPure 1 (some 123) (.bool false) rfl rfl (by kernel_rfl) (Wk.boolF (b := ((1 : Int) == (5 : Int))) (beq_eq_false_iff_ne.2 (by decide)) (by kernel_rfl)) ?_
            refine Wk.rPure 2 (some 124) (.bool false) rfl rfl (by kernel_rfl) (by kernel_rfl) ?_
            refine Wk.rPass 3 (some 125) rfl rfl (by kernel_rfl) ?_
            refine Wk.rPass 4 (some 126) rfl rfl (by kernel_rfl) ?_
            refine Wk.rPure 5 (some 127) (.bool false) rfl rfl (by kernel_rfl) (by kernel_rfl) ?_
            refine Wk.rPure 6 (some 128) (.bool false) rfl rfl (by kernel_rfl) (by kernel_rfl) ?_
            refine Wk.rPass 7 (some 129) rfl rfl (by kernel_rfl) ?_
            refine Wk.rPass 8 (some 130) rfl rfl (by kernel_rfl) ?_
            refine Wk.rPass 9 (some 131) rfl rfl (by kernel_rfl) ?_
            refine Wk.rPass 10 (some 132) rfl rfl (by kernel_rfl) ?_
            refine Wk.rPass 11 (some 133) rfl rfl (by kernel_rfl) ?_
            refine Wk.rPass 12 (some 134) rfl rfl (by kernel_rfl) ?_
            refine Wk.rPass 13 (some 135) rfl rfl (by kernel_rfl) ?_
            refine Wk.rPure 14 (some 136) (.bool false) rfl rfl (by kernel_rfl) (by kernel_rfl) ?_
            refine Wk.rPure 15 (some 97) (.bool false) rfl rfl (by kernel_rfl) (by kernel_rfl) ?_
            refine Wk.rEnd 16 rfl ?_
            refine Wk.nxt ?_
            refine wp_cond_false (by kernel_rfl) ?_
            refine wp_skip ?_
            refine Wk.inN ?_
            refine Wk.nxt ?_
            refine Wk.reg ?_
            refine Wk.rPure 0 (some 137) (.int .u8 1) rfl rfl (by kernel_rfl) (by kernel_rfl) ?_
            refine Wk.rPure 1 (some 11) (.int .u8 1) rfl rfl (by kernel_rfl) (by kernel_rfl) ?_
            refine Wk.rEnd 2 rfl ?_
            refine Wk.inN ?_
            refine Wk.nxt ?_
            refine Wk.reg ?_
            refine Wk.rPure 0 (some 138) (.int .i64 ((k + 1 : Nat) : Int)) rfl rfl (by kernel_rfl) (Wk.int64 (n := ((k : Nat) : Int) + 1) (z := ((k + 1 : Nat) : Int)) (by omega) (by omega) (by omega) (by kernel_rfl)) ?_
            refine Wk.rPure 1 (some 30) (.int .i64 ((k + 1 : Nat) : Int)) rfl rfl (by kernel_rfl) (by kernel_rfl) ?_
            refine Wk.rEnd 2 rfl ?_
            refine Wk.nxt ?_
            have kk5 := Wk.Chg.step HB ch3 ⟨.inr (by omega), trivial⟩
            refine ⟨_, ?_, k + 1, 1, ft, fi, rfl, by kernel_rfl, (by omega), hb2, (by simpa using hinv), (fun _ => hfi), ⟨by omega, by omega⟩, kk5⟩
            · omega
          · have hn4 : (trnTo 1000 0 most budget L k).state ≠ 4 := fun h => by have := (hover h).2; omega
            obtain rfl : ov = false := by rw [← hov.out]; simpa using hn4
            by_cases hl : last = 2
            · refine ⟨_, rfl, ?_⟩
              refine Wk.rPure 8 (some 14) (.int .u8 2) rfl rfl (by kernel_rfl) (by kernel_rfl) ?_
              refine Wk.rEnd 9 rfl ?_
              refine Wk.nxt ?_
              refine wp_seq ?_
              refine wp_seq ?_
              refine Wk.reg ?_
              refine Wk.rPure 0 (some 55) (.int .u8 2) rfl rfl (by kernel_rfl) (by kernel_rfl) ?_
              refine Wk.rPure 1 (some 56) (.bool true) rfl rfl (by kernel_rfl) (Wk.boolT (b := ((2 : Int) == (2 : Int))) (beq_iff_eq.2 (by decide)) (by kernel_rfl)) ?_
              refine Wk.rPure 2 (some 57) (.bool true) rfl rfl (by kernel_rfl) (by kernel_rfl) ?_
              refine Wk.rPure 3 (some 58) (.int .u8 last) rfl rfl (by kernel_rfl) (by kernel_rfl) ?_
              refine Wk.rPure 4 (some 59) (.bool false) rfl rfl (by kernel_rfl) (Wk.boolF (b := (last != (2 : Int))) (bne_eq_false_iff_eq.2 (hl)) (by kernel_rfl)) ?_
              refine Wk.rPure 5 (some 60) (.bool false) rfl rfl (by kernel_rfl) (by kernel_rfl) ?_
              refine Wk.rEnd 6 rfl ?_
              refine Wk.nxt ?_
              refine wp_cond_false (by kernel_rfl) ?_
              refine wp_skip ?_
              refine Wk.nxt ?_
              refine wp_seq ?_
              refine wp_block ?_
              refine wp_seq ?_
              refine wp_seq ?_
              refine Wk.reg ?_
              refine Wk.rPure 0 (some 64) (.bool false) rfl rfl (by kernel_rfl) (by kernel_rfl) ?_
              refine Wk.rPure 1 (some 65) (.bool false) rfl rfl (by kernel_rfl) (by kernel_rfl) ?_
              refine Wk.rPass 2 (some 66) rfl rfl (by kernel_rfl) ?_
              refine Wk.rPass 3 (some 67) rfl rfl (by kernel_rfl) ?_
              refine Wk.rPass 4 (some 68) rfl rfl (by kernel_rfl) ?_
              refine Wk.rPure 5 (some 69) (.bool false) rfl rfl (by kernel_rfl) (by kernel_rfl) ?_
              refine Wk.rPure 6 (some 63) (.bool false) rfl rfl (by kernel_rfl) (by kernel_rfl) ?_
              refine Wk.rEnd 7 rfl ?_
              refine Wk.nxt ?_
              refine wp_cond_false (by kernel_rfl) ?_
              refine wp_seq ?_
              refine Wk.reg ?_
              refine Wk.rPure 0 (some 70) (.int .i64 ft) rfl rfl (by kernel_rfl) (by kernel_rfl) ?_
              refine Wk.rPure 1 (some 71) (.bool false) rfl rfl (by kernel_rfl) (Wk.boolF (b := decide (ft > (1 : Int))) (decide_eq_false (by omega)) (by kernel_rfl)) ?_
              refine Wk.rPure 2 (some 63) (.bool false) rfl rfl (by kernel_rfl) (by kernel_rfl) ?_
              refine Wk.rEnd 3 rfl ?_
              refine Wk.nxt ?_
              refine wp_cond_false (by kernel_rfl) ?_
              refine Wk.reg ?_
              refine Wk.rPure 0 (some 72) (.int .u8 2) rfl rfl (by kernel_rfl) (by kernel_rfl) ?_
              refine Wk.rPure 1 (some 73) (.bool false) rfl rfl (by kernel_rfl) (Wk.boolF (b := decide ((2 : Int) > (5 : Int))) (decide_eq_false (by decide)) (by kernel_rfl)) ?_
              refine Wk.rPure 2 (some 63) (.bool false) rfl rfl (by kernel_rfl) (by kernel_rfl) ?_
              refine Wk.rEnd 3 rfl ?_
              refine Wk.nxt ?_
              refine wp_cond_false (by kernel_rfl) ?_
              refine wp_seq ?_
              refine Wk.reg ?_
              refine Wk.rPure 0 (some 75) (.int .u8 2) rfl rfl (by kernel_rfl) (by kernel_rfl) ?_
              refine Wk.rPure 1 (some 76) (.bool false) rfl rfl (by kernel_rfl) (Wk.boolF (b := ((2 : Int) == (3 : Int))) (beq_eq_false_iff_ne.2 (by decide)) (by kernel_rfl)) ?_
              refine Wk.rPure 2 (some 77) (.bool false) rfl rfl (by kernel_rfl) (by kernel_rfl) ?_
              refine Wk.rPass 3 (some 78) rfl rfl (by kernel_rfl) ?_
              refine Wk.rPass 4 (some 79) rfl rfl (by kernel_rfl) ?_
              refine Wk.rPure 5 (some 80) (.bool false) rfl rfl (by kernel_rfl) (by kernel_rfl) ?_
              refine Wk.rPure 6 (some 81) (.bool false) rfl rfl (by kernel_rfl) (by kernel_rfl) ?_
              refine Wk.rPass 7 (some 82) rfl rfl (by kernel_rfl) ?_
              refine Wk.rPass 8 (some 83) rfl rfl (by kernel_rfl) ?_
              refine Wk.rPass 9 (some 84) rfl rfl (by kernel_rfl) ?_
              refine Wk.rPass 10 (some 85) rfl rfl (by kernel_rfl) ?_
              refine Wk.rPass 11 (some 86) rfl rfl (by kernel_rfl) ?_
              refine Wk.rPass 12 (some 87) rfl rfl (by kernel_rfl) ?_
              refine Wk.rPass 13 (some 88) rfl rfl (by kernel_rfl) ?_
              refine Wk.rPure 14 (some 89) (.bool false) rfl rfl (by kernel_rfl) (by kernel_rfl) ?_
              refine Wk.rPure 15 (some 90) (.bool false) rfl rfl (by kernel_rfl) (by kernel_rfl) ?_
              refine Wk.rPass 16 (some 91) rfl rfl (by kernel_rfl) ?_
              refine Wk.rPass 17 (some 92) rfl rfl (by kernel_rfl) ?_
              refine Wk.rPass 18 (some 93) rfl rfl (by kernel_rfl) ?_
              refine Wk.rPass 19 (some 94) rfl rfl (by kernel_rfl) ?_
              refine Wk.rPass 20 (some 95) rfl rfl (by kernel_rfl) ?_
              refine Wk.rPure 21 (some 96) (.bool false) rfl rfl (by kernel_rfl) (by kernel_rfl) ?_
              refine Wk.rPure 22 (some 74) (.bool false) rfl rfl (by kernel_rfl) (by kernel_rfl) ?_
              refine Wk.rEnd 23 rfl ?_
              refine Wk.nxt ?_
              refine wp_cond_false (by kernel_rfl) ?_
              refine wp_seq ?_
              refine wp_seq ?_
              refine Wk.reg ?_
              refine Wk.rPure 0 (some 98) (.int .u8 2) rfl rfl (by kernel_rfl) (by kernel_rfl) ?_
              refine Wk.rPure 1 (some 99) (.bool false) rfl rfl (by kernel_rfl) (Wk.boolF (b := ((2 : Int) == (4 : Int))) (beq_eq_false_iff_ne.2 (by decide)) (by kernel_rfl)) ?_
              refine Wk.rPure 2 (some 100) (.bool false) rfl rfl (by kernel_rfl) (by kernel_rfl) ?_
              refine Wk.rPass 3 (some 101) rfl rfl (by kernel_rfl) ?_
              refine Wk.rPass 4 (some 102) rfl rfl (by kernel_rfl) ?_
              refine Wk.rPure 5 (some 103) (.bool false) rfl rfl (by kernel_rfl) (by kernel_rfl) ?_
              refine Wk.rPure 6 (some 104) (.bool false) rfl rfl (by kernel_rfl) (by kernel_rfl) ?_
              refine Wk.rPass 7 (some 105) rfl rfl (by kernel_rfl) ?_
              refine Wk.rPass 8 (some 106) rfl rfl (by kernel_rfl) ?_
              refine Wk.rPass 9 (some 107) rfl rfl (by kernel_rfl) ?_
              refine Wk.rPass 10 (some 108) rfl rfl (by kernel_rfl) ?_
              refine Wk.rPass 11 (some 109) rfl rfl (by kernel_rfl) ?_
              refine Wk.rPass 12 (some 110) rfl rfl (by kernel_rfl) ?_
              refine Wk.rPass 13 (some 111) rfl rfl (by kernel_rfl) ?_
              refine Wk.rPure 14 (some 112) (.bool false) rfl rfl (by kernel_rfl) (by kernel_rfl) ?_
              refine Wk.rPure 15 (some 113) (.bool false) rfl rfl (by kernel_rfl) (by kernel_rfl) ?_
              refine Wk.rPass 16 (some 114) rfl rfl (by kernel_rfl) ?_
              refine Wk.rPass 17 (some 115) rfl rfl (by kernel_rfl) ?_
              refine Wk.rPass 18 (some 116) rfl rfl (by kernel_rfl) ?_
              refine Wk.rPass 19 (some 117) rfl rfl (by kernel_rfl) ?_
              refine Wk.rPass 20 (some 118) rfl rfl (by kernel_rfl) ?_
              refine Wk.rPass 21 (some 119) rfl rfl (by kernel_rfl) ?_
              refine Wk.rPass 22 (some 120) rfl rfl (by kernel_rfl) ?_
              refine Wk.rPure 23 (some 121) (.bool false) rfl rfl (by kernel_rfl) (by kernel_rfl) ?_
              refine Wk.rPure 24 (some 97) (.bool false) rfl rfl (by kernel_rfl) (by kernel_rfl) ?_
              refine Wk.rEnd 25 rfl ?_
              refine Wk.nxt ?_
              refine wp_cond_false (by kernel_rfl) ?_
              refine Wk.reg ?_
              refine Wk.rPure 0 (some 122) (.int .u8 2) rfl rfl (by kernel_rfl) (by kernel_rfl) ?_
              refine Wk.rPure 1 (some 123) (.bool false) rfl rfl (by kernel_rfl) (Wk.boolF (b := ((2 : Int) == (5 : Int))) (beq_eq_false_iff_ne.2 (by decide)) (by kernel_rfl)) ?_
              refine Wk.rPure 2 (some 124) (.bool false) rfl rfl (by kernel_rfl) (by kernel_rfl) ?_
              refine Wk.rPass 3 (some 125) rfl rfl (by kernel_rfl) ?_
              refine Wk.rPass 4 (some 126) rfl rfl (by kernel_rfl) ?_
              refine Wk.rPure 5 (some 127) (.bool false) rfl rfl (by kernel_rfl) (by kernel_rfl) ?_
              refine Wk.rPure 6 (some 128) (.bool false) rfl rfl (by kernel_rfl) (by kernel_rfl) ?_
              refine Wk.rPass 7 (some 129) rfl rfl (by kernel_rfl) ?_
              refine Wk.rPass 8 (some 130) rfl rfl (by kernel_rfl) ?_
              refine Wk.rPass 9 (some 131) rfl rfl (by kernel_rfl) ?_
              refine Wk.rPass 10 (some 132) rfl rfl (by kernel_rfl) ?_
              refine Wk.rPass 11 (some 133) rfl rfl (by kernel_rfl) ?_
              refine Wk.rPass 12 (some 134) rfl rfl (by kernel_rfl) ?_
              refine Wk.rPass 13 (some 135) rfl rfl (by kernel_rfl) ?_
              refine Wk.rPure 14 (some 136) (.bool false) rfl rfl (by kernel_rfl) (by kernel_rfl) ?_
              refine Wk.rPure 15 (some 97) (.bool false) rfl rfl (by kernel_rfl) (by kernel_rfl) ?_
              refine Wk.rEnd 16 rfl ?_
              refine Wk.nxt ?_
              refine wp_cond_false (by kernel_rfl) ?_
              refine wp_skip ?_
              refine Wk.inN ?_
              refine Wk.nxt ?_
              refine Wk.reg ?_
              refine Wk.rPure 0 (some 137) (.int .u8 2) rfl rfl (by kernel_rfl) (by kernel_rfl) ?_
              refine Wk.rPure 1 (some 11) (.int .u8 2) rfl rfl (by kernel_rfl) (by kernel_rfl) ?_
              refine Wk.rEnd 2 rfl ?_
              refine Wk.inN ?_
              refine Wk.nxt ?_
              refine Wk.reg ?_
              refine Wk.rPure 0 (some 138) (.int .i64 ((k + 1 : Nat) : Int)) rfl rfl (by kernel_rfl) (Wk.int64 (n := ((k : Nat) : Int) + 1) (z := ((k + 1 : Nat) : Int)) (by omega) (by omega) (by omega) (by kernel_rfl)) ?_
              refine Wk.rPure 1 (some 30) (.int .i64 ((k + 1 : Nat) : Int)) rfl rfl (by kernel_rfl) (by kernel_rfl) ?_
              refine Wk.rEnd 2 rfl ?_
              refine Wk.nxt ?_
              have kk6 := Wk.Chg.step HB ch3 ⟨.inr (by omega), trivial⟩
              refine ⟨_, ?_, k + 1, 2, ft, fi, rfl, by kernel_rfl, (by omega), hb2, (by simpa [hl] using hinv), (fun _ => hfi), ⟨by omega, by omega⟩, kk6⟩
              · omega
            · have hfz := hfet rfl hl
              subst hfz
              refine ⟨_, rfl, ?_⟩
              refine Wk.rPure 8 (some 14) (.int .u8 2) rfl rfl (by kernel_rfl) (by kernel_rfl) ?_
              refine Wk.rEnd 9 rfl ?_
              refine Wk.nxt ?_
              refine wp_seq ?_
              refine wp_seq ?_
              refine Wk.reg ?_
              refine Wk.rPure 0 (some 55) (.int .u8 2) rfl rfl (by kernel_rfl) (by kernel_rfl) ?_
              refine Wk.rPure 1 (some 56) (.bool true) rfl rfl (by kernel_rfl) (Wk.boolT (b := ((2 : Int) == (2 : Int))) (beq_iff_eq.2 (by decide)) (by kernel_rfl)) ?_
              refine Wk.rPure 2 (some 57) (.bool true) rfl rfl (by kernel_rfl) (by kernel_rfl) ?_
              refine Wk.rPure 3 (some 58) (.int .u8 last) rfl rfl (by kernel_rfl) (by kernel_rfl) ?_
              refine Wk.rPure 4 (some 59) (.bool true) rfl rfl (by kernel_rfl) (Wk.boolT (b := (last != (2 : Int))) (bne_iff_ne.2 (hl)) (by kernel_rfl)) ?_
              refine Wk.rPure 5 (some 60) (.bool true) rfl rfl (by kernel_rfl) (by kernel_rfl) ?_
              refine Wk.rEnd 6 rfl ?_
              refine Wk.nxt ?_
              refine wp_cond_true (by kernel_rfl) ?_
              refine Wk.reg ?_
              refine Wk.rPure 0 (some 61) (.int .i64 0) rfl rfl (by kernel_rfl) (by kernel_rfl) ?_
              refine Wk.rPure 1 (some 62) (.int .i64 1) rfl rfl (by kernel_rfl) (Wk.int64 (n := 0 + 1) (z := 1) (by omega) (by omega) (by omega) (by kernel_rfl)) ?_
              refine Wk.rPure 2 (some 10) (.int .i64 1) rfl rfl (by kernel_rfl) (by kernel_rfl) ?_
              refine Wk.rEnd 3 rfl ?_
              refine Wk.nxt ?_
              refine wp_seq ?_
              refine wp_block ?_
              refine wp_seq ?_
              refine wp_seq ?_
              refine Wk.reg ?_
              refine Wk.rPure 0 (some 64) (.bool false) rfl rfl (by kernel_rfl) (by kernel_rfl) ?_
              refine Wk.rPure 1 (some 65) (.bool false) rfl rfl (by kernel_rfl) (by kernel_rfl) ?_
              refine Wk.rPass 2 (some 66) rfl rfl (by kernel_rfl) ?_
              refine Wk.rPass 3 (some 67) rfl rfl (by kernel_rfl) ?_
              refine Wk.rPass 4 (some 68) rfl rfl (by kernel_rfl) ?_
              refine Wk.rPure 5 (some 69) (.bool false) rfl rfl (by kernel_rfl) (by kernel_rfl) ?_
              refine Wk.rPure 6 (some 63) (.bool false) rfl rfl (by kernel_rfl) (by kernel_rfl) ?_
              refine Wk.rEnd 7 rfl ?_
              refine Wk.nxt ?_
              refine wp_cond_false (by kernel_rfl) ?_
              refine wp_seq ?_
              refine Wk.reg ?_
              refine Wk.rPure 0 (some 70) (.int .i64 1) rfl rfl (by kernel_rfl) (by kernel_rfl) ?_
              refine Wk.rPure 1 (some 71) (.bool false) rfl rfl (by kernel_rfl) (Wk.boolF (b := decide ((1 : Int) > (1 : Int))) (decide_eq_false (by decide)) (by kernel_rfl)) ?_
              refine Wk.rPure 2 (some 63) (.bool false) rfl rfl (by kernel_rfl) (by kernel_rfl) ?_
              refine Wk.rEnd 3 rfl ?_
              refine Wk.nxt ?_
              refine wp_cond_false (by kernel_rfl) ?_
              refine Wk.reg ?_
              refine Wk.rPure 0 (some 72) (.int .u8 2) rfl rfl (by kernel_rfl) (by kernel_rfl) ?_
              refine Wk.rPure 1 (some 73) (.bool false) rfl rfl (by kernel_rfl) (Wk.boolF (b := decide ((2 : Int) > (5 : Int))) (decide_eq_false (by decide)) (by kernel_rfl)) ?_
              refine Wk.rPure 2 (some 63) (.bool false) rfl rfl (by kernel_rfl) (by kernel_rfl) ?_
              refine Wk.rEnd 3 rfl ?_
              refine Wk.nxt ?_
              refine wp_cond_false (by kernel_rfl) ?_
              refine wp_seq ?_
              refine Wk.reg ?_
              refine Wk.rPure 0 (some 75) (.int .u8 2) rfl rfl (by kernel_rfl) (by kernel_rfl) ?_
              refine Wk.rPure 1 (some 76) (.bool false) rfl rfl (by kernel_rfl) (Wk.boolF (b := ((2 : Int) == (3 : Int))) (beq_eq_false_iff_ne.2 (by decide)) (by kernel_rfl)) ?_
              refine Wk.rPure 2 (some 77) (.bool false) rfl rfl (by kernel_rfl) (by kernel_rfl) ?_
              refine Wk.rPass 3 (some 78) rfl rfl (by kernel_rfl) ?_
              refine Wk.rPass 4 (some 79) rfl rfl (by kernel_rfl) ?_
              refine Wk.rPure 5 (some 80) (.bool false) rfl rfl (by kernel_rfl) (by kernel_rfl) ?_
              refine Wk.rPure 6 (some 81) (.bool false) rfl rfl (by kernel_rfl) (by kernel_rfl) ?_
              refine Wk.rPass 7 (some 82) rfl rfl (by kernel_rfl) ?_
              refine Wk.rPass 8 (some 83) rfl rfl (by kernel_rfl) ?_
              refine Wk.rPass 9 (some 84) rfl rfl (by kernel_rfl) ?_
              refine Wk.rPass 10 (some 85) rfl rfl (by kernel_rfl) ?_
              refine Wk.rPass 11 (some 86) rfl rfl (by kernel_rfl) ?_
              refine Wk.rPass 12 (some 87) rfl rfl (by kernel_rfl) ?_
              refine Wk.rPass 13 (some 88) rfl rfl (by kernel_rfl) ?_
              refine Wk.rPure 14 (some 89) (.bool false) rfl rfl (by kernel_rfl) (by kernel_rfl) ?_
              refine Wk.rPure 15 (some 90) (.bool false) rfl rfl (by kernel_rfl) (by kernel_rfl) ?_
              refine Wk.rPass 16 (some 91) rfl rfl (by kernel_rfl) ?_
              refine Wk.rPass 17 (some 92) rfl rfl (by kernel_rfl) ?_
              refine Wk.rPass 18 (some 93) rfl rfl (by kernel_rfl) ?_
              refine Wk.rPass 19 (some 94) rfl rfl (by kernel_rfl) ?_
              refine Wk.rPass 20 (some 95) rfl rfl (by kernel_rfl) ?_
              refine Wk.rPure 21 (some 96) (.bool false) rfl rfl (by kernel_rfl) (by kernel_rfl) ?_
              refine Wk.rPure 22 (some 74) (.bool false) rfl rfl (by kernel_rfl) (by kernel_rfl) ?_
              refine Wk.rEnd 23 rfl ?_
              refine Wk.nxt ?_
              refine wp_cond_false (by kernel_rfl) ?_
              refine wp_seq ?_
              refine wp_seq ?_
              refine Wk.reg ?_
              refine Wk.rPure 0 (some 98) (.int .u8 2) rfl rfl (by kernel_rfl) (by kernel_rfl) ?_
              refine Wk.rPure 1 (some 99) (.bool false) rfl rfl (by kernel_rfl) (Wk.boolF (b := ((2 : Int) == (4 : Int))) (beq_eq_false_iff_ne.2 (by decide)) (by kernel_rfl)) ?_
              refine Wk.rPure 2 (some 100) (.bool false) rfl rfl (by kernel_rfl) (by kernel_rfl) ?_
              refine Wk.rPass 3 (some 101) rfl rfl (by kernel_rfl) ?_
              refine Wk.rPass 4 (some 102) rfl rfl (by kernel_rfl) ?_
              refine Wk.rPure 5 (some 103) (.bool false) rfl rfl (by kernel_rfl) (by kernel_rfl) ?_
              refine Wk.rPure 6 (some 104) (.bool false) rfl rfl (by kernel_rfl) (by kernel_rfl) ?_
              refine Wk.rPass 7 (some 105) rfl rfl (by kernel_rfl) ?_
              refine Wk.rPass 8 (some 106) rfl rfl (by kernel_rfl) ?_
              refine Wk.rPass 9 (some 107) rfl rfl (by kernel_rfl) ?_
              refine Wk.rPass 10 (some 108) rfl rfl (by kernel_rfl) ?_
              refine Wk.rPass 11 (some 109) rfl rfl (by kernel_rfl) ?_
              refine Wk.rPass 12 (some 110) rfl rfl (by kernel_rfl) ?_
              refine Wk.rPass 13 (some 111) rfl rfl (by kernel_rfl) ?_
              refine Wk.rPure 14 (some 112) (.bool false) rfl rfl (by kernel_rfl) (by kernel_rfl) ?_
              refine Wk.rPure 15 (some 113) (.bool false) rfl rfl (by kernel_rfl) (by kernel_rfl) ?_
              refine Wk.rPass 16 (some 114) rfl rfl (by kernel_rfl) ?_
              refine Wk.rPass 17 (some 115) rfl rfl (by kernel_rfl) ?_
              refine Wk.rPass 18 (some 116) rfl rfl (by kernel_rfl) ?_
              refine Wk.rPass 19 (some 117) rfl rfl (by kernel_rfl) ?_
              refine Wk.rPass 20 (some 118) rfl rfl (by kernel_rfl) ?_
              refine Wk.rPass 21 (some 119) rfl rfl (by kernel_rfl) ?_
              refine Wk.rPass 22 (some 120) rfl rfl (by kernel_rfl) ?_
              refine Wk.rPure 23 (some 121) (.bool false) rfl rfl (by kernel_rfl) (by kernel_rfl) ?_
              refine Wk.rPure 24 (some 97) (.bool false) rfl rfl (by kernel_rfl) (by kernel_rfl) ?_
              refine Wk.rEnd 25 rfl ?_
              refine Wk.nxt ?_
              refine wp_cond_false (by kernel_rfl) ?_
              refine Wk.reg ?_
              refine Wk.rPure 0 (some 122) (.int .u8 2) rfl rfl (by kernel_rfl) (by kernel_rfl) ?_
              refine Wk.rPure 1 (some 123) (.bool false) rfl rfl (by kernel_rfl) (Wk.boolF (b := ((2 : Int) == (5 : Int))) (beq_eq_false_iff_ne.2 (by decide)) (by kernel_rfl)) ?_
              refine Wk.rPure 2 (some 124) (.bool false) rfl rfl (by kernel_rfl) (by kernel_rfl) ?_
              refine Wk.rPass 3 (some 125) rfl rfl (by kernel_rfl) ?_
              refine Wk.rPass 4 (some 126) rfl rfl (by kernel_rfl) ?_
              refine Wk.rPure 5 (some 127) (.bool false) rfl rfl (by kernel_rfl) (by kernel_rfl) ?_
              refine Wk.rPure 6 (some 128) (.bool false) rfl rfl (by kernel_rfl) (by kernel_rfl) ?_
              refine Wk.rPass 7 (some 129) rfl rfl (by kernel_rfl) ?_
              refine Wk.rPass 8 (some 130) rfl rfl (by kernel_rfl) ?_
              refine Wk.rPass 9 (some 131) rfl rfl (by kernel_rfl) ?_
              refine Wk.rPass 10 (some 132) rfl rfl (by kernel_rfl) ?_
              refine Wk.rPass 11 (some 133) rfl rfl (by kernel_rfl) ?_
              refine Wk.rPass 12 (some 134) rfl rfl (by kernel_rfl) ?_
              refine Wk.rPass 13 (some 135) rfl rfl (by kernel_rfl) ?_
              refine Wk.rPure 14 (some 136) (.bool false) rfl rfl (by kernel_rfl) (by kernel_rfl) ?_
              refine Wk.rPure 15 (some 97) (.bool false) rfl rfl (by kernel_rfl) (by kernel_rfl) ?_
              refine Wk.rEnd 16 rfl ?_
              refine Wk.nxt ?_
              refine wp_cond_false (by kernel_rfl) ?_
              refine wp_skip ?_
              refine Wk.inN ?_
              refine Wk.nxt ?_
              refine Wk.reg ?_
              refine Wk.rPure 0 (some 137) (.int .u8 2) rfl rfl (by kernel_rfl) (by kernel_rfl) ?_
              refine Wk.rPure 1 (some 11) (.int .u8 2) rfl rfl (by kernel_rfl) (by kernel_rfl) ?_
              refine Wk.rEnd 2 rfl ?_
              refine Wk.inN ?_
              refine Wk.nxt ?_
              refine Wk.reg ?_
              refine Wk.rPure 0 (some 138) (.int .i64 ((k + 1 : Nat) : Int)) rfl rfl (by kernel_rfl) (Wk.int64 (n := ((k : Nat) : Int) + 1) (z := ((k + 1 : Nat) : Int)) (by omega) (by omega) (by omega) (by kernel_rfl)) ?_
              refine Wk.rPure 1 (some 30) (.int .i64 ((k + 1 : Nat) : Int)) rfl rfl (by kernel_rfl) (by kernel_rfl) ?_
              refine Wk.rEnd 2 rfl ?_
              refine Wk.nxt ?_
              have kk7 := Wk.Chg.step HB ch3 ⟨.inr (by omega), trivial⟩
              refine ⟨_, ?_, k + 1, 2, 1, fi, rfl, by kernel_rfl, (by omega), hb2, (by simpa [hl] using hinv), (fun _ => hfi), ⟨by omega, by omega⟩, kk7⟩
              · omega
          · have hn4 : (trnTo 1000 0 most budget L k).state ≠ 4 := fun h => by have := (hover h).2; omega
            obtain rfl : ov = false := by rw [← hov.out]; simpa using hn4
            by_cases hl : last = 3
            · refine ⟨_, rfl, ?_⟩
              refine Wk.rPure 8 (some 14) (.int .u8 3) rfl rfl (by kernel_rfl) (by kernel_rfl) ?_
              refine Wk.rEnd 9 rfl ?_
              refine Wk.nxt ?_
              refine wp_seq ?_
              refine wp_seq ?_
              refine Wk.reg ?_
              refine Wk.rPure 0 (some 55) (.int .u8 3) rfl rfl (by kernel_rfl) (by kernel_rfl) ?_
              refine Wk.rPure 1 (some 56) (.bool false) rfl rfl (by kernel_rfl) (Wk.boolF (b := ((3 : Int) == (2 : Int))) (beq_eq_false_iff_ne.2 (by decide)) (by kernel_rfl)) ?_
              refine Wk.rPure 2 (some 57) (.bool false) rfl rfl (by kernel_rfl) (by kernel_rfl) ?_
              refine Wk.rPass 3 (some 58) rfl rfl (by kernel_rfl) ?_
              refine Wk.rPass 4 (some 59) rfl rfl (by kernel_rfl) ?_
              refine Wk.rPure 5 (some 60) (.bool false) rfl rfl (by kernel_rfl) (by kernel_rfl) ?_
              refine Wk.rEnd 6 rfl ?_
              refine Wk.nxt ?_
              refine wp_cond_false (by kernel_rfl) ?_
              refine wp_skip ?_
              refine Wk.nxt ?_
              refine wp_seq ?_
              refine wp_block ?_
              refine wp_seq ?_
              refine wp_seq ?_
              refine Wk.reg ?_
              refine Wk.rPure 0 (some 64) (.bool false) rfl rfl (by kernel_rfl) (by kernel_rfl) ?_
              refine Wk.rPure 1 (some 65) (.bool false) rfl rfl (by kernel_rfl) (by kernel_rfl) ?_
              refine Wk.rPass 2 (some 66) rfl rfl (by kernel_rfl) ?_
              refine Wk.rPass 3 (some 67) rfl rfl (by kernel_rfl) ?_
              refine Wk.rPass 4 (some 68) rfl rfl (by kernel_rfl) ?_
              refine Wk.rPure 5 (some 69) (.bool false) rfl rfl (by kernel_rfl) (by kernel_rfl) ?_
              refine Wk.rPure 6 (some 63) (.bool false) rfl rfl (by kernel_rfl) (by kernel_rfl) ?_
              refine Wk.rEnd 7 rfl ?_
              refine Wk.nxt ?_
              refine wp_cond_false (by kernel_rfl) ?_
              refine wp_seq ?_
              refine Wk.reg ?_
              refine Wk.rPure 0 (some 70) (.int .i64 ft) rfl rfl (by kernel_rfl) (by kernel_rfl) ?_
              refine Wk.rPure 1 (some 71) (.bool false) rfl rfl (by kernel_rfl) (Wk.boolF (b := decide (ft > (1 : Int))) (decide_eq_false (by omega)) (by kernel_rfl)) ?_
              refine Wk.rPure 2 (some 63) (.bool false) rfl rfl (by kernel_rfl) (by kernel_rfl) ?_
              refine Wk.rEnd 3 rfl ?_
              refine Wk.nxt ?_
              refine wp_cond_false (by kernel_rfl) ?_
              refine Wk.reg ?_
              refine Wk.rPure 0 (some 72) (.int .u8 3) rfl rfl (by kernel_rfl) (by kernel_rfl) ?_
              refine Wk.rPure 1 (some 73) (.bool false) rfl rfl (by kernel_rfl) (Wk.boolF (b := decide ((3 : Int) > (5 : Int))) (decide_eq_false (by decide)) (by kernel_rfl)) ?_
              refine Wk.rPure 2 (some 63) (.bool false) rfl rfl (by kernel_rfl) (by kernel_rfl) ?_
              refine Wk.rEnd 3 rfl ?_
              refine Wk.nxt ?_
              refine wp_cond_false (by kernel_rfl) ?_
              refine wp_seq ?_
              refine Wk.reg ?_
              refine Wk.rPure 0 (some 75) (.int .u8 3) rfl rfl (by kernel_rfl) (by kernel_rfl) ?_
              refine Wk.rPure 1 (some 76) (.bool true) rfl rfl (by kernel_rfl) (Wk.boolT (b := ((3 : Int) == (3 : Int))) (beq_iff_eq.2 (by decide)) (by kernel_rfl)) ?_
              refine Wk.rPure 2 (some 77) (.bool true) rfl rfl (by kernel_rfl) (by kernel_rfl) ?_
              refine Wk.rPure 3 (some 78) (.int .u8 last) rfl rfl (by kernel_rfl) (by kernel_rfl) ?_
              refine Wk.rPure 4 (some 79) (.bool false) rfl rfl (by kernel_rfl) (Wk.boolF (b := (last != (3 : Int))) (bne_eq_false_iff_eq.2 (hl)) (by kernel_rfl)) ?_
              refine Wk.rPure 5 (some 80) (.bool false) rfl rfl (by kernel_rfl) (by kernel_rfl) ?_
              refine Wk.rPure 6 (some 81) (.bool false) rfl rfl (by kernel_rfl) (by kernel_rfl) ?_
              refine Wk.rPass 7 (some 82) rfl rfl (by kernel_rfl) ?_
              refine Wk.rPass 8 (some 83) rfl rfl (by kernel_rfl) ?_
              refine Wk.rPass 9 (some 84) rfl rfl (by kernel_rfl) ?_
              refine Wk.rPass 10 (some 85) rfl rfl (by kernel_rfl) ?_
              refine Wk.rPass 11 (some 86) rfl rfl (by kernel_rfl) ?_
              refine Wk.rPass 12 (some 87) rfl rfl (by kernel_rfl) ?_
              refine Wk.rPass 13 (some 88) rfl rfl (by kernel_rfl) ?_
              refine Wk.rPure 14 (some 89) (.bool false) rfl rfl (by kernel_rfl) (by kernel_rfl) ?_
              refine Wk.rPure 15 (some 90) (.bool false) rfl rfl (by kernel_rfl) (by kernel_rfl) ?_
              refine Wk.rPass 16 (some 91) rfl rfl (by kernel_rfl) ?_
              refine Wk.rPass 17 (some 92) rfl rfl (by kernel_rfl) ?_
              refine Wk.rPass 18 (some 93) rfl rfl (by kernel_rfl) ?_
              refine Wk.rPass 19 (some 94) rfl rfl (by kernel_rfl) ?_
              refine Wk.rPass 20 (some 95) rfl rfl (by kernel_rfl) ?_
              refine Wk.rPure 21 (some 96) (.bool false) rfl rfl (by kernel_rfl) (by kernel_rfl) ?_
              refine Wk.rPure 22 (some 74) (.bool false) rfl rfl (by kernel_rfl) (by kernel_rfl) ?_
              refine Wk.rEnd 23 rfl ?_
              refine Wk.nxt ?_
              refine wp_cond_false (by kernel_rfl) ?_
              refine wp_seq ?_
              refine wp_seq ?_
              refine Wk.reg ?_
              refine Wk.rPure 0 (some 98) (.int .u8 3) rfl rfl (by kernel_rfl) (by kernel_rfl) ?_
              refine Wk.rPure 1 (some 99) (.bool false) rfl rfl (by kernel_rfl) (Wk.boolF (b := ((3 : Int) == (4 : Int))) (beq_eq_false_iff_ne.2 (by decide)) (by kernel_rfl)) ?_
              refine Wk.rPure 2 (some 100) (.bool false) rfl rfl (by kernel_rfl) (by kernel_rfl) ?_
              refine Wk.rPass 3 (some 101) rfl rfl (by kernel_rfl) ?_
              refine Wk.rPass 4 (some 102) rfl rfl (by kernel_rfl) ?_
              refine Wk.rPure 5 (some 103) (.bool false) rfl rfl (by kernel_rfl) (by kernel_rfl) ?_
              refine Wk.rPure 6 (some 104) (.bool false) rfl rfl (by kernel_rfl) (by kernel_rfl) ?_
              refine Wk.rPass 7 (some 105) rfl rfl (by kernel_rfl) ?_
              refine Wk.rPass 8 (some 106) rfl rfl (by kernel_rfl) ?_
              refine Wk.rPass 9 (some 107) rfl rfl (by kernel_rfl) ?_
              refine Wk.rPass 10 (some 108) rfl rfl (by kernel_rfl) ?_
              refine Wk.rPass 11 (some 109) rfl rfl (by kernel_rfl) ?_
              refine Wk.rPass 12 (some 110) rfl rfl (by kernel_rfl) ?_
              refine Wk.rPass 13 (some 111) rfl rfl (by kernel_rfl) ?_
              refine Wk.rPure 14 (some 112) (.bool false) rfl rfl (by kernel_rfl) (by kernel_rfl) ?_
              refine Wk.rPure 15 (some 113) (.bool false) rfl rfl (by kernel_rfl) (by kernel_rfl) ?_
              refine Wk.rPass 16 (some 114) rfl rfl (by kernel_rfl) ?_
              refine Wk.rPass 17 (some 115) rfl rfl (by kernel_rfl) ?_
              refine Wk.rPass 18 (some 116) rfl rfl (by kernel_rfl) ?_
              refine Wk.rPass 19 (some 117) rfl rfl (by kernel_rfl) ?_
              refine Wk.rPass 20 (some 118) rfl rfl (by kernel_rfl) ?_
              refine Wk.rPass 21 (some 119) rfl rfl (by kernel_rfl) ?_
              refine Wk.rPass 22 (some 120) rfl rfl (by kernel_rfl) ?_
              refine Wk.rPure 23 (some 121) (.bool false) rfl rfl (by kernel_rfl) (by kernel_rfl) ?_
              refine Wk.rPure 24 (some 97) (.bool false) rfl rfl (by kernel_rfl) (by kernel_rfl) ?_
              refine Wk.rEnd 25 rfl ?_
              refine Wk.nxt ?_
              refine wp_cond_false (by kernel_rfl) ?_
              refine Wk.reg ?_
              refine Wk.rPure 0 (some 122) (.int .u8 3) rfl rfl (by kernel_rfl) (by kernel_rfl) ?_
              refine Wk.rPure 1 (some 123) (.bool false) rfl rfl (by kernel_rfl) (Wk.boolF (b := ((3 : Int) == (5 : Int))) (beq_eq_false_iff_ne.2 (by decide)) (by kernel_rfl)) ?_
              refine Wk.rPure 2 (some 124) (.bool false) rfl rfl (by kernel_rfl) (by kernel_rfl) ?_
              refine Wk.rPass 3 (some 125) rfl rfl (by kernel_rfl) ?_
              refine Wk.rPass 4 (some 126) rfl rfl (by kernel_rfl) ?_
              refine Wk.rPure 5 (some 127) (.bool false) rfl rfl (by kernel_rfl) (by kernel_rfl) ?_
              refine Wk.rPure 6 (some 128) (.bool false) rfl rfl (by kernel_rfl) (by kernel_rfl) ?_
              refine Wk.rPass 7 (some 129) rfl rfl (by kernel_rfl) ?_
              refine Wk.rPass 8 (some 130) rfl rfl (by kernel_rfl) ?_
              refine Wk.rPass 9 (some 131) rfl rfl (by kernel_rfl) ?_
              refine Wk.rPass 10 (some 132) rfl rfl (by kernel_rfl) ?_
              refine Wk.rPass 11 (some 133) rfl rfl (by kernel_rfl) ?_
              refine Wk.rPass 12 (some 134) rfl rfl (by kernel_rfl) ?_
              refine Wk.rPass 13 (some 135) rfl rfl (by kernel_rfl) ?_
              refine Wk.rPure 14 (some 136) (.bool false) rfl rfl (by kernel_rfl) (by kernel_rfl) ?_
              refine Wk.rPure 15 (some 97) (.bool false) rfl rfl (by kernel_rfl) (by kernel_rfl) ?_
              refine Wk.rEnd 16 rfl ?_
              refine Wk.nxt ?_
              refine wp_cond_false (by kernel_rfl) ?_
              refine wp_skip ?_
              refine Wk.inN ?_
              refine Wk.nxt ?_
              refine Wk.reg ?_
              refine Wk.rPure 0 (some 137) (.int .u8 3) rfl rfl (by kernel_rfl) (by kernel_rfl) ?_
              refine Wk.rPure 1 (some 11) (.int .u8 3) rfl rfl (by kernel_rfl) (by kernel_rfl) ?_
              refine Wk.rEnd 2 rfl ?_
              refine Wk.inN ?_
              refine Wk.nxt ?_
              refine Wk.reg ?_
              refine Wk.rPure 0 (some 138) (.int .i64 ((k + 1 : Nat) : Int)) rfl rfl (by kernel_rfl) (Wk.int64 (n := ((k : Nat) : Int) + 1) (z := ((k + 1 : Nat) : Int)) (by omega) (by omega) (by omega) (by kernel_rfl)) ?_
              refine Wk.rPure 1 (some 30) (.int .i64 ((k + 1 : Nat) : Int)) rfl rfl (by kernel_rfl) (by kernel_rfl) ?_
              refine Wk.rEnd 2 rfl ?_
              refine Wk.nxt ?_
              have kk8 := Wk.Chg.step HB ch3 ⟨.inr (by omega), trivial⟩
              refine ⟨_, ?_, k + 1, 3, ft, fi, rfl, by kernel_rfl, (by omega), hb2, (by simpa using hinv), (fun _ => hfi), ⟨by omega, by omega⟩, kk8⟩
              · omega
            · have hrr := hrun rfl hl
              cases b3
              · have hrl := hrr rfl
                refine ⟨_, rfl, ?_⟩
                refine Wk.rPure 8 (some 14) (.int .u8 3) rfl rfl (by kernel_rfl) (by kernel_rfl) ?_
                refine Wk.rEnd 9 rfl ?_
                refine Wk.nxt ?_
                refine wp_seq ?_
                refine wp_seq ?_
                refine Wk.reg ?_
                refine Wk.rPure 0 (some 55) (.int .u8 3) rfl rfl (by kernel_rfl) (by kernel_rfl) ?_
                refine Wk.rPure 1 (some 56) (.bool false) rfl rfl (by kernel_rfl) (Wk.boolF (b := ((3 : Int) == (2 : Int))) (beq_eq_false_iff_ne.2 (by decide)) (by kernel_rfl)) ?_
                refine Wk.rPure 2 (some 57) (.bool false) rfl rfl (by kernel_rfl) (by kernel_rfl) ?_
                refine Wk.rPass 3 (some 58) rfl rfl (by kernel_rfl) ?_
                refine Wk.rPass 4 (some 59) rfl rfl (by kernel_rfl) ?_
                refine Wk.rPure 5 (some 60) (.bool false) rfl rfl (by kernel_rfl) (by kernel_rfl) ?_
                refine Wk.rEnd 6 rfl ?_
                refine Wk.nxt ?_
                refine wp_cond_false (by kernel_rfl) ?_
                refine wp_skip ?_
                refine Wk.nxt ?_
                refine wp_seq ?_
                refine wp_block ?_
                refine wp_seq ?_
                refine wp_seq ?_
                refine Wk.reg ?_
                refine Wk.rPure 0 (some 64) (.bool false) rfl rfl (by kernel_rfl) (by kernel_rfl) ?_
                refine Wk.rPure 1 (some 65) (.bool false) rfl rfl (by kernel_rfl) (by kernel_rfl) ?_
                refine Wk.rPass 2 (some 66) rfl rfl (by kernel_rfl) ?_
                refine Wk.rPass 3 (some 67) rfl rfl (by kernel_rfl) ?_
                refine Wk.rPass 4 (some 68) rfl rfl (by kernel_rfl) ?_
                refine Wk.rPure 5 (some 69) (.bool false) rfl rfl (by kernel_rfl) (by kernel_rfl) ?_
                refine Wk.rPure 6 (some 63) (.bool false) rfl rfl (by kernel_rfl) (by kernel_rfl) ?_
                refine Wk.rEnd 7 rfl ?_
                refine Wk.nxt ?_
                refine wp_cond_false (by kernel_rfl) ?_
                refine wp_seq ?_
                refine Wk.reg ?_
                refine Wk.rPure 0 (some 70) (.int .i64 ft) rfl rfl (by kernel_rfl) (by kernel_rfl) ?_
                refine Wk.rPure 1 (some 71) (.bool false) rfl rfl (by kernel_rfl) (Wk.boolF (b := decide (ft > (1 : Int))) (decide_eq_false (by omega)) (by kernel_rfl)) ?_
                refine Wk.rPure 2 (some 63) (.bool false) rfl rfl (by kernel_rfl) (by kernel_rfl) ?_
                refine Wk.rEnd 3 rfl ?_
                refine Wk.nxt ?_
                refine wp_cond_false (by kernel_rfl) ?_
                refine Wk.reg ?_
                refine Wk.rPure 0 (some 72) (.int .u8 3) rfl rfl (by kernel_rfl) (by kernel_rfl) ?_
                refine Wk.rPure 1 (some 73) (.bool false) rfl rfl (by kernel_rfl) (Wk.boolF (b := decide ((3 : Int) > (5 : Int))) (decide_eq_false (by decide)) (by kernel_rfl)) ?_
                refine Wk.rPure 2 (some 63) (.bool false) rfl rfl (by kernel_rfl) (by kernel_rfl) ?_
                refine Wk.rEnd 3 rfl ?_
                refine Wk.nxt ?_
                refine wp_cond_false (by kernel_rfl) ?_
                refine wp_seq ?_
                refine Wk.reg ?_
                refine Wk.rPure 0 (some 75) (.int .u8 3) rfl rfl (by kernel_rfl) (by kernel_rfl) ?_
                refine Wk.rPure 1 (some 76) (.bool true) rfl rfl (by kernel_rfl) (Wk.boolT (b := ((3 : Int) == (3 : Int))) (beq_iff_eq.2 (by decide)) (by kernel_rfl)) ?_
                refine Wk.rPure 2 (some 77) (.bool true) rfl rfl (by kernel_rfl) (by kernel_rfl) ?_
                refine Wk.rPure 3 (some 78) (.int .u8 last) rfl rfl (by kernel_rfl) (by kernel_rfl) ?_
                refine Wk.rPure 4 (some 79) (.bool true) rfl rfl (by kernel_rfl) (Wk.boolT (b := (last != (3 : Int))) (bne_iff_ne.2 (hl)) (by kernel_rfl)) ?_
                refine Wk.rPure 5 (some 80) (.bool true) rfl rfl (by kernel_rfl) (by kernel_rfl) ?_
                refine Wk.rPure 6 (some 81) (.bool true) rfl rfl (by kernel_rfl) (by kernel_rfl) ?_
                refine Wk.rPure 7 (some 82) (.slice (some ⟨g, off, none⟩) n c) rfl rfl (by kernel_rfl) (by kernel_rfl) ?_
                refine Wk.rPure 8 (some 83) (.int .i64 ((k : Nat) : Int)) rfl rfl (by kernel_rfl) (by kernel_rfl) ?_
                refine Wk.rPure 9 (some 84) (.pointer (some ⟨g, off + k * 9, none⟩)) rfl rfl (by kernel_rfl) (Wk.index_sl 22 30 (.tmp 82) (.tmp 83) rfl Try.underlying22 9 (by kernel_rfl) g off n c k .i64 (by kernel_rfl) (by kernel_rfl) (by omega)) ?_
                refine Wk.rPure 10 (some 85) (.pointer (some ⟨g, off + k * 9 + 1, none⟩)) rfl rfl (by kernel_rfl) (by kernel_rfl) ?_
                refine Wk.rPure 11 (some 86) (.pointer (some ⟨g, off + k * 9 + 1 + 3, none⟩)) rfl rfl (by kernel_rfl) (by kernel_rfl) ?_
                have kk9 := Wk.Chg.step HB ch3 ⟨.inr (by omega), trivial⟩
                refine Wk.rPure 12 (some 87) (.bool false) rfl rfl (by kernel_rfl) (Wk.load1 4 (.tmp 86) rfl (by kernel_rfl) ⟨g, off + k * 9 + 1 + 3, none⟩ (by kernel_rfl) (.bool false) (Wk.Chg.cell kk9 (qF 3 (.bool false) rfl) trivial)) ?_
                refine Wk.rPure 13 (some 88) (.bool true) rfl rfl (by kernel_rfl) (by kernel_rfl) ?_
                refine Wk.rPure 14 (some 89) (.bool true) rfl rfl (by kernel_rfl) (by kernel_rfl) ?_
                refine Wk.rPure 15 (some 90) (.bool true) rfl rfl (by kernel_rfl) (by kernel_rfl) ?_
                refine Wk.rPure 16 (some 91) (.int .i64 (tick 1000 0 L (k + 1))) rfl rfl (by kernel_rfl) (by kernel_rfl) ?_
                refine Wk.rPure 17 (some 92) (.int .i64 fi) rfl rfl (by kernel_rfl) (by kernel_rfl) ?_
                refine Wk.rPure 18 (some 93) (.int .i64 most) rfl rfl (by kernel_rfl) (by kernel_rfl) ?_
                refine Wk.rPure 19 (some 94) (.int .i64 (fi + most)) rfl rfl (by kernel_rfl) (Wk.int64 (n := fi + most) (z := fi + most) (by omega) (by omega) (by omega) (by kernel_rfl)) ?_
                by_cases hx3 : (tick 1000 0 L (k + 1)) < (fi + most)
                · refine Wk.rPure 20 (some 95) (.bool true) rfl rfl (by kernel_rfl) (Wk.boolT (b := decide ((tick 1000 0 L (k + 1)) < (fi + most))) (decide_eq_true (by first | exact hx3 | omega)) (by kernel_rfl)) ?_
                  refine Wk.rPure 21 (some 96) (.bool true) rfl rfl (by kernel_rfl) (by kernel_rfl) ?_
                  refine Wk.rPure 22 (some 74) (.bool true) rfl rfl (by kernel_rfl) (by kernel_rfl) ?_
                  refine Wk.rEnd 23 rfl ?_
                  refine Wk.nxt ?_
                  refine wp_cond_true (by kernel_rfl) ?_
                  refine wp_seq ?_
                  refine Wk.reg ?_
                  refine Wk.rPure 0 (some 6) (.bool false) rfl rfl (by kernel_rfl) (by kernel_rfl) ?_
                  refine Wk.rEnd 1 rfl ?_
                  refine Wk.nxt ?_
                  refine wp_ret ?_
                  refine Wk.inR ?_
                  refine Wk.thR ?_
                  refine Wk.inR ?_
                  refine Wk.thR ?_
                  refine Wk.thR ?_
                  refine Wk.inR ?_
                  refine Wk.thR ?_
                  exfalso; omega
                · refine Wk.rPure 20 (some 95) (.bool false) rfl rfl (by kernel_rfl) (Wk.boolF (b := decide ((tick 1000 0 L (k + 1)) < (fi + most))) (decide_eq_false (by first | exact hx3 | omega)) (by kernel_rfl)) ?_
                  refine Wk.rPure 21 (some 96) (.bool false) rfl rfl (by kernel_rfl) (by kernel_rfl) ?_
                  refine Wk.rPure 22 (some 74) (.bool false) rfl rfl (by kernel_rfl) (by kernel_rfl) ?_
                  refine Wk.rEnd 23 rfl ?_
                  refine Wk.nxt ?_
                  refine wp_cond_false (by kernel_rfl) ?_
                  refine wp_seq ?_
                  refine wp_seq ?_
                  refine Wk.reg ?_
                  refine Wk.rPure 0 (some 98) (.int .u8 3) rfl rfl (by kernel_rfl) (by kernel_rfl) ?_
                  refine Wk.rPure 1 (some 99) (.bool false) rfl rfl (by kernel_rfl) (Wk.boolF (b := ((3 : Int) == (4 : Int))) (beq_eq_false_iff_ne.2 (by decide)) (by kernel_rfl)) ?_
                  refine Wk.rPure 2 (some 100) (.bool false) rfl rfl (by kernel_rfl) (by kernel_rfl) ?_
                  refine Wk.rPass 3 (some 101) rfl rfl (by kernel_rfl) ?_
                  refine Wk.rPass 4 (some 102) rfl rfl (by kernel_rfl) ?_
                  refine Wk.rPure 5 (some 103) (.bool false) rfl rfl (by kernel_rfl) (by kernel_rfl) ?_
                  refine Wk.rPure 6 (some 104) (.bool false) rfl rfl (by kernel_rfl) (by kernel_rfl) ?_
                  refine Wk.rPass 7 (some 105) rfl rfl (by kernel_rfl) ?_
                  refine Wk.rPass 8 (some 106) rfl rfl (by kernel_rfl) ?_
                  refine Wk.rPass 9 (some 107) rfl rfl (by kernel_rfl) ?_
                  refine Wk.rPass 10 (some 108) rfl rfl (by kernel_rfl) ?_
                  refine Wk.rPass 11 (some 109) rfl rfl (by kernel_rfl) ?_
                  refine Wk.rPass 12 (some 110) rfl rfl (by kernel_rfl) ?_
                  refine Wk.rPass 13 (some 111) rfl rfl (by kernel_rfl) ?_
                  refine Wk.rPure 14 (some 112) (.bool false) rfl rfl (by kernel_rfl) (by kernel_rfl) ?_
                  refine Wk.rPure 15 (some 113) (.bool false) rfl rfl (by kernel_rfl) (by kernel_rfl) ?_
                  refine Wk.rPass 16 (some 114) rfl rfl (by kernel_rfl) ?_
                  refine Wk.rPass 17 (some 115) rfl rfl (by kernel_rfl) ?_
                  refine Wk.rPass 18 (some 116) rfl rfl (by kernel_rfl) ?_
                  refine Wk.rPass 19 (some 117) rfl rfl (by kernel_rfl) ?_
                  refine Wk.rPass 20 (some 118) rfl rfl (by kernel_rfl) ?_
                  refine Wk.rPass 21 (some 119) rfl rfl (by kernel_rfl) ?_
                  refine Wk.rPass 22 (some 120) rfl rfl (by kernel_rfl) ?_
                  refine Wk.rPure 23 (some 121) (.bool false) rfl rfl (by kernel_rfl) (by kernel_rfl) ?_
                  refine Wk.rPure 24 (some 97) (.bool false) rfl rfl (by kernel_rfl) (by kernel_rfl) ?_
                  refine Wk.rEnd 25 rfl ?_
                  refine Wk.nxt ?_
                  refine wp_cond_false (by kernel_rfl) ?_
                  refine Wk.reg ?_
                  refine Wk.rPure 0 (some 122) (.int .u8 3) rfl rfl (by kernel_rfl) (by kernel_rfl) ?_
                  refine Wk.rPure 1 (some 123) (.bool false) rfl rfl (by kernel_rfl) (Wk.boolF (b := ((3 : Int) == (5 : Int))) (beq_eq_false_iff_ne.2 (by decide)) (by kernel_rfl)) ?_
                  refine Wk.rPure 2 (some 124) (.bool false) rfl rfl (by kernel_rfl) (by kernel_rfl) ?_
                  refine Wk.rPass 3 (some 125) rfl rfl (by kernel_rfl) ?_
                  refine Wk.rPass 4 (some 126) rfl rfl (by kernel_rfl) ?_
                  refine Wk.rPure 5 (some 127) (.bool false) rfl rfl (by kernel_rfl) (by kernel_rfl) ?_
                  refine Wk.rPure 6 (some 128) (.bool false) rfl rfl (by kernel_rfl) (by kernel_rfl) ?_
                  refine Wk.rPass 7 (some 129) rfl rfl (by kernel_rfl) ?_
                  refine Wk.rPass 8 (some 130) rfl rfl (by kernel_rfl) ?_
                  refine Wk.rPass 9 (some 131) rfl rfl (by kernel_rfl) ?_
                  refine Wk.rPass 10 (some 132) rfl rfl (by kernel_rfl) ?_
                  refine Wk.rPass 11 (some 133) rfl rfl (by kernel_rfl) ?_
                  refine Wk.rPass 12 (some 134) rfl rfl (by kernel_rfl) ?_
                  refine Wk.rPass 13 (some 135) rfl rfl (by kernel_rfl) ?_
                  refine Wk.rPure 14 (some 136) (.bool false) rfl rfl (by kernel_rfl) (by kernel_rfl) ?_
                  refine Wk.rPure 15 (some 97) (.bool false) rfl rfl (by kernel_rfl) (by kernel_rfl) ?_
                  refine Wk.rEnd 16 rfl ?_
                  refine Wk.nxt ?_
                  refine wp_cond_false (by kernel_rfl) ?_
                  refine wp_skip ?_
                  refine Wk.inN ?_
                  refine Wk.nxt ?_
                  refine Wk.reg ?_
                  refine Wk.rPure 0 (some 137) (.int .u8 3) rfl rfl (by kernel_rfl) (by kernel_rfl) ?_
                  refine Wk.rPure 1 (some 11) (.int .u8 3) rfl rfl (by kernel_rfl) (by kernel_rfl) ?_
                  refine Wk.rEnd 2 rfl ?_
                  refine Wk.inN ?_
                  refine Wk.nxt ?_
                  refine Wk.reg ?_
                  refine Wk.rPure 0 (some 138) (.int .i64 ((k + 1 : Nat) : Int)) rfl rfl (by kernel_rfl) (Wk.int64 (n := ((k : Nat) : Int) + 1) (z := ((k + 1 : Nat) : Int)) (by omega) (by omega) (by omega) (by kernel_rfl)) ?_
                  refine Wk.rPure 1 (some 30) (.int .i64 ((k + 1 : Nat) : Int)) rfl rfl (by kernel_rfl) (by kernel_rfl) ?_
                  refine Wk.rEnd 2 rfl ?_
                  refine Wk.nxt ?_
                  refine ⟨_, ?_, k + 1, 3, ft, fi, rfl, by kernel_rfl, (by omega), hb2, (by simpa using hinv), (fun _ => hfi), ⟨by omega, by omega⟩, kk9⟩
                  · omega
              · refine ⟨_, rfl, ?_⟩
                refine Wk.rPure 8 (some 14) (.int .u8 3) rfl rfl (by kernel_rfl) (by kernel_rfl) ?_
                refine Wk.rEnd 9 rfl ?_
                refine Wk.nxt ?_
                refine wp_seq ?_
                refine wp_seq ?_
                refine Wk.reg ?_
                refine Wk.rPure 0 (some 55) (.int .u8 3) rfl rfl (by kernel_rfl) (by kernel_rfl) ?_
                refine Wk.rPure 1 (some 56) (.bool false) rfl rfl (by kernel_rfl) (Wk.boolF (b := ((3 : Int) == (2 : Int))) (beq_eq_false_iff_ne.2 (by decide)) (by kernel_rfl)) ?_
                refine Wk.rPure 2 (some 57) (.bool false) rfl rfl (by kernel_rfl) (by kernel_rfl) ?_
                refine Wk.rPass 3 (some 58) rfl rfl (by kernel_rfl) ?_
                refine Wk.rPass 4 (some 59) rfl rfl (by kernel_rfl) ?_
                refine Wk.rPure 5 (some 60) (.bool false) rfl rfl (by kernel_rfl) (by kernel_rfl) ?_
                refine Wk.rEnd 6 rfl ?_
                refine Wk.nxt ?_
                refine wp_cond_false (by kernel_rfl) ?_
                refine wp_skip ?_
                refine Wk.nxt ?_
                refine wp_seq ?_
                refine wp_block ?_
                refine wp_seq ?_
                refine wp_seq ?_
                refine Wk.reg ?_
                refine Wk.rPure 0 (some 64) (.bool false) rfl rfl (by kernel_rfl) (by kernel_rfl) ?_
                refine Wk.rPure 1 (some 65) (.bool false) rfl rfl (by kernel_rfl) (by kernel_rfl) ?_
                refine Wk.rPass 2 (some 66) rfl rfl (by kernel_rfl) ?_
                refine Wk.rPass 3 (some 67) rfl rfl (by kernel_rfl) ?_
                refine Wk.rPass 4 (some 68) rfl rfl (by kernel_rfl) ?_
                refine Wk.rPure 5 (some 69) (.bool false) rfl rfl (by kernel_rfl) (by kernel_rfl) ?_
                refine Wk.rPure 6 (some 63) (.bool false) rfl rfl (by kernel_rfl) (by kernel_rfl) ?_
                refine Wk.rEnd 7 rfl ?_
                refine Wk.nxt ?_
                refine wp_cond_false (by kernel_rfl) ?_
                refine wp_seq ?_
                refine Wk.reg ?_
                refine Wk.rPure 0 (some 70) (.int .i64 ft) rfl rfl (by kernel_rfl) (by kernel_rfl) ?_
                refine Wk.rPure 1 (some 71) (.bool false) rfl rfl (by kernel_rfl) (Wk.boolF (b := decide (ft > (1 : Int))) (decide_eq_false (by omega)) (by kernel_rfl)) ?_
                refine Wk.rPure 2 (some 63) (.bool false) rfl rfl (by kernel_rfl) (by kernel_rfl) ?_
                refine Wk.rEnd 3 rfl ?_
                refine Wk.nxt ?_
                refine wp_cond_false (by kernel_rfl) ?_
                refine Wk.reg ?_
                refine Wk.rPure 0 (some 72) (.int .u8 3) rfl rfl (by kernel_rfl) (by kernel_rfl) ?_
                refine Wk.rPure 1 (some 73) (.bool false) rfl rfl (by kernel_rfl) (Wk.boolF (b := decide ((3 : Int) > (5 : Int))) (decide_eq_false (by decide)) (by kernel_rfl)) ?_
                refine Wk.rPure 2 (some 63) (.bool false) rfl rfl (by kernel_rfl) (by kernel_rfl) ?_
                refine Wk.rEnd 3 rfl ?_
                refine Wk.nxt ?_
                refine wp_cond_false (by kernel_rfl) ?_
                refine wp_seq ?_
                refine Wk.reg ?_
                refine Wk.rPure 0 (some 75) (.int .u8 3) rfl rfl (by kernel_rfl) (by kernel_rfl) ?_
                refine Wk.rPure 1 (some 76) (.bool true) rfl rfl (by kernel_rfl) (Wk.boolT (b := ((3 : Int) == (3 : Int))) (beq_iff_eq.2 (by decide)) (by kernel_rfl)) ?_
                refine Wk.rPure 2 (some 77) (.bool true) rfl rfl (by kernel_rfl) (by kernel_rfl) ?_
                refine Wk.rPure 3 (some 78) (.int .u8 last) rfl rfl (by kernel_rfl) (by kernel_rfl) ?_
                refine Wk.rPure 4 (some 79) (.bool true) rfl rfl (by kernel_rfl) (Wk.boolT (b := (last != (3 : Int))) (bne_iff_ne.2 (hl)) (by kernel_rfl)) ?_
                refine Wk.rPure 5 (some 80) (.bool true) rfl rfl (by kernel_rfl) (by kernel_rfl) ?_
                refine Wk.rPure 6 (some 81) (.bool true) rfl rfl (by kernel_rfl) (by kernel_rfl) ?_
                refine Wk.rPure 7 (some 82) (.slice (some ⟨g, off, none⟩) n c) rfl rfl (by kernel_rfl) (by kernel_rfl) ?_
                refine Wk.rPure 8 (some 83) (.int .i64 ((k : Nat) : Int)) rfl rfl (by kernel_rfl) (by kernel_rfl) ?_
                refine Wk.rPure 9 (some 84) (.pointer (some ⟨g, off + k * 9, none⟩)) rfl rfl (by kernel_rfl) (Wk.index_sl 22 30 (.tmp 82) (.tmp 83) rfl Try.underlying22 9 (by kernel_rfl) g off n c k .i64 (by kernel_rfl) (by kernel_rfl) (by omega)) ?_
                refine Wk.rPure 10 (some 85) (.pointer (some ⟨g, off + k * 9 + 1, none⟩)) rfl rfl (by kernel_rfl) (by kernel_rfl) ?_
                refine Wk.rPure 11 (some 86) (.pointer (some ⟨g, off + k * 9 + 1 + 3, none⟩)) rfl rfl (by kernel_rfl) (by kernel_rfl) ?_
                have kk10 := Wk.Chg.step HB ch3 ⟨.inr (by omega), trivial⟩
                refine Wk.rPure 12 (some 87) (.bool true) rfl rfl (by kernel_rfl) (Wk.load1 4 (.tmp 86) rfl (by kernel_rfl) ⟨g, off + k * 9 + 1 + 3, none⟩ (by kernel_rfl) (.bool true) (Wk.Chg.cell kk10 (qF 3 (.bool true) rfl) trivial)) ?_
                refine Wk.rPure 13 (some 88) (.bool false) rfl rfl (by kernel_rfl) (by kernel_rfl) ?_
                refine Wk.rPure 14 (some 89) (.bool false) rfl rfl (by kernel_rfl) (by kernel_rfl) ?_
                refine Wk.rPure 15 (some 90) (.bool false) rfl rfl (by kernel_rfl) (by kernel_rfl) ?_
                refine Wk.rPass 16 (some 91) rfl rfl (by kernel_rfl) ?_
                refine Wk.rPass 17 (some 92) rfl rfl (by kernel_rfl) ?_
                refine Wk.rPass 18 (some 93) rfl rfl (by kernel_rfl) ?_
                refine Wk.rPass 19 (some 94) rfl rfl (by kernel_rfl) ?_
                refine Wk.rPass 20 (some 95) rfl rfl (by kernel_rfl) ?_
                refine Wk.rPure 21 (some 96) (.bool false) rfl rfl (by kernel_rfl) (by kernel_rfl) ?_
                refine Wk.rPure 22 (some 74) (.bool false) rfl rfl (by kernel_rfl) (by kernel_rfl) ?_
                refine Wk.rEnd 23 rfl ?_
                refine Wk.nxt ?_
                refine wp_cond_false (by kernel_rfl) ?_
                refine wp_seq ?_
                refine wp_seq ?_
                refine Wk.reg ?_
                refine Wk.rPure 0 (some 98) (.int .u8 3) rfl rfl (by kernel_rfl) (by kernel_rfl) ?_
                refine Wk.rPure 1 (some 99) (.bool false) rfl rfl (by kernel_rfl) (Wk.boolF (b := ((3 : Int) == (4 : Int))) (beq_eq_false_iff_ne.2 (by decide)) (by kernel_rfl)) ?_
                refine Wk.rPure 2 (some 100) (.bool false) rfl rfl (by kernel_rfl) (by kernel_rfl) ?_
                refine Wk.rPass 3 (some 101) rfl rfl (by kernel_rfl) ?_
                refine Wk.rPass 4 (some 102) rfl rfl (by kernel_rfl) ?_
                refine Wk.rPure 5 (some 103) (.bool false) rfl rfl (by kernel_rfl) (by kernel_rfl) ?_
                refine Wk.rPure 6 (some 104) (.bool false) rfl rfl (by kernel_rfl) (by kernel_rfl) ?_
                refine Wk.rPass 7 (some 105) rfl rfl (by kernel_rfl) ?_
                refine Wk.rPass 8 (some 106) rfl rfl (by kernel_rfl) ?_
                refine Wk.rPass 9 (some 107) rfl rfl (by kernel_rfl) ?_
                refine Wk.rPass 10 (some 108) rfl rfl (by kernel_rfl) ?_
                refine Wk.rPass 11 (some 109) rfl rfl (by kernel_rfl) ?_
                refine Wk.rPass 12 (some 110) rfl rfl (by kernel_rfl) ?_
                refine Wk.rPass 13 (some 111) rfl rfl (by kernel_rfl) ?_
                refine Wk.rPure 14 (some 112) (.bool false) rfl rfl (by kernel_rfl) (by kernel_rfl) ?_
                refine Wk.rPure 15 (some 113) (.bool false) rfl rfl (by kernel_rfl) (by kernel_rfl) ?_
                refine Wk.rPass 16 (some 114) rfl rfl (by kernel_rfl) ?_
                refine Wk.rPass 17 (some 115) rfl rfl (by kernel_rfl) ?_
                refine Wk.rPass 18 (some 116) rfl rfl (by kernel_rfl) ?_
                refine Wk.rPass 19 (some 117) rfl rfl (by kernel_rfl) ?_
                refine Wk.rPass 20 (some 118) rfl rfl (by kernel_rfl) ?_
                refine Wk.rPass 21 (some 119) rfl rfl (by kernel_rfl) ?_
                refine Wk.rPass 22 (some 120) rfl rfl (by kernel_rfl) ?_
                refine Wk.rPure 23 (some 121) (.bool false) rfl rfl (by kernel_rfl) (by kernel_rfl) ?_
                refine Wk.rPure 24 (some 97) (.bool false) rfl rfl (by kernel_rfl) (by kernel_rfl) ?_
                refine Wk.rEnd 25 rfl ?_
                refine Wk.nxt ?_
                refine wp_cond_false (by kernel_rfl) ?_
                refine Wk.reg ?_
                refine Wk.rPure 0 (some 122) (.int .u8 3) rfl rfl (by kernel_rfl) (by kernel_rfl) ?_
                refine Wk.rPure 1 (some 123) (.bool false) rfl rfl (by kernel_rfl) (Wk.boolF (b := ((3 : Int) == (5 : Int))) (beq_eq_false_iff_ne.2 (by decide)) (by kernel_rfl)) ?_
                refine Wk.rPure 2 (some 124) (.bool false) rfl rfl (by kernel_rfl) (by kernel_rfl) ?_
                refine Wk.rPass 3 (some 125) rfl rfl (by kernel_rfl) ?_
                refine Wk.rPass 4 (some 126) rfl rfl (by kernel_rfl) ?_
                refine Wk.rPure 5 (some 127) (.bool false) rfl rfl (by kernel_rfl) (by kernel_rfl) ?_
                refine Wk.rPure 6 (some 128) (.bool false) rfl rfl (by kernel_rfl) (by kernel_rfl) ?_
                refine Wk.rPass 7 (some 129) rfl rfl (by kernel_rfl) ?_
                refine Wk.rPass 8 (some 130) rfl rfl (by kernel_rfl) ?_
                refine Wk.rPass 9 (some 131) rfl rfl (by kernel_rfl) ?_
                refine Wk.rPass 10 (some 132) rfl rfl (by kernel_rfl) ?_
                refine Wk.rPass 11 (some 133) rfl rfl (by kernel_rfl) ?_
                refine Wk.rPass 12 (some 134) rfl rfl (by kernel_rfl) ?_
                refine Wk.rPass 13 (some 135) rfl rfl (by kernel_rfl) ?_
                refine Wk.rPure 14 (some 136) (.bool false) rfl rfl (by kernel_rfl) (by kernel_rfl) ?_
                refine Wk.rPure 15 (some 97) (.bool false) rfl rfl (by kernel_rfl) (by kernel_rfl) ?_
                refine Wk.rEnd 16 rfl ?_
                refine Wk.nxt ?_
                refine wp_cond_false (by kernel_rfl) ?_
                refine wp_skip ?_
                refine Wk.inN ?_
                refine Wk.nxt ?_
                refine Wk.reg ?_
                refine Wk.rPure 0 (some 137) (.int .u8 3) rfl rfl (by kernel_rfl) (by kernel_rfl) ?_
                refine Wk.rPure 1 (some 11) (.int .u8 3) rfl rfl (by kernel_rfl) (by kernel_rfl) ?_
                refine Wk.rEnd 2 rfl ?_
                refine Wk.inN ?_
                refine Wk.nxt ?_
                refine Wk.reg ?_
                refine Wk.rPure 0 (some 138) (.int .i64 ((k + 1 : Nat) : Int)) rfl rfl (by kernel_rfl) (Wk.int64 (n := ((k : Nat) : Int) + 1) (z := ((k + 1 : Nat) : Int)) (by omega) (by omega) (by omega) (by kernel_rfl)) ?_
                refine Wk.rPure 1 (some 30) (.int .i64 ((k + 1 : Nat) : Int)) rfl rfl (by kernel_rfl) (by kernel_rfl) ?_
                refine Wk.rEnd 2 rfl ?_
                refine Wk.nxt ?_
                refine ⟨_, ?_, k + 1, 3, ft, fi, rfl, by kernel_rfl, (by omega), hb2, (by simpa using hinv), (fun _ => hfi), ⟨by omega, by omega⟩, kk10⟩
                · omega
          · by_cases hn4 : (trnTo 1000 0 most budget L k).state = 4
            · obtain rfl : ov = true := by rw [← hov.out]; simpa using hn4
              obtain ⟨he4, _⟩ := hover hn4
              refine ⟨_, rfl, ?_⟩
              refine Wk.rPure 8 (some 14) (.int .u8 4) rfl rfl (by kernel_rfl) (by kernel_rfl) ?_
              refine Wk.rEnd 9 rfl ?_
              refine Wk.nxt ?_
              refine wp_seq ?_
              refine wp_seq ?_
              refine Wk.reg ?_
              refine Wk.rPure 0 (some 55) (.int .u8 4) rfl rfl (by kernel_rfl) (by kernel_rfl) ?_
              refine Wk.rPure 1 (some 56) (.bool false) rfl rfl (by kernel_rfl) (Wk.boolF (b := ((4 : Int) == (2 : Int))) (beq_eq_false_iff_ne.2 (by decide)) (by kernel_rfl)) ?_
              refine Wk.rPure 2 (some 57) (.bool false) rfl rfl (by kernel_rfl) (by kernel_rfl) ?_
              refine Wk.rPass 3 (some 58) rfl rfl (by kernel_rfl) ?_
              refine Wk.rPass 4 (some 59) rfl rfl (by kernel_rfl) ?_
              refine Wk.rPure 5 (some 60) (.bool false) rfl rfl (by kernel_rfl) (by kernel_rfl) ?_
              refine Wk.rEnd 6 rfl ?_
              refine Wk.nxt ?_
              refine wp_cond_false (by kernel_rfl) ?_
              refine wp_skip ?_
              refine Wk.nxt ?_
              refine wp_seq ?_
              refine wp_block ?_
              refine wp_seq ?_
              refine wp_seq ?_
              refine Wk.reg ?_
              refine Wk.rPure 0 (some 64) (.bool true) rfl rfl (by kernel_rfl) (by kernel_rfl) ?_
              refine Wk.rPure 1 (some 65) (.bool true) rfl rfl (by kernel_rfl) (by kernel_rfl) ?_
              refine Wk.rPure 2 (some 66) (.int .u8 4) rfl rfl (by kernel_rfl) (by kernel_rfl) ?_
              refine Wk.rPure 3 (some 67) (.int .u8 last) rfl rfl (by kernel_rfl) (by kernel_rfl) ?_
              refine Wk.rPure 4 (some 68) (.bool false) rfl rfl (by kernel_rfl) (Wk.boolF (b := ((4 : Int) != last)) (bne_eq_false_iff_eq.2 (he4)) (by kernel_rfl)) ?_
              refine Wk.rPure 5 (some 69) (.bool false) rfl rfl (by kernel_rfl) (by kernel_rfl) ?_
              refine Wk.rPure 6 (some 63) (.bool false) rfl rfl (by kernel_rfl) (by kernel_rfl) ?_
              refine Wk.rEnd 7 rfl ?_
              refine Wk.nxt ?_
              refine wp_cond_false (by kernel_rfl) ?_
              refine wp_seq ?_
              refine Wk.reg ?_
              refine Wk.rPure 0 (some 70) (.int .i64 ft) rfl rfl (by kernel_rfl) (by kernel_rfl) ?_
              refine Wk.rPure 1 (some 71) (.bool false) rfl rfl (by kernel_rfl) (Wk.boolF (b := decide (ft > (1 : Int))) (decide_eq_false (by omega)) (by kernel_rfl)) ?_
              refine Wk.rPure 2 (some 63) (.bool false) rfl rfl (by kernel_rfl) (by kernel_rfl) ?_
              refine Wk.rEnd 3 rfl ?_
              refine Wk.nxt ?_
              refine wp_cond_false (by kernel_rfl) ?_
              refine Wk.reg ?_
              refine Wk.rPure 0 (some 72) (.int .u8 4) rfl rfl (by kernel_rfl) (by kernel_rfl) ?_
              refine Wk.rPure 1 (some 73) (.bool false) rfl rfl (by kernel_rfl) (Wk.boolF (b := decide ((4 : Int) > (5 : Int))) (decide_eq_false (by decide)) (by kernel_rfl)) ?_
              refine Wk.rPure 2 (some 63) (.bool false) rfl rfl (by kernel_rfl) (by kernel_rfl) ?_
              refine Wk.rEnd 3 rfl ?_
              refine Wk.nxt ?_
              refine wp_cond_false (by kernel_rfl) ?_
              refine wp_seq ?_
              refine Wk.reg ?_
              refine Wk.rPure 0 (some 75) (.int .u8 4) rfl rfl (by kernel_rfl) (by kernel_rfl) ?_
              refine Wk.rPure 1 (some 76) (.bool false) rfl rfl (by kernel_rfl) (Wk.boolF (b := ((4 : Int) == (3 : Int))) (beq_eq_false_iff_ne.2 (by decide)) (by kernel_rfl)) ?_
              refine Wk.rPure 2 (some 77) (.bool false) rfl rfl (by kernel_rfl) (by kernel_rfl) ?_
              refine Wk.rPass 3 (some 78) rfl rfl (by kernel_rfl) ?_
              refine Wk.rPass 4 (some 79) rfl rfl (by kernel_rfl) ?_
              refine Wk.rPure 5 (some 80) (.bool false) rfl rfl (by kernel_rfl) (by kernel_rfl) ?_
              refine Wk.rPure 6 (some 81) (.bool false) rfl rfl (by kernel_rfl) (by kernel_rfl) ?_
              refine Wk.rPass 7 (some 82) rfl rfl (by kernel_rfl) ?_
              refine Wk.rPass 8 (some 83) rfl rfl (by kernel_rfl) ?_
              refine Wk.rPass 9 (some 84) rfl rfl (by kernel_rfl) ?_
              refine Wk.rPass 10 (some 85) rfl rfl (by kernel_rfl) ?_
              refine Wk.rPass 11 (some 86) rfl rfl (by kernel_rfl) ?_
              refine Wk.rPass 12 (some 87) rfl rfl (by kernel_rfl) ?_
              refine Wk.rPass 13 (some 88) rfl rfl (by kernel_rfl) ?_
              refine Wk.rPure 14 (some 89) (.bool false) rfl rfl (by kernel_rfl) (by kernel_rfl) ?_
              refine Wk.rPure 15 (some 90) (.bool false) rfl rfl (by kernel_rfl) (by kernel_rfl) ?_
              refine Wk.rPass 16 (some 91) rfl rfl (by kernel_rfl) ?_
              refine Wk.rPass 17 (some 92) rfl rfl (by kernel_rfl) ?_
              refine Wk.rPass 18 (some 93) rfl rfl (by kernel_rfl) ?_
              refine Wk.rPass 19 (some 94) rfl rfl (by kernel_rfl) ?_
              refine Wk.rPass 20 (some 95) rfl rfl (by kernel_rfl) ?_
              refine Wk.rPure 21 (some 96) (.bool false) rfl rfl (by kernel_rfl) (by kernel_rfl) ?_
              refine Wk.rPure 22 (some 74) (.bool false) rfl rfl (by kernel_rfl) (by kernel_rfl) ?_
              refine Wk.rEnd 23 rfl ?_
              refine Wk.nxt ?_
              refine wp_cond_false (by kernel_rfl) ?_
              refine wp_seq ?_
              refine wp_seq ?_
              refine Wk.reg ?_
              refine Wk.rPure 0 (some 98) (.int .u8 4) rfl rfl (by kernel_rfl) (by kernel_rfl) ?_
              refine Wk.rPure 1 (some 99) (.bool true) rfl rfl (by kernel_rfl) (Wk.boolT (b := ((4 : Int) == (4 : Int))) (beq_iff_eq.2 (by decide)) (by kernel_rfl)) ?_
              refine Wk.rPure 2 (some 100) (.bool true) rfl rfl (by kernel_rfl) (by kernel_rfl) ?_
              refine Wk.rPure 3 (some 101) (.bool true) rfl rfl (by kernel_rfl) (by kernel_rfl) ?_
              refine Wk.rPure 4 (some 102) (.bool false) rfl rfl (by kernel_rfl) (by kernel_rfl) ?_
              refine Wk.rPure 5 (some 103) (.bool false) rfl rfl (by kernel_rfl) (by kernel_rfl) ?_
              refine Wk.rPure 6 (some 104) (.bool false) rfl rfl (by kernel_rfl) (by kernel_rfl) ?_
              refine Wk.rPass 7 (some 105) rfl rfl (by kernel_rfl) ?_
              refine Wk.rPass 8 (some 106) rfl rfl (by kernel_rfl) ?_
              refine Wk.rPass 9 (some 107) rfl rfl (by kernel_rfl) ?_
              refine Wk.rPass 10 (some 108) rfl rfl (by kernel_rfl) ?_
              refine Wk.rPass 11 (some 109) rfl rfl (by kernel_rfl) ?_
              refine Wk.rPass 12 (some 110) rfl rfl (by kernel_rfl) ?_
              refine Wk.rPass 13 (some 111) rfl rfl (by kernel_rfl) ?_
              refine Wk.rPure 14 (some 112) (.bool false) rfl rfl (by kernel_rfl) (by kernel_rfl) ?_
              refine Wk.rPure 15 (some 113) (.bool false) rfl rfl (by kernel_rfl) (by kernel_rfl) ?_
              refine Wk.rPass 16 (some 114) rfl rfl (by kernel_rfl) ?_
              refine Wk.rPass 17 (some 115) rfl rfl (by kernel_rfl) ?_
              refine Wk.rPass 18 (some 116) rfl rfl (by kernel_rfl) ?_
              refine Wk.rPass 19 (some 117) rfl rfl (by kernel_rfl) ?_
              refine Wk.rPass 20 (some 118) rfl rfl (by kernel_rfl) ?_
              refine Wk.rPass 21 (some 119) rfl rfl (by kernel_rfl) ?_
              refine Wk.rPass 22 (some 120) rfl rfl (by kernel_rfl) ?_
              refine Wk.rPure 23 (some 121) (.bool false) rfl rfl (by kernel_rfl) (by kernel_rfl) ?_
              refine Wk.rPure 24 (some 97) (.bool false) rfl rfl (by kernel_rfl) (by kernel_rfl) ?_
              refine Wk.rEnd 25 rfl ?_
              refine Wk.nxt ?_
              refine wp_cond_false (by kernel_rfl) ?_
              refine Wk.reg ?_
              refine Wk.rPure 0 (some 122) (.int .u8 4) rfl rfl (by kernel_rfl) (by kernel_rfl) ?_
              refine Wk.rPure 1 (some 123) (.bool false) rfl rfl (by kernel_rfl) (Wk.boolF (b := ((4 : Int) == (5 : Int))) (beq_eq_false_iff_ne.2 (by decide)) (by kernel_rfl)) ?_
              refine Wk.rPure 2 (some 124) (.bool false) rfl rfl (by kernel_rfl) (by kernel_rfl) ?_
              refine Wk.rPass 3 (some 125) rfl rfl (by kernel_rfl) ?_
              refine Wk.rPass 4 (some 126) rfl rfl (by kernel_rfl) ?_
              refine Wk.rPure 5 (some 127) (.bool false) rfl rfl (by kernel_rfl) (by kernel_rfl) ?_
              refine Wk.rPure 6 (some 128) (.bool false) rfl rfl (by kernel_rfl) (by kernel_rfl) ?_
              refine Wk.rPass 7 (some 129) rfl rfl (by kernel_rfl) ?_
              refine Wk.rPass 8 (some 130) rfl rfl (by kernel_rfl) ?_
              refine Wk.rPass 9 (some 131) rfl rfl (by kernel_rfl) ?_
              refine Wk.rPass 10 (some 132) rfl rfl (by kernel_rfl) ?_
              refine Wk.rPass 11 (some 133) rfl rfl (by kernel_rfl) ?_
              refine Wk.rPass 12 (some 134) rfl rfl (by kernel_rfl) ?_
              refine Wk.rPass 13 (some 135) rfl rfl (by kernel_rfl) ?_
              refine Wk.rPure 14 (some 136) (.bool false) rfl rfl (by kernel_rfl) (by kernel_rfl) ?_
              refine Wk.rPure 15 (some 97) (.bool false) rfl rfl (by kernel_rfl) (by kernel_rfl) ?_
              refine Wk.rEnd 16 rfl ?_
              refine Wk.nxt ?_
              refine wp_cond_false (by kernel_rfl) ?_
              refine wp_skip ?_
              refine Wk.inN ?_
              refine Wk.nxt ?_
              refine Wk.reg ?_
              refine Wk.rPure 0 (some 137) (.int .u8 4) rfl rfl (by kernel_rfl) (by kernel_rfl) ?_
              refine Wk.rPure 1 (some 11) (.int .u8 4) rfl rfl (by kernel_rfl) (by kernel_rfl) ?_
              refine Wk.rEnd 2 rfl ?_
              refine Wk.inN ?_
              refine Wk.nxt ?_
              refine Wk.reg ?_
              refine Wk.rPure 0 (some 138) (.int .i64 ((k + 1 : Nat) : Int)) rfl rfl (by kernel_rfl) (Wk.int64 (n := ((k : Nat) : Int) + 1) (z := ((k + 1 : Nat) : Int)) (by omega) (by omega) (by omega) (by kernel_rfl)) ?_
              refine Wk.rPure 1 (some 30) (.int .i64 ((k + 1 : Nat) : Int)) rfl rfl (by kernel_rfl) (by kernel_rfl) ?_
              refine Wk.rEnd 2 rfl ?_
              refine Wk.nxt ?_
              have kk11 := Wk.Chg.step HB ch3 ⟨.inr (by omega), trivial⟩
              refine ⟨_, ?_, k + 1, 4, ft, fi, rfl, by kernel_rfl, (by omega), hb2, (by simpa using hinv), (fun _ => hfi), ⟨by omega, by omega⟩, kk11⟩
              · omega
            · obtain rfl : ov = false := by rw [← hov.out]; simpa using hn4
              rcases hdone rfl hn4 with hd | hd
              · obtain rfl : b0 = true := hd
                refine ⟨_, rfl, ?_⟩
                refine Wk.rPure 8 (some 14) (.int .u8 4) rfl rfl (by kernel_rfl) (by kernel_rfl) ?_
                refine Wk.rEnd 9 rfl ?_
                refine Wk.nxt ?_
                refine wp_seq ?_
                refine wp_seq ?_
                refine Wk.reg ?_
                refine Wk.rPure 0 (some 55) (.int .u8 4) rfl rfl (by kernel_rfl) (by kernel_rfl) ?_
                refine Wk.rPure 1 (some 56) (.bool false) rfl rfl (by kernel_rfl) (Wk.boolF (b := ((4 : Int) == (2 : Int))) (beq_eq_false_iff_ne.2 (by decide)) (by kernel_rfl)) ?_
                refine Wk.rPure 2 (some 57) (.bool false) rfl rfl (by kernel_rfl) (by kernel_rfl) ?_
                refine Wk.rPass 3 (some 58) rfl rfl (by kernel_rfl) ?_
                refine Wk.rPass 4 (some 59) rfl rfl (by kernel_rfl) ?_
                refine Wk.rPure 5 (some 60) (.bool false) rfl rfl (by kernel_rfl) (by kernel_rfl) ?_
                refine Wk.rEnd 6 rfl ?_
                refine Wk.nxt ?_
                refine wp_cond_false (by kernel_rfl) ?_
                refine wp_skip ?_
                refine Wk.nxt ?_
                refine wp_seq ?_
                refine wp_block ?_
                refine wp_seq ?_
                refine wp_seq ?_
                refine Wk.reg ?_
                refine Wk.rPure 0 (some 64) (.bool false) rfl rfl (by kernel_rfl) (by kernel_rfl) ?_
                refine Wk.rPure 1 (some 65) (.bool false) rfl rfl (by kernel_rfl) (by kernel_rfl) ?_
                refine Wk.rPass 2 (some 66) rfl rfl (by kernel_rfl) ?_
                refine Wk.rPass 3 (some 67) rfl rfl (by kernel_rfl) ?_
                refine Wk.rPass 4 (some 68) rfl rfl (by kernel_rfl) ?_
                refine Wk.rPure 5 (some 69) (.bool false) rfl rfl (by kernel_rfl) (by kernel_rfl) ?_
                refine Wk.rPure 6 (some 63) (.bool false) rfl rfl (by kernel_rfl) (by kernel_rfl) ?_
                refine Wk.rEnd 7 rfl ?_
                refine Wk.nxt ?_
                refine wp_cond_false (by kernel_rfl) ?_
                refine wp_seq ?_
                refine Wk.reg ?_
                refine Wk.rPure 0 (some 70) (.int .i64 ft) rfl rfl (by kernel_rfl) (by kernel_rfl) ?_
                refine Wk.rPure 1 (some 71) (.bool false) rfl rfl (by kernel_rfl) (Wk.boolF (b := decide (ft > (1 : Int))) (decide_eq_false (by omega)) (by kernel_rfl)) ?_
                refine Wk.rPure 2 (some 63) (.bool false) rfl rfl (by kernel_rfl) (by kernel_rfl) ?_
                refine Wk.rEnd 3 rfl ?_
                refine Wk.nxt ?_
                refine wp_cond_false (by kernel_rfl) ?_
                refine Wk.reg ?_
                refine Wk.rPure 0 (some 72) (.int .u8 4) rfl rfl (by kernel_rfl) (by kernel_rfl) ?_
                refine Wk.rPure 1 (some 73) (.bool false) rfl rfl (by kernel_rfl) (Wk.boolF (b := decide ((4 : Int) > (5 : Int))) (decide_eq_false (by decide)) (by kernel_rfl)) ?_
                refine Wk.rPure 2 (some 63) (.bool false) rfl rfl (by kernel_rfl) (by kernel_rfl) ?_
                refine Wk.rEnd 3 rfl ?_
                refine Wk.nxt ?_
                refine wp_cond_false (by kernel_rfl) ?_
                refine wp_seq ?_
                refine Wk.reg ?_
                refine Wk.rPure 0 (some 75) (.int .u8 4) rfl rfl (by kernel_rfl) (by kernel_rfl) ?_
                refine Wk.rPure 1 (some 76) (.bool false) rfl rfl (by kernel_rfl) (Wk.boolF (b := ((4 : Int) == (3 : Int))) (beq_eq_false_iff_ne.2 (by decide)) (by kernel_rfl)) ?_
                refine Wk.rPure 2 (some 77) (.bool false) rfl rfl (by kernel_rfl) (by kernel_rfl) ?_
                refine Wk.rPass 3 (some 78) rfl rfl (by kernel_rfl) ?_
                refine Wk.rPass 4 (some 79) rfl rfl (by kernel_rfl) ?_
                refine Wk.rPure 5 (some 80) (.bool false) rfl rfl (by kernel_rfl) (by kernel_rfl) ?_
                refine Wk.rPure 6 (some 81) (.bool false) rfl rfl (by kernel_rfl) (by kernel_rfl) ?_
                refine Wk.rPass 7 (some 82) rfl rfl (by kernel_rfl) ?_
                refine Wk.rPass 8 (some 83) rfl rfl (by kernel_rfl) ?_
                refine Wk.rPass 9 (some 84) rfl rfl (by kernel_rfl) ?_
                refine Wk.rPass 10 (some 85) rfl rfl (by kernel_rfl) ?_
                refine Wk.rPass 11 (some 86) rfl rfl (by kernel_rfl) ?_
                refine Wk.rPass 12 (some 87) rfl rfl (by kernel_rfl) ?_
                refine Wk.rPass 13 (some 88) rfl rfl (by kernel_rfl) ?_
                refine Wk.rPure 14 (some 89) (.bool false) rfl rfl (by kernel_rfl) (by kernel_rfl) ?_
                refine Wk.rPure 15 (some 90) (.bool false) rfl rfl (by kernel_rfl) (by kernel_rfl) ?_
                refine Wk.rPass 16 (some 91) rfl rfl (by kernel_rfl) ?_
                refine Wk.rPass 17 (some 92) rfl rfl (by kernel_rfl) ?_
                refine Wk.rPass 18 (some 93) rfl rfl (by kernel_rfl) ?_
                refine Wk.rPass 19 (some 94) rfl rfl (by kernel_rfl) ?_
                refine Wk.rPass 20 (some 95) rfl rfl (by kernel_rfl) ?_
                refine Wk.rPure 21 (some 96) (.bool false) rfl rfl (by kernel_rfl) (by kernel_rfl) ?_
                refine Wk.rPure 22 (some 74) (.bool false) rfl rfl (by kernel_rfl) (by kernel_rfl) ?_
                refine Wk.rEnd 23 rfl ?_
                refine Wk.nxt ?_
                refine wp_cond_false (by kernel_rfl) ?_
                refine wp_seq ?_
                refine wp_seq ?_
                refine Wk.reg ?_
                refine Wk.rPure 0 (some 98) (.int .u8 4) rfl rfl (by kernel_rfl) (by kernel_rfl) ?_
                refine Wk.rPure 1 (some 99) (.bool true) rfl rfl (by kernel_rfl) (Wk.boolT (b := ((4 : Int) == (4 : Int))) (beq_iff_eq.2 (by decide)) (by kernel_rfl)) ?_
                refine Wk.rPure 2 (some 100) (.bool true) rfl rfl (by kernel_rfl) (by kernel_rfl) ?_
                refine Wk.rPure 3 (some 101) (.bool false) rfl rfl (by kernel_rfl) (by kernel_rfl) ?_
                refine Wk.rPure 4 (some 102) (.bool true) rfl rfl (by kernel_rfl) (by kernel_rfl) ?_
                refine Wk.rPure 5 (some 103) (.bool true) rfl rfl (by kernel_rfl) (by kernel_rfl) ?_
                refine Wk.rPure 6 (some 104) (.bool true) rfl rfl (by kernel_rfl) (by kernel_rfl) ?_
                refine Wk.rPure 7 (some 105) (.slice (some ⟨g, off, none⟩) n c) rfl rfl (by kernel_rfl) (by kernel_rfl) ?_
                refine Wk.rPure 8 (some 106) (.int .i64 ((k : Nat) : Int)) rfl rfl (by kernel_rfl) (by kernel_rfl) ?_
                refine Wk.rPure 9 (some 107) (.pointer (some ⟨g, off + k * 9, none⟩)) rfl rfl (by kernel_rfl) (Wk.index_sl 22 30 (.tmp 105) (.tmp 106) rfl Try.underlying22 9 (by kernel_rfl) g off n c k .i64 (by kernel_rfl) (by kernel_rfl) (by omega)) ?_
                refine Wk.rPure 10 (some 108) (.pointer (some ⟨g, off + k * 9 + 1, none⟩)) rfl rfl (by kernel_rfl) (by kernel_rfl) ?_
                refine Wk.rPure 11 (some 109) (.pointer (some ⟨g, off + k * 9 + 1, none⟩)) rfl rfl (by kernel_rfl) (by kernel_rfl) ?_
                have kk12 := Wk.Chg.step HB ch3 ⟨.inr (by omega), trivial⟩
                refine Wk.rPure 12 (some 110) (.bool true) rfl rfl (by kernel_rfl) (Wk.load1 4 (.tmp 109) rfl (by kernel_rfl) ⟨g, off + k * 9 + 1, none⟩ (by kernel_rfl) (.bool true) (Wk.Chg.cell kk12 (qF 0 (.bool true) rfl) trivial)) ?_
                refine Wk.rPure 13 (some 111) (.bool false) rfl rfl (by kernel_rfl) (by kernel_rfl) ?_
                refine Wk.rPure 14 (some 112) (.bool false) rfl rfl (by kernel_rfl) (by kernel_rfl) ?_
                refine Wk.rPure 15 (some 113) (.bool false) rfl rfl (by kernel_rfl) (by kernel_rfl) ?_
                refine Wk.rPass 16 (some 114) rfl rfl (by kernel_rfl) ?_
                refine Wk.rPass 17 (some 115) rfl rfl (by kernel_rfl) ?_
                refine Wk.rPass 18 (some 116) rfl rfl (by kernel_rfl) ?_
                refine Wk.rPass 19 (some 117) rfl rfl (by kernel_rfl) ?_
                refine Wk.rPass 20 (some 118) rfl rfl (by kernel_rfl) ?_
                refine Wk.rPass 21 (some 119) rfl rfl (by kernel_rfl) ?_
                refine Wk.rPass 22 (some 120) rfl rfl (by kernel_rfl) ?_
                refine Wk.rPure 23 (some 121) (.bool false) rfl rfl (by kernel_rfl) (by kernel_rfl) ?_
                refine Wk.rPure 24 (some 97) (.bool false) rfl rfl (by kernel_rfl) (by kernel_rfl) ?_
                refine Wk.rEnd 25 rfl ?_
                refine Wk.nxt ?_
                refine wp_cond_false (by kernel_rfl) ?_
                refine Wk.reg ?_
                refine Wk.rPure 0 (some 122) (.int .u8 4) rfl rfl (by kernel_rfl) (by kernel_rfl) ?_
                refine Wk.rPure 1 (some 123) (.bool false) rfl rfl (by kernel_rfl) (Wk.boolF (b := ((4 : Int) == (5 : Int))) (beq_eq_false_iff_ne.2 (by decide)) (by kernel_rfl)) ?_
                refine Wk.rPure 2 (some 124) (.bool false) rfl rfl (by kernel_rfl) (by kernel_rfl) ?_
                refine Wk.rPass 3 (some 125) rfl rfl (by kernel_rfl) ?_
                refine Wk.rPass 4 (some 126) rfl rfl (by kernel_rfl) ?_
                refine Wk.rPure 5 (some 127) (.bool false) rfl rfl (by kernel_rfl) (by kernel_rfl) ?_
                refine Wk.rPure 6 (some 128) (.bool false) rfl rfl (by kernel_rfl) (by kernel_rfl) ?_
                refine Wk.rPass 7 (some 129) rfl rfl (by kernel_rfl) ?_
                refine Wk.rPass 8 (some 130) rfl rfl (by kernel_rfl) ?_
                refine Wk.rPass 9 (some 131) rfl rfl (by kernel_rfl) ?_
                refine Wk.rPass 10 (some 132) rfl rfl (by kernel_rfl) ?_
                refine Wk.rPass 11 (some 133) rfl rfl (by kernel_rfl) ?_
                refine Wk.rPass 12 (some 134) rfl rfl (by kernel_rfl) ?_
                refine Wk.rPass 13 (some 135) rfl rfl (by kernel_rfl) ?_
                refine Wk.rPure 14 (some 136) (.bool false) rfl rfl (by kernel_rfl) (by kernel_rfl) ?_
                refine Wk.rPure 15 (some 97) (.bool false) rfl rfl (by kernel_rfl) (by kernel_rfl) ?_
                refine Wk.rEnd 16 rfl ?_
                refine Wk.nxt ?_
                refine wp_cond_false (by kernel_rfl) ?_
                refine wp_skip ?_
                refine Wk.inN ?_
                refine Wk.nxt ?_
                refine Wk.reg ?_
                refine Wk.rPure 0 (some 137) (.int .u8 4) rfl rfl (by kernel_rfl) (by kernel_rfl) ?_
                refine Wk.rPure 1 (some 11) (.int .u8 4) rfl rfl (by kernel_rfl) (by kernel_rfl) ?_
                refine Wk.rEnd 2 rfl ?_
                refine Wk.inN ?_
                refine Wk.nxt ?_
                refine Wk.reg ?_
                refine Wk.rPure 0 (some 138) (.int .i64 ((k + 1 : Nat) : Int)) rfl rfl (by kernel_rfl) (Wk.int64 (n := ((k : Nat) : Int) + 1) (z := ((k + 1 : Nat) : Int)) (by omega) (by omega) (by omega) (by kernel_rfl)) ?_
                refine Wk.rPure 1 (some 30) (.int .i64 ((k + 1 : Nat) : Int)) rfl rfl (by kernel_rfl) (by kernel_rfl) ?_
                refine Wk.rEnd 2 rfl ?_
                refine Wk.nxt ?_
                refine ⟨_, ?_, k + 1, 4, ft, fi, rfl, by kernel_rfl, (by omega), hb2, (by simpa using hinv), (fun _ => hfi), ⟨by omega, by omega⟩, kk12⟩
                · omega
              · obtain rfl : b6 = true := hd
                refine ⟨_, rfl, ?_⟩
                refine Wk.rPure 8 (some 14) (.int .u8 4) rfl rfl (by kernel_rfl) (by kernel_rfl) ?_
                refine Wk.rEnd 9 rfl ?_
                refine Wk.nxt ?_
                refine wp_seq ?_
                refine wp_seq ?_
                refine Wk.reg ?_
                refine Wk.rPure 0 (some 55) (.int .u8 4) rfl rfl (by kernel_rfl) (by kernel_rfl) ?_
                refine Wk.rPure 1 (some 56) (.bool false) rfl rfl (by kernel_rfl) (Wk.boolF (b := ((4 : Int) == (2 : Int))) (beq_eq_false_iff_ne.2 (by decide)) (by kernel_rfl)) ?_
                refine Wk.rPure 2 (some 57) (.bool false) rfl rfl (by kernel_rfl) (by kernel_rfl) ?_
                refine Wk.rPass 3 (some 58) rfl rfl (by kernel_rfl) ?_
                refine Wk.rPass 4 (some 59) rfl rfl (by kernel_rfl) ?_
                refine Wk.rPure 5 (some 60) (.bool false) rfl rfl (by kernel_rfl) (by kernel_rfl) ?_
                refine Wk.rEnd 6 rfl ?_
                refine Wk.nxt ?_
                refine wp_cond_false (by kernel_rfl) ?_
                refine wp_skip ?_
                refine Wk.nxt ?_
                refine wp_seq ?_
                refine wp_block ?_
                refine wp_seq ?_
                refine wp_seq ?_
                refine Wk.reg ?_
                refine Wk.rPure 0 (some 64) (.bool false) rfl rfl (by kernel_rfl) (by kernel_rfl) ?_
                refine Wk.rPure 1 (some 65) (.bool false) rfl rfl (by kernel_rfl) (by kernel_rfl) ?_
                refine Wk.rPass 2 (some 66) rfl rfl (by kernel_rfl) ?_
                refine Wk.rPass 3 (some 67) rfl rfl (by kernel_rfl) ?_
                refine Wk.rPass 4 (some 68) rfl rfl (by kernel_rfl) ?_
                refine Wk.rPure 5 (some 69) (.bool false) rfl rfl (by kernel_rfl) (by kernel_rfl) ?_
                refine Wk.rPure 6 (some 63) (.bool false) rfl rfl (by kernel_rfl) (by kernel_rfl) ?_
                refine Wk.rEnd 7 rfl ?_
                refine Wk.nxt ?_
                refine wp_cond_false (by kernel_rfl) ?_
                refine wp_seq ?_
                refine Wk.reg ?_
                refine Wk.rPure 0 (some 70) (.int .i64 ft) rfl rfl (by kernel_rfl) (by kernel_rfl) ?_
                refine Wk.rPure 1 (some 71) (.bool false) rfl rfl (by kernel_rfl) (Wk.boolF (b := decide (ft > (1 : Int))) (decide_eq_false (by omega)) (by kernel_rfl)) ?_
                refine Wk.rPure 2 (some 63) (.bool false) rfl rfl (by kernel_rfl) (by kernel_rfl) ?_
                refine Wk.rEnd 3 rfl ?_
                refine Wk.nxt ?_
                refine wp_cond_false (by kernel_rfl) ?_
                refine Wk.reg ?_
                refine Wk.rPure 0 (some 72) (.int .u8 4) rfl rfl (by kernel_rfl) (by kernel_rfl) ?_
                refine Wk.rPure 1 (some 73) (.bool false) rfl rfl (by kernel_rfl) (Wk.boolF (b := decide ((4 : Int) > (5 : Int))) (decide_eq_false (by decide)) (by kernel_rfl)) ?_
                refine Wk.rPure 2 (some 63) (.bool false) rfl rfl (by kernel_rfl) (by kernel_rfl) ?_
                refine Wk.rEnd 3 rfl ?_
                refine Wk.nxt ?_
                refine wp_cond_false (by kernel_rfl) ?_
                refine wp_seq ?_
                refine Wk.reg ?_
                refine Wk.rPure 0 (some 75) (.int .u8 4) rfl rfl (by kernel_rfl) (by kernel_rfl) ?_
                refine Wk.rPure 1 (some 76) (.bool false) rfl rfl (by kernel_rfl) (Wk.boolF (b := ((4 : Int) == (3 : Int))) (beq_eq_false_iff_ne.2 (by decide)) (by kernel_rfl)) ?_
                refine Wk.rPure 2 (some 77) (.bool false) rfl rfl (by kernel_rfl) (by kernel_rfl) ?_
                refine Wk.rPass 3 (some 78) rfl rfl (by kernel_rfl) ?_
                refine Wk.rPass 4 (some 79) rfl rfl (by kernel_rfl) ?_
                refine Wk.rPure 5 (some 80) (.bool false) rfl rfl (by kernel_rfl) (by kernel_rfl) ?_
                refine Wk.rPure 6 (some 81) (.bool false) rfl rfl (by kernel_rfl) (by kernel_rfl) ?_
                refine Wk.rPass 7 (some 82) rfl rfl (by kernel_rfl) ?_
                refine Wk.rPass 8 (some 83) rfl rfl (by kernel_rfl) ?_
                refine Wk.rPass 9 (some 84) rfl rfl (by kernel_rfl) ?_
                refine Wk.rPass 10 (some 85) rfl rfl (by kernel_rfl) ?_
                refine Wk.rPass 11 (some 86) rfl rfl (by kernel_rfl) ?_
                refine Wk.rPass 12 (some 87) rfl rfl (by kernel_rfl) ?_
                refine Wk.rPass 13 (some 88) rfl rfl (by kernel_rfl) ?_
                refine Wk.rPure 14 (some 89) (.bool false) rfl rfl (by kernel_rfl) (by kernel_rfl) ?_
                refine Wk.rPure 15 (some 90) (.bool false) rfl rfl (by kernel_rfl) (by kernel_rfl) ?_
                refine Wk.rPass 16 (some 91) rfl rfl (by kernel_rfl) ?_
                refine Wk.rPass 17 (some 92) rfl rfl (by kernel_rfl) ?_
                refine Wk.rPass 18 (some 93) rfl rfl (by kernel_rfl) ?_
                refine Wk.rPass 19 (some 94) rfl rfl (by kernel_rfl) ?_
                refine Wk.rPass 20 (some 95) rfl rfl (by kernel_rfl) ?_
                refine Wk.rPure 21 (some 96) (.bool false) rfl rfl (by kernel_rfl) (by kernel_rfl) ?_
                refine Wk.rPure 22 (some 74) (.bool false) rfl rfl (by kernel_rfl) (by kernel_rfl) ?_
                refine Wk.rEnd 23 rfl ?_
                refine Wk.nxt ?_
                refine wp_cond_false (by kernel_rfl) ?_
                refine wp_seq ?_
                refine wp_seq ?_
                refine Wk.reg ?_
                refine Wk.rPure 0 (some 98) (.int .u8 4) rfl rfl (by kernel_rfl) (by kernel_rfl) ?_
                refine Wk.rPure 1 (some 99) (.bool true) rfl rfl (by kernel_rfl) (Wk.boolT (b := ((4 : Int) == (4 : Int))) (beq_iff_eq.2 (by decide)) (by kernel_rfl)) ?_
                refine Wk.rPure 2 (some 100) (.bool true) rfl rfl (by kernel_rfl) (by kernel_rfl) ?_
                refine Wk.rPure 3 (some 101) (.bool false) rfl rfl (by kernel_rfl) (by kernel_rfl) ?_
                refine Wk.rPure 4 (some 102) (.bool true) rfl rfl (by kernel_rfl) (by kernel_rfl) ?_
                refine Wk.rPure 5 (some 103) (.bool true) rfl rfl (by kernel_rfl) (by kernel_rfl) ?_
                refine Wk.rPure 6 (some 104) (.bool true) rfl rfl (by kernel_rfl) (by kernel_rfl) ?_
                refine Wk.rPure 7 (some 105) (.slice (some ⟨g, off, none⟩) n c) rfl rfl (by kernel_rfl) (by kernel_rfl) ?_
                refine Wk.rPure 8 (some 106) (.int .i64 ((k : Nat) : Int)) rfl rfl (by kernel_rfl) (by kernel_rfl) ?_
                refine Wk.rPure 9 (some 107) (.pointer (some ⟨g, off + k * 9, none⟩)) rfl rfl (by kernel_rfl) (Wk.index_sl 22 30 (.tmp 105) (.tmp 106) rfl Try.underlying22 9 (by kernel_rfl) g off n c k .i64 (by kernel_rfl) (by kernel_rfl) (by omega)) ?_
                refine Wk.rPure 10 (some 108) (.pointer (some ⟨g, off + k * 9 + 1, none⟩)) rfl rfl (by kernel_rfl) (by kernel_rfl) ?_
                refine Wk.rPure 11 (some 109) (.pointer (some ⟨g, off + k * 9 + 1, none⟩)) rfl rfl (by kernel_rfl) (by kernel_rfl) ?_
                have kk13 := Wk.Chg.step HB ch3 ⟨.inr (by omega), trivial⟩
                refine Wk.rPure 12 (some 110) (.bool b0) rfl rfl (by kernel_rfl) (Wk.load1 4 (.tmp 109) rfl (by kernel_rfl) ⟨g, off + k * 9 + 1, none⟩ (by kernel_rfl) (.bool b0) (Wk.Chg.cell kk13 (qF 0 (.bool b0) rfl) trivial)) ?_
                refine Wk.rPure 13 (some 111) (.bool (!b0)) rfl rfl (by kernel_rfl) (by kernel_rfl) ?_
                refine Wk.rPure 14 (some 112) (.bool (!b0)) rfl rfl (by kernel_rfl) (by kernel_rfl) ?_
                refine Wk.rPure 15 (some 113) (.bool (!b0)) rfl rfl (by kernel_rfl) (by kernel_rfl) ?_
                cases b0
                · refine Wk.rPure 16 (some 114) (.slice (some ⟨g, off, none⟩) n c) rfl rfl (by kernel_rfl) (by kernel_rfl) ?_
                  refine Wk.rPure 17 (some 115) (.int .i64 ((k : Nat) : Int)) rfl rfl (by kernel_rfl) (by kernel_rfl) ?_
                  refine Wk.rPure 18 (some 116) (.pointer (some ⟨g, off + k * 9, none⟩)) rfl rfl (by kernel_rfl) (Wk.index_sl 22 30 (.tmp 114) (.tmp 115) rfl Try.underlying22 9 (by kernel_rfl) g off n c k .i64 (by kernel_rfl) (by kernel_rfl) (by omega)) ?_
                  refine Wk.rPure 19 (some 117) (.pointer (some ⟨g, off + k * 9 + 1, none⟩)) rfl rfl (by kernel_rfl) (by kernel_rfl) ?_
                  refine Wk.rPure 20 (some 118) (.pointer (some ⟨g, off + k * 9 + 1 + 6, none⟩)) rfl rfl (by kernel_rfl) (by kernel_rfl) ?_
                  refine Wk.rPure 21 (some 119) (.bool true) rfl rfl (by kernel_rfl) (Wk.load1 4 (.tmp 118) rfl (by kernel_rfl) ⟨g, off + k * 9 + 1 + 6, none⟩ (by kernel_rfl) (.bool true) (Wk.Chg.cell kk13 (qF 6 (.bool true) rfl) trivial)) ?_
                  refine Wk.rPure 22 (some 120) (.bool false) rfl rfl (by kernel_rfl) (by kernel_rfl) ?_
                  refine Wk.rPure 23 (some 121) (.bool false) rfl rfl (by kernel_rfl) (by kernel_rfl) ?_
                  refine Wk.rPure 24 (some 97) (.bool false) rfl rfl (by kernel_rfl) (by kernel_rfl) ?_
                  refine Wk.rEnd 25 rfl ?_
                  refine Wk.nxt ?_
                  refine wp_cond_false (by kernel_rfl) ?_
                  refine Wk.reg ?_
                  refine Wk.rPure 0 (some 122) (.int .u8 4) rfl rfl (by kernel_rfl) (by kernel_rfl) ?_
                  refine Wk.rPure 1 (some 123) (.bool false) rfl rfl (by kernel_rfl) (Wk.boolF (b := ((4 : Int) == (5 : Int))) (beq_eq_false_iff_ne.2 (by decide)) (by kernel_rfl)) ?_
                  refine Wk.rPure 2 (some 124) (.bool false) rfl rfl (by kernel_rfl) (by kernel_rfl) ?_
                  refine Wk.rPass 3 (some 125) rfl rfl (by kernel_rfl) ?_
                  refine Wk.rPass 4 (some 126) rfl rfl (by kernel_rfl) ?_
                  refine Wk.rPure 5 (some 127) (.bool false) rfl rfl (by kernel_rfl) (by kernel_rfl) ?_
                  refine Wk.rPure 6 (some 128) (.bool false) rfl rfl (by kernel_rfl) (by kernel_rfl) ?_
                  refine Wk.rPass 7 (some 129) rfl rfl (by kernel_rfl) ?_
                  refine Wk.rPass 8 (some 130) rfl rfl (by kernel_rfl) ?_
                  refine Wk.rPass 9 (some 131) rfl rfl (by kernel_rfl) ?_
                  refine Wk.rPass 10 (some 132) rfl rfl (by kernel_rfl) ?_
                  refine Wk.rPass 11 (some 133) rfl rfl (by kernel_rfl) ?_
                  refine Wk.rPass 12 (some 134) rfl rfl (by kernel_rfl) ?_
                  refine Wk.rPass 13 (some 135) rfl rfl (by kernel_rfl) ?_
                  refine Wk.rPure 14 (some 136) (.bool false) rfl rfl (by kernel_rfl) (by kernel_rfl) ?_
                  refine Wk.rPure 15 (some 97) (.bool false) rfl rfl (by kernel_rfl) (by kernel_rfl) ?_
                  refine Wk.rEnd 16 rfl ?_
                  refine Wk.nxt ?_
                  refine wp_cond_false (by kernel_rfl) ?_
                  refine wp_skip ?_
                  refine Wk.inN ?_
                  refine Wk.nxt ?_
                  refine Wk.reg ?_
                  refine Wk.rPure 0 (some 137) (.int .u8 4) rfl rfl (by kernel_rfl) (by kernel_rfl) ?_
                  refine Wk.rPure 1 (some 11) (.int .u8 4) rfl rfl (by kernel_rfl) (by kernel_rfl) ?_
                  refine Wk.rEnd 2 rfl ?_
                  refine Wk.inN ?_
                  refine Wk.nxt ?_
                  refine Wk.reg ?_
                  refine Wk.rPure 0 (some 138) (.int .i64 ((k + 1 : Nat) : Int)) rfl rfl (by kernel_rfl) (Wk.int64 (n := ((k : Nat) : Int) + 1) (z := ((k + 1 : Nat) : Int)) (by omega) (by omega) (by omega) (by kernel_rfl)) ?_
                  refine Wk.rPure 1 (some 30) (.int .i64 ((k + 1 : Nat) : Int)) rfl rfl (by kernel_rfl) (by kernel_rfl) ?_
                  refine Wk.rEnd 2 rfl ?_
                  refine Wk.nxt ?_
                  refine ⟨_, ?_, k + 1, 4, ft, fi, rfl, by kernel_rfl, (by omega), hb2, (by simpa using hinv), (fun _ => hfi), ⟨by omega, by omega⟩, kk13⟩
                  · omega
                · refine Wk.rPass 16 (some 114) rfl rfl (by kernel_rfl) ?_
                  refine Wk.rPass 17 (some 115) rfl rfl (by kernel_rfl) ?_
                  refine Wk.rPass 18 (some 116) rfl rfl (by kernel_rfl) ?_
                  refine Wk.rPass 19 (some 117) rfl rfl (by kernel_rfl) ?_
                  refine Wk.rPass 20 (some 118) rfl rfl (by kernel_rfl) ?_
                  refine Wk.rPass 21 (some 119) rfl rfl (by kernel_rfl) ?_
                  refine Wk.rPass 22 (some 120) rfl rfl (by kernel_rfl) ?_
                  refine Wk.rPure 23 (some 121) (.bool false) rfl rfl (by kernel_rfl) (by kernel_rfl) ?_
                  refine Wk.rPure 24 (some 97) (.bool false) rfl rfl (by kernel_rfl) (by kernel_rfl) ?_
                  refine Wk.rEnd 25 rfl ?_
                  refine Wk.nxt ?_
                  refine wp_cond_false (by kernel_rfl) ?_
                  refine Wk.reg ?_
                  refine Wk.rPure 0 (some 122) (.int .u8 4) rfl rfl (by kernel_rfl) (by kernel_rfl) ?_
                  refine Wk.rPure 1 (some 123) (.bool false) rfl rfl (by kernel_rfl) (Wk.boolF (b := ((4 : Int) == (5 : Int))) (beq_eq_false_iff_ne.2 (by decide)) (by kernel_rfl)) ?_
                  refine Wk.rPure 2 (some 124) (.bool false) rfl rfl (by kernel_rfl) (by kernel_rfl) ?_
                  refine Wk.rPass 3 (some 125) rfl rfl (by kernel_rfl) ?_
                  refine Wk.rPass 4 (some 126) rfl rfl (by kernel_rfl) ?_
                  refine Wk.rPure 5 (some 127) (.bool false) rfl rfl (by kernel_rfl) (by kernel_rfl) ?_
                  refine Wk.rPure 6 (some 128) (.bool false) rfl rfl (by kernel_rfl) (by kernel_rfl) ?_
                  refine Wk.rPass 7 (some 129) rfl rfl (by kernel_rfl) ?_
                  refine Wk.rPass 8 (some 130) rfl rfl (by kernel_rfl) ?_
                  refine Wk.rPass 9 (some 131) rfl rfl (by kernel_rfl) ?_
                  refine Wk.rPass 10 (some 132) rfl rfl (by kernel_rfl) ?_
                  refine Wk.rPass 11 (some 133) rfl rfl (by kernel_rfl) ?_
                  refine Wk.rPass 12 (some 134) rfl rfl (by kernel_rfl) ?_
                  refine Wk.rPass 13 (some 135) rfl rfl (by kernel_rfl) ?_
                  refine Wk.rPure 14 (some 136) (.bool false) rfl rfl (by kernel_rfl) (by kernel_rfl) ?_
                  refine Wk.rPure 15 (some 97) (.bool false) rfl rfl (by kernel_rfl) (by kernel_rfl) ?_
                  refine Wk.rEnd 16 rfl ?_
                  refine Wk.nxt ?_
                  refine wp_cond_false (by kernel_rfl) ?_
                  refine wp_skip ?_
                  refine Wk.inN ?_
                  refine Wk.nxt ?_
                  refine Wk.reg ?_
                  refine Wk.rPure 0 (some 137) (.int .u8 4) rfl rfl (by kernel_rfl) (by kernel_rfl) ?_
                  refine Wk.rPure 1 (some 11) (.int .u8 4) rfl rfl (by kernel_rfl) (by kernel_rfl) ?_
                  refine Wk.rEnd 2 rfl ?_
                  refine Wk.inN ?_
                  refine Wk.nxt ?_
                  refine Wk.reg ?_
                  refine Wk.rPure 0 (some 138) (.int .i64 ((k + 1 : Nat) : Int)) rfl rfl (by kernel_rfl) (Wk.int64 (n := ((k : Nat) : Int) + 1) (z := ((k + 1 : Nat) : Int)) (by omega) (by omega) (by omega) (by kernel_rfl)) ?_
                  refine Wk.rPure 1 (some 30) (.int .i64 ((k + 1 : Nat) : Int)) rfl rfl (by kernel_rfl) (by kernel_rfl) ?_
                  refine Wk.rEnd 2 rfl ?_
                  refine Wk.nxt ?_
                  refine ⟨_, ?_, k + 1, 4, ft, fi, rfl, by kernel_rfl, (by omega), hb2, (by simpa using hinv), (fun _ => hfi), ⟨by omega, by omega⟩, kk13⟩
                  · omega
          · by_cases hn4 : (trnTo 1000 0 most budget L k).state = 4
            · obtain rfl : ov = true := by rw [← hov.out]; simpa using hn4
              obtain ⟨he4, _⟩ := hover hn4
              refine ⟨_, rfl, ?_⟩
              refine Wk.rPure 8 (some 14) (.int .u8 5) rfl rfl (by kernel_rfl) (by kernel_rfl) ?_
              refine Wk.rEnd 9 rfl ?_
              refine Wk.nxt ?_
              refine wp_seq ?_
              refine wp_seq ?_
              refine Wk.reg ?_
              refine Wk.rPure 0 (some 55) (.int .u8 5) rfl rfl (by kernel_rfl) (by kernel_rfl) ?_
              refine Wk.rPure 1 (some 56) (.bool false) rfl rfl (by kernel_rfl) (Wk.boolF (b := ((5 : Int) == (2 : Int))) (beq_eq_false_iff_ne.2 (by decide)) (by kernel_rfl)) ?_
              refine Wk.rPure 2 (some 57) (.bool false) rfl rfl (by kernel_rfl) (by kernel_rfl) ?_
              refine Wk.rPass 3 (some 58) rfl rfl (by kernel_rfl) ?_
              refine Wk.rPass 4 (some 59) rfl rfl (by kernel_rfl) ?_
              refine Wk.rPure 5 (some 60) (.bool false) rfl rfl (by kernel_rfl) (by kernel_rfl) ?_
              refine Wk.rEnd 6 rfl ?_
              refine Wk.nxt ?_
              refine wp_cond_false (by kernel_rfl) ?_
              refine wp_skip ?_
              refine Wk.nxt ?_
              refine wp_seq ?_
              refine wp_block ?_
              refine wp_seq ?_
              refine wp_seq ?_
              refine Wk.reg ?_
              refine Wk.rPure 0 (some 64) (.bool true) rfl rfl (by kernel_rfl) (by kernel_rfl) ?_
              refine Wk.rPure 1 (some 65) (.bool true) rfl rfl (by kernel_rfl) (by kernel_rfl) ?_
              refine Wk.rPure 2 (some 66) (.int .u8 5) rfl rfl (by kernel_rfl) (by kernel_rfl) ?_
              refine Wk.rPure 3 (some 67) (.int .u8 last) rfl rfl (by kernel_rfl) (by kernel_rfl) ?_
              refine Wk.rPure 4 (some 68) (.bool false) rfl rfl (by kernel_rfl) (Wk.boolF (b := ((5 : Int) != last)) (bne_eq_false_iff_eq.2 (he4)) (by kernel_rfl)) ?_
              refine Wk.rPure 5 (some 69) (.bool false) rfl rfl (by kernel_rfl) (by kernel_rfl) ?_
              refine Wk.rPure 6 (some 63) (.bool false) rfl rfl (by kernel_rfl) (by kernel_rfl) ?_
              refine Wk.rEnd 7 rfl ?_
              refine Wk.nxt ?_
              refine wp_cond_false (by kernel_rfl) ?_
              refine wp_seq ?_
              refine Wk.reg ?_
              refine Wk.rPure 0 (some 70) (.int .i64 ft) rfl rfl (by kernel_rfl) (by kernel_rfl) ?_
              refine Wk.rPure 1 (some 71) (.bool false) rfl rfl (by kernel_rfl) (Wk.boolF (b := decide (ft > (1 : Int))) (decide_eq_false (by omega)) (by kernel_rfl)) ?_
              refine Wk.rPure 2 (some 63) (.bool false) rfl rfl (by kernel_rfl) (by kernel_rfl) ?_
              refine Wk.rEnd 3 rfl ?_
              refine Wk.nxt ?_
              refine wp_cond_false (by kernel_rfl) ?_
              refine Wk.reg ?_
              refine Wk.rPure 0 (some 72) (.int .u8 5) rfl rfl (by kernel_rfl) (by kernel_rfl) ?_
              refine Wk.rPure 1 (some 73) (.bool false) rfl rfl (by kernel_rfl) (Wk.boolF (b := decide ((5 : Int) > (5 : Int))) (decide_eq_false (by decide)) (by kernel_rfl)) ?_
              refine Wk.rPure 2 (some 63) (.bool false) rfl rfl (by kernel_rfl) (by kernel_rfl) ?_
              refine Wk.rEnd 3 rfl ?_
              refine Wk.nxt ?_
              refine wp_cond_false (by kernel_rfl) ?_
              refine wp_seq ?_
              refine Wk.reg ?_
              refine Wk.rPure 0 (some 75) (.int .u8 5) rfl rfl (by kernel_rfl) (by kernel_rfl) ?_
              refine Wk.rPure 1 (some 76) (.bool false) rfl rfl (by kernel_rfl) (Wk.boolF (b := ((5 : Int) == (3 : Int))) (beq_eq_false_iff_ne.2 (by decide)) (by kernel_rfl)) ?_
              refine Wk.rPure 2 (some 77) (.bool false) rfl rfl (by kernel_rfl) (by kernel_rfl) ?_
              refine Wk.rPass 3 (some 78) rfl rfl (by kernel_rfl) ?_
              refine Wk.rPass 4 (some 79) rfl rfl (by kernel_rfl) ?_
              refine Wk.rPure 5 (some 80) (.bool false) rfl rfl (by kernel_rfl) (by kernel_rfl) ?_
              refine Wk.rPure 6 (some 81) (.bool false) rfl rfl (by kernel_rfl) (by kernel_rfl) ?_
              refine Wk.rPass 7 (some 82) rfl rfl (by kernel_rfl) ?_
              refine Wk.rPass 8 (some 83) rfl rfl (by kernel_rfl) ?_
              refine Wk.rPass 9 (some 84) rfl rfl (by kernel_rfl) ?_
              refine Wk.rPass 10 (some 85) rfl rfl (by kernel_rfl) ?_
              refine Wk.rPass 11 (some 86) rfl rfl (by kernel_rfl) ?_
              refine Wk.rPass 12 (some 87) rfl rfl (by kernel_rfl) ?_
              refine Wk.rPass 13 (some 88) rfl rfl (by kernel_rfl) ?_
              refine Wk.rPure 14 (some 89) (.bool false) rfl rfl (by kernel_rfl) (by kernel_rfl) ?_
              refine Wk.rPure 15 (some 90) (.bool false) rfl rfl (by kernel_rfl) (by kernel_rfl) ?_
              refine Wk.rPass 16 (some 91) rfl rfl (by kernel_rfl) ?_
              refine Wk.rPass 17 (some 92) rfl rfl (by kernel_rfl) ?_
              refine Wk.rPass 18 (some 93) rfl rfl (by kernel_rfl) ?_
              refine Wk.rPass 19 (some 94) rfl rfl (by kernel_rfl) ?_
              refine Wk.rPass 20 (some 95) rfl rfl (by kernel_rfl) ?_
              refine Wk.rPure 21 (some 96) (.bool false) rfl rfl (by kernel_rfl) (by kernel_rfl) ?_
              refine Wk.rPure 22 (some 74) (.bool false) rfl rfl (by kernel_rfl) (by kernel_rfl) ?_
              refine Wk.rEnd 23 rfl ?_
              refine Wk.nxt ?_
              refine wp_cond_false (by kernel_rfl) ?_
              refine wp_seq ?_
              refine wp_seq ?_
              refine Wk.reg ?_
              refine Wk.rPure 0 (some 98) (.int .u8 5) rfl rfl (by kernel_rfl) (by kernel_rfl) ?_
              refine Wk.rPure 1 (some 99) (.bool false) rfl rfl (by kernel_rfl) (Wk.boolF (b := ((5 : Int) == (4 : Int))) (beq_eq_false_iff_ne.2 (by decide)) (by kernel_rfl)) ?_
              refine Wk.rPure 2 (some 100) (.bool false) rfl rfl (by kernel_rfl) (by kernel_rfl) ?_
              refine Wk.rPass 3 (some 101) rfl rfl (by kernel_rfl) ?_
              refine Wk.rPass 4 (some 102) rfl rfl (by kernel_rfl) ?_
              refine Wk.rPure 5 (some 103) (.bool false) rfl rfl (by kernel_rfl) (by kernel_rfl) ?_
              refine Wk.rPure 6 (some 104) (.bool false) rfl rfl (by kernel_rfl) (by kernel_rfl) ?_
              refine Wk.rPass 7 (some 105) rfl rfl (by kernel_rfl) ?_
              refine Wk.rPass 8 (some 106) rfl rfl (by kernel_rfl) ?_
              refine Wk.rPass 9 (some 107) rfl rfl (by kernel_rfl) ?_
              refine Wk.rPass 10 (some 108) rfl rfl (by kernel_rfl) ?_
              refine Wk.rPass 11 (some 109) rfl rfl (by kernel_rfl) ?_
              refine Wk.rPass 12 (some 110) rfl rfl (by kernel_rfl) ?_
              refine Wk.rPass 13 (some 111) rfl rfl (by kernel_rfl) ?_
              refine Wk.rPure 14 (some 112) (.bool false) rfl rfl (by kernel_rfl) (by kernel_rfl) ?_
              refine Wk.rPure 15 (some 113) (.bool false) rfl rfl (by kernel_rfl) (by kernel_rfl) ?_
              refine Wk.rPass 16 (some 114) rfl rfl (by kernel_rfl) ?_
              refine Wk.rPass 17 (some 115) rfl rfl (by kernel_rfl) ?_
              refine Wk.rPass 18 (some 116) rfl rfl (by kernel_rfl) ?_
              refine Wk.rPass 19 (some 117) rfl rfl (by kernel_rfl) ?_
              refine Wk.rPass 20 (some 118) rfl rfl (by kernel_rfl) ?_
              refine Wk.rPass 21 (some 119) rfl rfl (by kernel_rfl) ?_
              refine Wk.rPass 22 (some 120) rfl rfl (by kernel_rfl) ?_
              refine Wk.rPure 23 (some 121) (.bool false) rfl rfl (by kernel_rfl) (by kernel_rfl) ?_
              refine Wk.rPure 24 (some 97) (.bool false) rfl rfl (by kernel_rfl) (by kernel_rfl) ?_
              refine Wk.rEnd 25 rfl ?_
              refine Wk.nxt ?_
              refine wp_cond_false (by kernel_rfl) ?_
              refine Wk.reg ?_
              refine Wk.rPure 0 (some 122) (.int .u8 5) rfl rfl (by kernel_rfl) (by kernel_rfl) ?_
              refine Wk.rPure 1 (some 123) (.bool true) rfl rfl (by kernel_rfl) (Wk.boolT (b := ((5 : Int) == (5 : Int))) (beq_iff_eq.2 (by decide)) (by kernel_rfl)) ?_
              refine Wk.rPure 2 (some 124) (.bool true) rfl rfl (by kernel_rfl) (by kernel_rfl) ?_
              refine Wk.rPure 3 (some 125) (.bool true) rfl rfl (by kernel_rfl) (by kernel_rfl) ?_
              refine Wk.rPure 4 (some 126) (.bool false) rfl rfl (by kernel_rfl) (by kernel_rfl) ?_
              refine Wk.rPure 5 (some 127) (.bool false) rfl rfl (by kernel_rfl) (by kernel_rfl) ?_
              refine Wk.rPure 6 (some 128) (.bool false) rfl rfl (by kernel_rfl) (by kernel_rfl) ?_
              refine Wk.rPass 7 (some 129) rfl rfl (by kernel_rfl) ?_
              refine Wk.rPass 8 (some 130) rfl rfl (by kernel_rfl) ?_
              refine Wk.rPass 9 (some 131) rfl rfl (by kernel_rfl) ?_
              refine Wk.rPass 10 (some 132) rfl rfl (by kernel_rfl) ?_
              refine Wk.rPass 11 (some 133) rfl rfl (by kernel_rfl) ?_
              refine Wk.rPass 12 (some 134) rfl rfl (by kernel_rfl) ?_
              refine Wk.rPass 13 (some 135) rfl rfl (by kernel_rfl) ?_
              refine Wk.rPure 14 (some 136) (.bool false) rfl rfl (by kernel_rfl) (by kernel_rfl) ?_
              refine Wk.rPure 15 (some 97) (.bool false) rfl rfl (by kernel_rfl) (by kernel_rfl) ?_
              refine Wk.rEnd 16 rfl ?_
              refine Wk.nxt ?_
              refine wp_cond_false (by kernel_rfl) ?_
              refine wp_skip ?_
              refine Wk.inN ?_
              refine Wk.nxt ?_
              refine Wk.reg ?_
              refine Wk.rPure 0 (some 137) (.int .u8 5) rfl rfl (by kernel_rfl) (by kernel_rfl) ?_
              refine Wk.rPure 1 (some 11) (.int .u8 5) rfl rfl (by kernel_rfl) (by kernel_rfl) ?_
              refine Wk.rEnd 2 rfl ?_
              refine Wk.inN ?_
              refine Wk.nxt ?_
              refine Wk.reg ?_
              refine Wk.rPure 0 (some 138) (.int .i64 ((k + 1 : Nat) : Int)) rfl rfl (by kernel_rfl) (Wk.int64 (n := ((k : Nat) : Int) + 1) (z := ((k + 1 : Nat) : Int)) (by omega) (by omega) (by omega) (by kernel_rfl)) ?_
              refine Wk.rPure 1 (some 30) (.int .i64 ((k + 1 : Nat) : Int)) rfl rfl (by kernel_rfl) (by kernel_rfl) ?_
              refine Wk.rEnd 2 rfl ?_
              refine Wk.nxt ?_
              have kk14 := Wk.Chg.step HB ch3 ⟨.inr (by omega), trivial⟩
              refine ⟨_, ?_, k + 1, 5, ft, fi, rfl, by kernel_rfl, (by omega), hb2, (by simpa using hinv), (fun _ => hfi), ⟨by omega, by omega⟩, kk14⟩
              · omega
            · obtain rfl : ov = false := by rw [← hov.out]; simpa using hn4
              have hd := hwrong rfl hn4
              obtain rfl : b7 = true := hd
              refine ⟨_, rfl, ?_⟩
              refine Wk.rPure 8 (some 14) (.int .u8 5) rfl rfl (by kernel_rfl) (by kernel_rfl) ?_
              refine Wk.rEnd 9 rfl ?_
              refine Wk.nxt ?_
              refine wp_seq ?_
              refine wp_seq ?_
              refine Wk.reg ?_
              refine Wk.rPure 0 (some 55) (.int .u8 5) rfl rfl (by kernel_rfl) (by kernel_rfl) ?_
              refine Wk.rPure 1 (some 56) (.bool false) rfl rfl (by kernel_rfl) (Wk.boolF (b := ((5 : Int) == (2 : Int))) (beq_eq_false_iff_ne.2 (by decide)) (by kernel_rfl)) ?_
              refine Wk.rPure 2 (some 57) (.bool false) rfl rfl (by kernel_rfl) (by kernel_rfl) ?_
              refine Wk.rPass 3 (some 58) rfl rfl (by kernel_rfl) ?_
              refine Wk.rPass 4 (some 59) rfl rfl (by kernel_rfl) ?_
              refine Wk.rPure 5 (some 60) (.bool false) rfl rfl (by kernel_rfl) (by kernel_rfl) ?_
              refine Wk.rEnd 6 rfl ?_
              refine Wk.nxt ?_
              refine wp_cond_false (by kernel_rfl) ?_
              refine wp_skip ?_
              refine Wk.nxt ?_
              refine wp_seq ?_
              refine wp_block ?_
              refine wp_seq ?_
              refine wp_seq ?_
              refine Wk.reg ?_
              refine Wk.rPure 0 (some 64) (.bool false) rfl rfl (by kernel_rfl) (by kernel_rfl) ?_
              refine Wk.rPure 1 (some 65) (.bool false) rfl rfl (by kernel_rfl) (by kernel_rfl) ?_
              refine Wk.rPass 2 (some 66) rfl rfl (by kernel_rfl) ?_
              refine Wk.rPass 3 (some 67) rfl rfl (by kernel_rfl) ?_
              refine Wk.rPass 4 (some 68) rfl rfl (by kernel_rfl) ?_
              refine Wk.rPure 5 (some 69) (.bool false) rfl rfl (by kernel_rfl) (by kernel_rfl) ?_
              refine Wk.rPure 6 (some 63) (.bool false) rfl rfl (by kernel_rfl) (by kernel_rfl) ?_
              refine Wk.rEnd 7 rfl ?_
              refine Wk.nxt ?_
              refine wp_cond_false (by kernel_rfl) ?_
              refine wp_seq ?_
              refine Wk.reg ?_
              refine Wk.rPure 0 (some 70) (.int .i64 ft) rfl rfl (by kernel_rfl) (by kernel_rfl) ?_
              refine Wk.rPure 1 (some 71) (.bool false) rfl rfl (by kernel_rfl) (Wk.boolF (b := decide (ft > (1 : Int))) (decide_eq_false (by omega)) (by kernel_rfl)) ?_
              refine Wk.rPure 2 (some 63) (.bool false) rfl rfl (by kernel_rfl) (by kernel_rfl) ?_
              refine Wk.rEnd 3 rfl ?_
              refine Wk.nxt ?_
              refine wp_cond_false (by kernel_rfl) ?_
              refine Wk.reg ?_
              refine Wk.rPure 0 (some 72) (.int .u8 5) rfl rfl (by kernel_rfl) (by kernel_rfl) ?_
              refine Wk.rPure 1 (some 73) (.bool false) rfl rfl (by kernel_rfl) (Wk.boolF (b := decide ((5 : Int) > (5 : Int))) (decide_eq_false (by decide)) (by kernel_rfl)) ?_
              refine Wk.rPure 2 (some 63) (.bool false) rfl rfl (by kernel_rfl) (by kernel_rfl) ?_
              refine Wk.rEnd 3 rfl ?_
              refine Wk.nxt ?_
              refine wp_cond_false (by kernel_rfl) ?_
              refine wp_seq ?_
              refine Wk.reg ?_
              refine Wk.rPure 0 (some 75) (.int .u8 5) rfl rfl (by kernel_rfl) (by kernel_rfl) ?_
              refine Wk.rPure 1 (some 76) (.bool false) rfl rfl (by kernel_rfl) (Wk.boolF (b := ((5 : Int) == (3 : Int))) (beq_eq_false_iff_ne.2 (by decide)) (by kernel_rfl)) ?_
              refine Wk.rPure 2 (some 77) (.bool false) rfl rfl (by kernel_rfl) (by kernel_rfl) ?_
              refine Wk.rPass 3 (some 78) rfl rfl (by kernel_rfl) ?_
              refine Wk.rPass 4 (some 79) rfl rfl (by kernel_rfl) ?_
              refine Wk.rPure 5 (some 80) (.bool false) rfl rfl (by kernel_rfl) (by kernel_rfl) ?_
              refine Wk.rPure 6 (some 81) (.bool false) rfl rfl (by kernel_rfl) (by kernel_rfl) ?_
              refine Wk.rPass 7 (some 82) rfl rfl (by kernel_rfl) ?_
              refine Wk.rPass 8 (some 83) rfl rfl (by kernel_rfl) ?_
              refine Wk.rPass 9 (some 84) rfl rfl (by kernel_rfl) ?_
              refine Wk.rPass 10 (some 85) rfl rfl (by kernel_rfl) ?_
              refine Wk.rPass 11 (some 86) rfl rfl (by kernel_rfl) ?_
              refine Wk.rPass 12 (some 87) rfl rfl (by kernel_rfl) ?_
              refine Wk.rPass 13 (some 88) rfl rfl (by kernel_rfl) ?_
              refine Wk.rPure 14 (some 89) (.bool false) rfl rfl (by kernel_rfl) (by kernel_rfl) ?_
              refine Wk.rPure 15 (some 90) (.bool false) rfl rfl (by kernel_rfl) (by kernel_rfl) ?_
              refine Wk.rPass 16 (some 91) rfl rfl (by kernel_rfl) ?_
              refine Wk.rPass 17 (some 92) rfl rfl (by kernel_rfl) ?_
              refine Wk.rPass 18 (some 93) rfl rfl (by kernel_rfl) ?_
              refine Wk.rPass 19 (some 94) rfl rfl (by kernel_rfl) ?_
              refine Wk.rPass 20 (some 95) rfl rfl (by kernel_rfl) ?_
              refine Wk.rPure 21 (some 96) (.bool false) rfl rfl (by kernel_rfl) (by kernel_rfl) ?_
              refine Wk.rPure 22 (some 74) (.bool false) rfl rfl (by kernel_rfl) (by kernel_rfl) ?_
              refine Wk.rEnd 23 rfl ?_
              refine Wk.nxt ?_
              refine wp_cond_false (by kernel_rfl) ?_
              refine wp_seq ?_
              refine wp_seq ?_
              refine Wk.reg ?_
              refine Wk.rPure 0 (some 98) (.int .u8 5) rfl rfl (by kernel_rfl) (by kernel_rfl) ?_
              refine Wk.rPure 1 (some 99) (.bool false) rfl rfl (by kernel_rfl) (Wk.boolF (b := ((5 : Int) == (4 : Int))) (beq_eq_false_iff_ne.2 (by decide)) (by kernel_rfl)) ?_
              refine Wk.rPure 2 (some 100) (.bool false) rfl rfl (by kernel_rfl) (by kernel_rfl) ?_
              refine Wk.rPass 3 (some 101) rfl rfl (by kernel_rfl) ?_
              refine Wk.rPass 4 (some 102) rfl rfl (by kernel_rfl) ?_
              refine Wk.rPure 5 (some 103) (.bool false) rfl rfl (by kernel_rfl) (by kernel_rfl) ?_
              refine Wk.rPure 6 (some 104) (.bool false) rfl rfl (by kernel_rfl) (by kernel_rfl) ?_
              refine Wk.rPass 7 (some 105) rfl rfl (by kernel_rfl) ?_
              refine Wk.rPass 8 (some 106) rfl rfl (by kernel_rfl) ?_
              refine Wk.rPass 9 (some 107) rfl rfl (by kernel_rfl) ?_
              refine Wk.rPass 10 (some 108) rfl rfl (by kernel_rfl) ?_
              refine Wk.rPass 11 (some 109) rfl rfl (by kernel_rfl) ?_
              refine Wk.rPass 12 (some 110) rfl rfl (by kernel_rfl) ?_
              refine Wk.rPass 13 (some 111) rfl rfl (by kernel_rfl) ?_
              refine Wk.rPure 14 (some 112) (.bool false) rfl rfl (by kernel_rfl) (by kernel_rfl) ?_
              refine Wk.rPure 15 (some 113) (.bool false) rfl rfl (by kernel_rfl) (by kernel_rfl) ?_
              refine Wk.rPass 16 (some 114) rfl rfl (by kernel_rfl) ?_
              refine Wk.rPass 17 (some 115) rfl rfl (by kernel_rfl) ?_
              refine Wk.rPass 18 (some 116) rfl rfl (by kernel_rfl) ?_
              refine Wk.rPass 19 (some 117) rfl rfl (by kernel_rfl) ?_
              refine Wk.rPass 20 (some 118) rfl rfl (by kernel_rfl) ?_
              refine Wk.rPass 21 (some 119) rfl rfl (by kernel_rfl) ?_
              refine Wk.rPass 22 (some 120) rfl rfl (by kernel_rfl) ?_
              refine Wk.rPure 23 (some 121) (.bool false) rfl rfl (by kernel_rfl) (by kernel_rfl) ?_
              refine Wk.rPure 24 (some 97) (.bool false) rfl rfl (by kernel_rfl) (by kernel_rfl) ?_
              refine Wk.rEnd 25 rfl ?_
              refine Wk.nxt ?_
              refine wp_cond_false (by kernel_rfl) ?_
              refine Wk.reg ?_
              refine Wk.rPure 0 (some 122) (.int .u8 5) rfl rfl (by kernel_rfl) (by kernel_rfl) ?_
              refine Wk.rPure 1 (some 123) (.bool true) rfl rfl (by kernel_rfl) (Wk.boolT (b := ((5 : Int) == (5 : Int))) (beq_iff_eq.2 (by decide)) (by kernel_rfl)) ?_
              refine Wk.rPure 2 (some 124) (.bool true) rfl rfl (by kernel_rfl) (by kernel_rfl) ?_
              refine Wk.rPure 3 (some 125) (.bool false) rfl rfl (by kernel_rfl) (by kernel_rfl) ?_
              refine Wk.rPure 4 (some 126) (.bool true) rfl rfl (by kernel_rfl) (by kernel_rfl) ?_
              refine Wk.rPure 5 (some 127) (.bool true) rfl rfl (by kernel_rfl) (by kernel_rfl) ?_
              refine Wk.rPure 6 (some 128) (.bool true) rfl rfl (by kernel_rfl) (by kernel_rfl) ?_
              refine Wk.rPure 7 (some 129) (.slice (some ⟨g, off, none⟩) n c) rfl rfl (by kernel_rfl) (by kernel_rfl) ?_
              refine Wk.rPure 8 (some 130) (.int .i64 ((k : Nat) : Int)) rfl rfl (by kernel_rfl) (by kernel_rfl) ?_
              refine Wk.rPure 9 (some 131) (.pointer (some ⟨g, off + k * 9, none⟩)) rfl rfl (by kernel_rfl) (Wk.index_sl 22 30 (.tmp 129) (.tmp 130) rfl Try.underlying22 9 (by kernel_rfl) g off n c k .i64 (by kernel_rfl) (by kernel_rfl) (by omega)) ?_
              refine Wk.rPure 10 (some 132) (.pointer (some ⟨g, off + k * 9 + 1, none⟩)) rfl rfl (by kernel_rfl) (by kernel_rfl) ?_
              refine Wk.rPure 11 (some 133) (.pointer (some ⟨g, off + k * 9 + 1 + 7, none⟩)) rfl rfl (by kernel_rfl) (by kernel_rfl) ?_
              have kk15 := Wk.Chg.step HB ch3 ⟨.inr (by omega), trivial⟩
              refine Wk.rPure 12 (some 134) (.bool true) rfl rfl (by kernel_rfl) (Wk.load1 4 (.tmp 133) rfl (by kernel_rfl) ⟨g, off + k * 9 + 1 + 7, none⟩ (by kernel_rfl) (.bool true) (Wk.Chg.cell kk15 (qF 7 (.bool true) rfl) trivial)) ?_
              refine Wk.rPure 13 (some 135) (.bool false) rfl rfl (by kernel_rfl) (by kernel_rfl) ?_
              refine Wk.rPure 14 (some 136) (.bool false) rfl rfl (by kernel_rfl) (by kernel_rfl) ?_
              refine Wk.rPure 15 (some 97) (.bool false) rfl rfl (by kernel_rfl) (by kernel_rfl) ?_
              refine Wk.rEnd 16 rfl ?_
              refine Wk.nxt ?_
              refine wp_cond_false (by kernel_rfl) ?_
              refine wp_skip ?_
              refine Wk.inN ?_
              refine Wk.nxt ?_
              refine Wk.reg ?_
              refine Wk.rPure 0 (some 137) (.int .u8 5) rfl rfl (by kernel_rfl) (by kernel_rfl) ?_
              refine Wk.rPure 1 (some 11) (.int .u8 5) rfl rfl (by kernel_rfl) (by kernel_rfl) ?_
              refine Wk.rEnd 2 rfl ?_
              refine Wk.inN ?_
              refine Wk.nxt ?_
              refine Wk.reg ?_
              refine Wk.rPure 0 (some 138) (.int .i64 ((k + 1 : Nat) : Int)) rfl rfl (by kernel_rfl) (Wk.int64 (n := ((k : Nat) : Int) + 1) (z := ((k + 1 : Nat) : Int)) (by omega) (by omega) (by omega) (by kernel_rfl)) ?_
              refine Wk.rPure 1 (some 30) (.int .i64 ((k + 1 : Nat) : Int)) rfl rfl (by kernel_rfl) (by kernel_rfl) ?_
              refine Wk.rEnd 2 rfl ?_
              refine Wk.nxt ?_
              refine ⟨_, ?_, k + 1, 5, ft, fi, rfl, by kernel_rfl, (by omega), hb2, (by simpa using hinv), (fun _ => hfi), ⟨by omega, by omega⟩, kk15⟩
              · omega
      · refine wp_seq ?_
        refine Wk.reg ?_
        refine Wk.rPure 0 (some 31) (.bool false) rfl rfl (by kernel_rfl) (Wk.boolF (b := decide (((k : Nat) : Int) < ((n : Nat) : Int))) (decide_eq_false (by omega)) (by kernel_rfl)) ?_
        refine Wk.rEnd 1 rfl ?_
        refine Wk.nxt ?_
        refine wp_seq ?_
        refine wp_cond_false (by kernel_rfl) ?_
        refine wp_exit ?_
        refine Wk.thX ?_
        refine Wk.thX ?_
        refine Wk.inX ?_
        refine Wk.nxt ?_
        refine wp_seq ?_
        refine Wk.reg ?_
        refine Wk.rEx 0 (some 15) _ rfl rfl (by kernel_rfl) (Wk.new_ex (.pointer (some ⟨W3.heap.size, 0, none⟩)) #[.int .i64 0, .int .i64 0, .int .i64 0, .bool false, .int .i64 0, .bool false, .int .i64 0, .int .u8 0] 41 (by kernel_rfl)) ?_
        rintro _ W5 ⟨rfl, hb3, ch4, sz2⟩
        have zz4 := ch4.size
        refine Wk.rEnd 1 rfl ?_
        refine Wk.nxt ?_
        refine wp_seq ?_
        refine Wk.reg ?_
        refine Wk.rPure 0 (some 16) (.pointer none) rfl rfl (by kernel_rfl) (by kernel_rfl) ?_
        refine Wk.rEnd 1 rfl ?_
        refine Wk.nxt ?_
        refine wp_seq ?_
        refine Wk.reg ?_
        refine Wk.rPure 0 (some 139) (.agg #[.bool false, .bool false, .bool false, .bool true, .bool false, .bool false, .bool false, .bool false]) rfl rfl (by kernel_rfl) (by kernel_rfl) ?_
        refine Wk.rCall 1 (some 140) 10 [.tmp 15, .const (.int .i64 1), .tmp 139] #[41, 3, 28] [.pointer (some ⟨W3.heap.size, 0, none⟩), .int .i64 1, .agg #[.bool false, .bool false, .bool false, .bool true, .bool false, .bool false, .bool false, .bool false]] rfl rfl (by kernel_rfl) rfl (by kernel_rfl) (by kernel_rfl) ?_
        refine (Step_any ⟨0, 0, 0, false, 0, false, 0, 0⟩ 1 (⟨false, false, false, true, false, false, false, false⟩ : Fct) W3.heap.size _ hb3 ⟨by decide, by decide, by decide, by decide⟩ (by decide)).mono ?_
        rintro _ W6 ⟨rfl, hu1⟩
        have ch5 := Mur.Upd.chg hu1
        replace hu1 := hu1.self
        have zz5 := ch5.size
        refine ⟨_, rfl, ?_⟩
        refine Wk.rPure 2 (some 141) (.bool true) rfl rfl (by kernel_rfl) (Wk.boolT (b := ((0 : Int) == (0 : Int))) (beq_iff_eq.2 (by decide)) (by kernel_rfl)) ?_
        refine Wk.rPure 3 (some 142) (.bool true) rfl rfl (by kernel_rfl) (by kernel_rfl) ?_
        refine Wk.rPure 4 (some 143) (.pointer none) rfl rfl (by kernel_rfl) (by kernel_rfl) ?_
        refine Wk.rPure 5 (some 144) (.agg #[.bool false, .bool false, .bool false, .bool false, .bool false, .bool false, .bool false, .bool false]) rfl rfl (by kernel_rfl) (by kernel_rfl) ?_
        refine Wk.rCall 6 (some 145) 10 [.tmp 143, .const (.int .i64 1), .tmp 144] #[23, 3, 28] [.pointer none, .int .i64 1, .agg #[.bool false, .bool false, .bool false, .bool false, .bool false, .bool false, .bool false, .bool false]] rfl rfl (by kernel_rfl) rfl (by kernel_rfl) (by kernel_rfl) ?_
        refine (Step_nil 1 (⟨false, false, false, false, false, false, false, false⟩ : Fct) W6).mono ?_
        rintro _ W7 ⟨rfl, hw1⟩
        have ch6 : Wk.Chg [] W6 W7 := by rw [hw1]; exact Wk.Chg.alloc _ _
        have zz6 := ch6.size
        refine ⟨_, rfl, ?_⟩
        refine Wk.rPure 7 (some 146) (.bool true) rfl rfl (by kernel_rfl) (Wk.boolT (b := ((0 : Int) == (0 : Int))) (beq_iff_eq.2 (by decide)) (by kernel_rfl)) ?_
        refine Wk.rPure 8 (some 147) (.bool true) rfl rfl (by kernel_rfl) (by kernel_rfl) ?_
        refine Wk.rPure 9 (some 148) (.bool true) rfl rfl (by kernel_rfl) (by kernel_rfl) ?_
        refine Wk.rCall 10 (some 149) 11 [.tmp 15] #[41] [.pointer (some ⟨W3.heap.size, 0, none⟩)] rfl rfl (by kernel_rfl) rfl (by kernel_rfl) (by kernel_rfl) ?_
        refine (Over_any ⟨0, 0, 0, false, 0, false, 0, 0⟩ W3.heap.size _ (Wk.Chg.hp ch6 hu1 trivial)).mono ?_
        rintro _ _ ⟨rfl, rfl⟩
        refine ⟨_, rfl, ?_⟩
        refine Wk.rPure 11 (some 150) (.bool true) rfl rfl (by kernel_rfl) (by kernel_rfl) ?_
        refine Wk.rPure 12 (some 151) (.bool true) rfl rfl (by kernel_rfl) (by kernel_rfl) ?_
        refine Wk.rPure 13 (some 152) (.bool true) rfl rfl (by kernel_rfl) (by kernel_rfl) ?_
        refine Wk.rPure 14 (some 153) (.pointer none) rfl rfl (by kernel_rfl) (by kernel_rfl) ?_
        refine Wk.rCall 15 (some 154) 11 [.tmp 153] #[23] [.pointer none] rfl rfl (by kernel_rfl) rfl (by kernel_rfl) (by kernel_rfl) ?_
        refine (Over_nil W7).mono ?_
        rintro _ _ ⟨rfl, rfl⟩
        refine ⟨_, rfl, ?_⟩
        refine Wk.rPure 16 (some 155) (.bool true) rfl rfl (by kernel_rfl) (by kernel_rfl) ?_
        refine Wk.rPure 17 (some 156) (.bool true) rfl rfl (by kernel_rfl) (by kernel_rfl) ?_
        refine Wk.rPure 18 (some 157) (.bool true) rfl rfl (by kernel_rfl) (by kernel_rfl) ?_
        refine Wk.rCall 19 (some 158) 8 [] #[] [] rfl rfl (by kernel_rfl) rfl (by kernel_rfl) (by kernel_rfl) ?_
        refine (known_any W7).mono ?_
        rintro _ W8 ⟨rfl, hB2⟩
        have ch7 := Wk.Chg.ofBelow hB2
        have zz7 := ch7.size
        refine ⟨_, rfl, ?_⟩
        refine Wk.rPure 20 (some 159) (.bool true) rfl rfl (by kernel_rfl) (by kernel_rfl) ?_
        refine Wk.rPure 21 (some 6) (.bool true) rfl rfl (by kernel_rfl) (by kernel_rfl) ?_
        refine Wk.rEnd 22 rfl ?_
        refine Wk.nxt ?_
        refine wp_ret ?_
        have kk16 := Wk.Chg.step HB ch4 trivial
        have kk17 := Wk.Chg.step kk16 ch5 ⟨.inr (by omega), trivial⟩
        have kk18 := Wk.Chg.step kk17 ch6 trivial
        have kk19 := Wk.Chg.step kk18 ch7 trivial
        refine Wk.ret (.bool true) rfl (by kernel_rfl) ?_
        exact ⟨rfl, Wk.Chg.below0 kk19⟩
end Go.Proofs.Ytidhohnhhhooaaa
