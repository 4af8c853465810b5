/- DiskAgain, walked. -/
import Derived.Test.YtddabjlhidokaaaDkK
import Derived.Test.YtddabjlhidokaaaDkTwo
namespace Go.Proofs.Ytddabjlhidokaaa
open Go.RowKit
open Mur (Fil Dk Dsk DskF Byt b8s foot hasF fE)
set_option maxRecDepth 100000
set_option maxHeartbeats 4000000
def Again_F1 (b : Array Value) (u1 : Value) (u2 : Value) (u7 : Value) (u9 : Value) (u10 : Value) (u44 : Value) (u45 : Value) (u46 : Value) : Act := ⟨#[b.getD 0 undef, u1, u2, b.getD 3 undef, b.getD 4 undef, b.getD 5 undef, b.getD 6 undef, u7, b.getD 8 undef, u9, u10, b.getD 11 undef, b.getD 12 undef, b.getD 13 undef, b.getD 14 undef, b.getD 15 undef, b.getD 16 undef, b.getD 17 undef, b.getD 18 undef, b.getD 19 undef, b.getD 20 undef, b.getD 21 undef, b.getD 22 undef, b.getD 23 undef, b.getD 24 undef, b.getD 25 undef, b.getD 26 undef, b.getD 27 undef, b.getD 28 undef, b.getD 29 undef, b.getD 30 undef, b.getD 31 undef, b.getD 32 undef, b.getD 33 undef, b.getD 34 undef, b.getD 35 undef, b.getD 36 undef, b.getD 37 undef, b.getD 38 undef, b.getD 39 undef, b.getD 40 undef, b.getD 41 undef, b.getD 42 undef, b.getD 43 undef, u44, u45, u46, b.getD 47 undef, b.getD 48 undef, b.getD 49 undef, b.getD 50 undef, b.getD 51 undef, b.getD 52 undef, b.getD 53 undef, b.getD 54 undef, b.getD 55 undef, b.getD 56 undef, b.getD 57 undef, b.getD 58 undef, b.getD 59 undef, b.getD 60 undef, b.getD 61 undef, b.getD 62 undef, b.getD 63 undef, b.getD 64 undef, b.getD 65 undef, b.getD 66 undef, b.getD 67 undef, b.getD 68 undef, b.getD 69 undef, b.getD 70 undef, b.getD 71 undef, b.getD 72 undef, b.getD 73 undef, b.getD 74 undef, b.getD 75 undef, b.getD 76 undef, b.getD 77 undef, b.getD 78 undef, b.getD 79 undef, b.getD 80 undef, b.getD 81 undef, b.getD 82 undef, b.getD 83 undef, b.getD 84 undef, b.getD 85 undef, b.getD 86 undef, b.getD 87 undef, b.getD 88 undef, b.getD 89 undef, b.getD 90 undef, b.getD 91 undef, b.getD 92 undef, b.getD 93 undef, b.getD 94 undef, b.getD 95 undef, b.getD 96 undef, b.getD 97 undef, b.getD 98 undef, b.getD 99 undef, b.getD 100 undef, b.getD 101 undef, b.getD 102 undef, b.getD 103 undef, b.getD 104 undef, b.getD 105 undef, b.getD 106 undef, b.getD 107 undef, b.getD 108 undef, b.getD 109 undef, b.getD 110 undef, b.getD 111 undef, b.getD 112 undef, b.getD 113 undef, b.getD 114 undef, b.getD 115 undef, b.getD 116 undef, b.getD 117 undef, b.getD 118 undef, b.getD 119 undef, b.getD 120 undef, b.getD 121 undef, b.getD 122 undef, b.getD 123 undef, b.getD 124 undef, b.getD 125 undef, b.getD 126 undef, b.getD 127 undef, b.getD 128 undef, b.getD 129 undef, b.getD 130 undef, b.getD 131 undef, b.getD 132 undef, b.getD 133 undef, b.getD 134 undef, b.getD 135 undef, b.getD 136 undef, b.getD 137 undef, b.getD 138 undef, b.getD 139 undef, b.getD 140 undef, b.getD 141 undef, b.getD 142 undef, b.getD 143 undef], []⟩
theorem again_any (A : Option Addr) (n c : Nat) (L : List Mur.Dop) (Z : Option Addr) (nz cz : Nat) (zs : List UInt8) (cut q0 q1 : Int) (w : World) (hl : Mur.Dops w A n L) (hnc : n ≤ c ∧ n ≤ 9223372036854775807) (hz : Byt w Z nz zs) (hznc : nz ≤ cz) (hznil : Z = none → cz = 0) : Calls Try.prog 5 #[.slice A n c, .slice Z nz cz, .int .i64 cut, .agg #[.int .i64 q0, .int .i64 q1]] w fun e w' => e = .returned (.bool true) ∧ Below w.heap.size w w' := by
  have HL := Go.Lib.hid hl
  clear hl
  have hn := hnc.2
  refine calls_of_wp Try.func5 rfl ?_
  refine wp_seq ?_
  refine Wk.reg ?_
  refine Wk.rEx 0 (some 7) _ rfl rfl (by kernel_rfl) (Wk.new_ex (.pointer (some ⟨w.heap.size, 0, none⟩)) #[.int .i64 q0, .int .i64 q1] 27 (by kernel_rfl)) ?_
  rintro _ W1 ⟨rfl, hb1, ch1, sz1⟩
  have zz1 := ch1.size
  refine Wk.rPure 1 (some 8) (.bool false) rfl rfl (by kernel_rfl) (by kernel_rfl) ?_
  refine Wk.rEnd 2 rfl ?_
  refine Wk.nxt ?_
  refine wp_seq ?_
  refine Wk.reg ?_
  refine Wk.rCall 0 (some 17) 8 [] #[] [] rfl rfl (by kernel_rfl) rfl (by kernel_rfl) (by kernel_rfl) ?_
  refine (New_any W1).mono ?_
  rintro _ W2 ⟨FF1, rfl, hD1, ch2⟩
  have hM1 := Mur.DskF.mem hD1
  have zz2 : W1.heap.size < W2.heap.size := Mur.DskF.lt hD1
  have zz3 := ch2.size
  refine ⟨_, rfl, ?_⟩
  refine Wk.rCall 1 (some 18) 8 [] #[] [] rfl rfl (by kernel_rfl) rfl (by kernel_rfl) (by kernel_rfl) ?_
  refine (New_any W2).mono ?_
  rintro _ W3 ⟨FF2, rfl, hD2, ch3⟩
  have hM2 := Mur.DskF.mem hD2
  have zz4 : W2.heap.size < W3.heap.size := Mur.DskF.lt hD2
  have zz5 := ch3.size
  refine ⟨_, rfl, ?_⟩
  refine Wk.rPure 2 (some 9) (.pointer (some ⟨W1.heap.size, 0, none⟩)) rfl rfl (by kernel_rfl) (by kernel_rfl) ?_
  refine Wk.rPure 3 (some 10) (.pointer (some ⟨W2.heap.size, 0, none⟩)) rfl rfl (by kernel_rfl) (by kernel_rfl) ?_
  refine Wk.rEnd 4 rfl ?_
  refine Wk.nxt ?_
  refine wp_seq ?_
  refine wp_seq ?_
  refine Wk.reg ?_
  refine Wk.rPure 0 (some 19) (.pointer (some ⟨W1.heap.size, 0, none⟩)) rfl rfl (by kernel_rfl) (by kernel_rfl) ?_
  refine Wk.rPure 1 (some 20) (.bool false) rfl rfl (by kernel_rfl) (by kernel_rfl) ?_
  refine Wk.rPure 2 (some 21) (.bool false) rfl rfl (by kernel_rfl) (by kernel_rfl) ?_
  refine Wk.rPure 3 (some 22) (.pointer (some ⟨W2.heap.size, 0, none⟩)) rfl rfl (by kernel_rfl) (by kernel_rfl) ?_
  refine Wk.rPure 4 (some 23) (.bool false) rfl rfl (by kernel_rfl) (by kernel_rfl) ?_
  refine Wk.rPure 5 (some 24) (.bool false) rfl rfl (by kernel_rfl) (by kernel_rfl) ?_
  refine Wk.rPure 6 (some 25) (.bool false) rfl rfl (by kernel_rfl) (by kernel_rfl) ?_
  refine Wk.rPure 7 (some 26) (.slice A n c) rfl rfl (by kernel_rfl) (by kernel_rfl) ?_
  refine Wk.rPure 8 (some 27) (.int .i64 ((n : Nat) : Int)) rfl rfl (by kernel_rfl) (by kernel_rfl) ?_
  by_cases hx1 : ((n : Nat) : Int) > (40 : Int)
  · refine Wk.rPure 9 (some 28) (.bool true) rfl rfl (by kernel_rfl) (Wk.boolT (b := decide (((n : Nat) : Int) > (40 : Int))) (decide_eq_true (by first | exact hx1 | omega)) (by kernel_rfl)) ?_
    refine Wk.rPure 10 (some 29) (.bool true) rfl rfl (by kernel_rfl) (by kernel_rfl) ?_
    refine Wk.rPure 11 (some 30) (.bool true) rfl rfl (by kernel_rfl) (by kernel_rfl) ?_
    refine Wk.rPass 12 (some 31) rfl rfl (by kernel_rfl) ?_
    refine Wk.rPass 13 (some 32) rfl rfl (by kernel_rfl) ?_
    refine Wk.rPass 14 (some 33) rfl rfl (by kernel_rfl) ?_
    refine Wk.rPure 15 (some 34) (.bool true) rfl rfl (by kernel_rfl) (by kernel_rfl) ?_
    refine Wk.rEnd 16 rfl ?_
    refine Wk.nxt ?_
    refine wp_cond_true (by kernel_rfl) ?_
    refine wp_seq ?_
    refine Wk.reg ?_
    refine Wk.rPure 0 (some 35) (.pointer (some ⟨W1.heap.size, 0, none⟩)) rfl rfl (by kernel_rfl) (by kernel_rfl) ?_
    refine Wk.rPure 1 (some 36) (.bool true) rfl rfl (by kernel_rfl) (by kernel_rfl) ?_
    refine Wk.rPure 2 (some 37) (.bool true) rfl rfl (by kernel_rfl) (by kernel_rfl) ?_
    refine Wk.rPure 3 (some 38) (.pointer (some ⟨W2.heap.size, 0, none⟩)) rfl rfl (by kernel_rfl) (by kernel_rfl) ?_
    refine Wk.rPure 4 (some 39) (.bool true) rfl rfl (by kernel_rfl) (by kernel_rfl) ?_
    refine Wk.rPure 5 (some 40) (.bool true) rfl rfl (by kernel_rfl) (by kernel_rfl) ?_
    refine Wk.rPure 6 (some 41) (.bool true) rfl rfl (by kernel_rfl) (by kernel_rfl) ?_
    refine Wk.rCall 7 (some 42) 9 [] #[] [] rfl rfl (by kernel_rfl) rfl (by kernel_rfl) (by kernel_rfl) ?_
    refine (known_any W3).mono ?_
    rintro _ W4 ⟨rfl, hB1⟩
    have ch4 := Wk.Chg.ofBelow hB1
    have zz6 := ch4.size
    refine ⟨_, rfl, ?_⟩
    refine Wk.rPure 8 (some 43) (.bool true) rfl rfl (by kernel_rfl) (by kernel_rfl) ?_
    refine Wk.rPure 9 (some 8) (.bool true) rfl rfl (by kernel_rfl) (by kernel_rfl) ?_
    refine Wk.rEnd 10 rfl ?_
    refine Wk.nxt ?_
    refine wp_ret ?_
    refine Wk.thR ?_
    have kk1 : Wk.Chg [] w W1 := Wk.Chg.step ((Wk.Chg.refl _).more (by simp)) ch1 trivial
    have kk2 := Wk.Chg.step kk1 ch2 trivial
    have kk3 := Wk.Chg.step kk2 ch3 trivial
    have kk4 := Wk.Chg.step kk3 ch4 trivial
    refine Wk.ret (.bool true) rfl (by kernel_rfl) ?_
    exact ⟨rfl, Wk.Chg.below0 kk4⟩
  · refine Wk.rPure 9 (some 28) (.bool false) rfl rfl (by kernel_rfl) (Wk.boolF (b := decide (((n : Nat) : Int) > (40 : Int))) (decide_eq_false (by first | exact hx1 | omega)) (by kernel_rfl)) ?_
    refine Wk.rPure 10 (some 29) (.bool false) rfl rfl (by kernel_rfl) (by kernel_rfl) ?_
    refine Wk.rPure 11 (some 30) (.bool false) rfl rfl (by kernel_rfl) (by kernel_rfl) ?_
    refine Wk.rPure 12 (some 31) (.slice Z nz cz) rfl rfl (by kernel_rfl) (by kernel_rfl) ?_
    refine Wk.rPure 13 (some 32) (.int .i64 ((nz : Nat) : Int)) rfl rfl (by kernel_rfl) (by kernel_rfl) ?_
    by_cases hx2 : ((nz : Nat) : Int) > (1000 : Int)
    · refine Wk.rPure 14 (some 33) (.bool true) rfl rfl (by kernel_rfl) (Wk.boolT (b := decide (((nz : Nat) : Int) > (1000 : Int))) (decide_eq_true (by first | exact hx2 | omega)) (by kernel_rfl)) ?_
      refine Wk.rPure 15 (some 34) (.bool true) rfl rfl (by kernel_rfl) (by kernel_rfl) ?_
      refine Wk.rEnd 16 rfl ?_
      refine Wk.nxt ?_
      refine wp_cond_true (by kernel_rfl) ?_
      refine wp_seq ?_
      refine Wk.reg ?_
      refine Wk.rPure 0 (some 35) (.pointer (some ⟨W1.heap.size, 0, none⟩)) rfl rfl (by kernel_rfl) (by kernel_rfl) ?_
      refine Wk.rPure 1 (some 36) (.bool true) rfl rfl (by kernel_rfl) (by kernel_rfl) ?_
      refine Wk.rPure 2 (some 37) (.bool true) rfl rfl (by kernel_rfl) (by kernel_rfl) ?_
      refine Wk.rPure 3 (some 38) (.pointer (some ⟨W2.heap.size, 0, none⟩)) rfl rfl (by kernel_rfl) (by kernel_rfl) ?_
      refine Wk.rPure 4 (some 39) (.bool true) rfl rfl (by kernel_rfl) (by kernel_rfl) ?_
      refine Wk.rPure 5 (some 40) (.bool true) rfl rfl (by kernel_rfl) (by kernel_rfl) ?_
      refine Wk.rPure 6 (some 41) (.bool true) rfl rfl (by kernel_rfl) (by kernel_rfl) ?_
      refine Wk.rCall 7 (some 42) 9 [] #[] [] rfl rfl (by kernel_rfl) rfl (by kernel_rfl) (by kernel_rfl) ?_
      refine (known_any W3).mono ?_
      rintro _ W5 ⟨rfl, hB2⟩
      have ch5 := Wk.Chg.ofBelow hB2
      have zz7 := ch5.size
      refine ⟨_, rfl, ?_⟩
      refine Wk.rPure 8 (some 43) (.bool true) rfl rfl (by kernel_rfl) (by kernel_rfl) ?_
      refine Wk.rPure 9 (some 8) (.bool true) rfl rfl (by kernel_rfl) (by kernel_rfl) ?_
      refine Wk.rEnd 10 rfl ?_
      refine Wk.nxt ?_
      refine wp_ret ?_
      refine Wk.thR ?_
      have kk5 : Wk.Chg [] w W1 := Wk.Chg.step ((Wk.Chg.refl _).more (by simp)) ch1 trivial
      have kk6 := Wk.Chg.step kk5 ch2 trivial
      have kk7 := Wk.Chg.step kk6 ch3 trivial
      have kk8 := Wk.Chg.step kk7 ch5 trivial
      refine Wk.ret (.bool true) rfl (by kernel_rfl) ?_
      exact ⟨rfl, Wk.Chg.below0 kk8⟩
    · refine Wk.rPure 14 (some 33) (.bool false) rfl rfl (by kernel_rfl) (Wk.boolF (b := decide (((nz : Nat) : Int) > (1000 : Int))) (decide_eq_false (by first | exact hx2 | omega)) (by kernel_rfl)) ?_
      refine Wk.rPure 15 (some 34) (.bool false) rfl rfl (by kernel_rfl) (by kernel_rfl) ?_
      refine Wk.rEnd 16 rfl ?_
      refine Wk.nxt ?_
      refine wp_cond_false (by kernel_rfl) ?_
      refine wp_skip ?_
      refine Wk.nxt ?_
      refine wp_seq ?_
      refine wp_seq ?_
      refine Wk.reg ?_
      refine Wk.rPure 0 (some 44) (.slice A n c) rfl rfl (by kernel_rfl) (by kernel_rfl) ?_
      refine Wk.rPure 1 (some 45) (.int .i64 ((n : Nat) : Int)) rfl rfl (by kernel_rfl) (by kernel_rfl) ?_
      refine Wk.rPure 2 (some 46) (.int .i64 0) rfl rfl (by kernel_rfl) (by kernel_rfl) ?_
      refine Wk.rEnd 3 rfl ?_
      refine Wk.nxt ?_
      refine wp_block ?_
      refine Wk.loop (fun m_ a wr => ∃ (k : Nat) (d : Dk) (F1 : List Nat) (F2 : List Nat), m_ = n - k ∧ a = Again_F1 a.tmps (.slice Z nz cz) (.int .i64 cut) (.pointer (some ⟨w.heap.size, 0, none⟩)) (.pointer (some ⟨W1.heap.size, 0, none⟩)) (.pointer (some ⟨W2.heap.size, 0, none⟩)) (.slice A n c) (.int .i64 ((n : Nat) : Int)) (.int .i64 ((k : Nat) : Int)) ∧ k ≤ n ∧ DskF 5 51 wr W1.heap.size d F1 ∧ DskF 5 51 wr W2.heap.size d F2 ∧ Mur.Dj F1 F2 ∧ d.x.b.length ≤ 1000 * k ∧ wr.heap[w.heap.size]? = some (.cells #[.int .i64 q0, .int .i64 q1] 27 (0, 0)) ∧ Wk.Chg [] w wr) (n - 0) ?_ ?_
      · have hD3 := Mur.DskF.chg hD1 ch3 (fun s hs hl => trivial)
        have kk9 : Wk.Chg [] w W1 := Wk.Chg.step ((Wk.Chg.refl _).more (by simp)) ch1 trivial
        have kk10 := Wk.Chg.step kk9 ch2 trivial
        have kk11 := Wk.Chg.step kk10 ch3 trivial
        refine ⟨0, Mur.Dk.new, FF1, FF2, rfl, by kernel_rfl, Nat.zero_le _, hD3, hD2, (fun s h1 h2 => by have := hM1 s h1; have := hM2 s h2; omega), Nat.zero_le _, (Wk.Chg.hp ch3 (Wk.Chg.hp ch2 hb1 trivial) trivial), kk11⟩
      · rintro mm1 aa1 W6 ⟨k, d, F1, F2, hmm1, hF1, hk, hD1, hD2, hJ, hL, hK, HB⟩
        generalize aa1.tmps = bb1 at hF1
        subst hF1
        have hM1 := Mur.DskF.mem hD1
        have hsz1 := Mur.DskF.lt hD1
        have hM2 := Mur.DskF.mem hD2
        have hsz2 := Mur.DskF.lt hD2
        by_cases hlt : k < n
        · obtain ⟨g, off, kd, f, B, mb, cb, bs, k0, k1, rfl, hg, q, hb, hbc, hbm, hbn⟩ := HL.out.at hlt
          refine wp_seq ?_
          refine Wk.reg ?_
          refine Wk.rPure 0 (some 47) (.bool true) rfl rfl (by kernel_rfl) (Wk.boolT (b := decide (((k : Nat) : Int) < ((n : Nat) : Int))) (decide_eq_true (by omega)) (by kernel_rfl)) ?_
          refine Wk.rEnd 1 rfl ?_
          refine Wk.nxt ?_
          refine wp_seq ?_
          refine wp_cond_true (by kernel_rfl) ?_
          refine wp_skip ?_
          refine Wk.nxt ?_
          refine wp_seq ?_
          refine wp_block ?_
          refine wp_seq ?_
          refine Wk.reg ?_
          refine Wk.rPure 0 (some 48) (.pointer (some ⟨g, off + k * 5, none⟩)) rfl rfl (by kernel_rfl) (Wk.index_sl 22 29 (.tmp 44) (.tmp 46) rfl Try.underlying22 5 (by kernel_rfl) g off n c k .i64 (by kernel_rfl) (by kernel_rfl) (by omega)) ?_
          refine Wk.rPure 1 (some 49) (.agg #[.int .i64 kd, .int .i64 f, .slice B mb cb, .int .i64 k0, .int .i64 k1]) rfl rfl (by kernel_rfl) (Wk.loadR 29 (.tmp 48) rfl _ Try.underlying29 rfl g (off + k * 5) (by kernel_rfl) ([.int .i64 kd, .int .i64 f, .slice B mb cb, .int .i64 k0, .int .i64 k1]) (by kernel_rfl) (Wk.Chg.range HB q trivial)) ?_
          refine Wk.rEx 2 (some 12) _ rfl rfl (by kernel_rfl) (Wk.new_ex (.pointer (some ⟨W6.heap.size, 0, none⟩)) #[.int .i64 0, .int .i64 0, .slice none 0 0, .int .i64 0, .int .i64 0] 29 (by kernel_rfl)) ?_
          rintro _ W7 ⟨rfl, hb2, ch6, sz2⟩
          have zz8 := ch6.size
          refine Wk.rExS 3 none _ rfl rfl (by kernel_rfl) (Wk.storeR 29 (.tmp 12) (.tmp 49) rfl W6.heap.size 0 (by kernel_rfl) ([.int .i64 kd, .int .i64 f, .slice B mb cb, .int .i64 k0, .int .i64 k1]) (by kernel_rfl) (by kernel_rfl) (by intro v hv; simp at hv; rcases hv with h | h | h | h | h <;> (subst h; rfl)) 29 ([.int .i64 0, .int .i64 0, .slice none 0 0, .int .i64 0, .int .i64 0]) hb2 (by simp)) ?_
          rintro W8 ⟨hb3, ch7⟩
          replace hb3 : W8.heap[W6.heap.size]? = some (.cells #[.int .i64 kd, .int .i64 f, .slice B mb cb, .int .i64 k0, .int .i64 k1] 29 (0, 0)) := hb3
          have zz9 := ch7.size
          refine Wk.rEnd 4 rfl ?_
          refine Wk.nxt ?_
          refine wp_seq ?_
          refine wp_seq ?_
          refine Wk.reg ?_
          refine Wk.rPure 0 (some 50) (.pointer (some ⟨W6.heap.size, 2, none⟩)) rfl rfl (by kernel_rfl) (by kernel_rfl) ?_
          refine Wk.rPure 1 (some 51) (.slice B mb cb) rfl rfl (by kernel_rfl) (Wk.load1 26 (.tmp 50) rfl (by kernel_rfl) ⟨W6.heap.size, 2, none⟩ (by kernel_rfl) (.slice B mb cb) ((cell_of_row _ _ 2 _ _ _ hb3).trans rfl)) ?_
          refine Wk.rPure 2 (some 52) (.int .i64 ((mb : Nat) : Int)) rfl rfl (by kernel_rfl) (by kernel_rfl) ?_
          by_cases hx3 : ((mb : Nat) : Int) > (1000 : Int)
          · refine Wk.rPure 3 (some 53) (.bool true) rfl rfl (by kernel_rfl) (Wk.boolT (b := decide (((mb : Nat) : Int) > (1000 : Int))) (decide_eq_true (by first | exact hx3 | omega)) (by kernel_rfl)) ?_
            refine Wk.rEnd 4 rfl ?_
            refine Wk.nxt ?_
            refine wp_cond_true (by kernel_rfl) ?_
            refine wp_exit ?_
            refine Wk.thX ?_
            refine Wk.inX ?_
            refine Wk.nxt ?_
            refine Wk.reg ?_
            refine Wk.rPure 0 (some 83) (.int .i64 ((k + 1 : Nat) : Int)) rfl rfl (by kernel_rfl) (Wk.int64 (n := ((k : Nat) : Int) + 1) (z := ((k + 1 : Nat) : Int)) (by omega) (by omega) (by omega) (by kernel_rfl)) ?_
            refine Wk.rPure 1 (some 46) (.int .i64 ((k + 1 : Nat) : Int)) rfl rfl (by kernel_rfl) (by kernel_rfl) ?_
            refine Wk.rEnd 2 rfl ?_
            refine Wk.nxt ?_
            have hD4 := Mur.DskF.chg hD1 ch6 (fun s hs hl => trivial)
            have hD5 := Mur.DskF.chg hD4 ch7 (fun s hs hl => ⟨by have := hM1 s hs; omega, trivial⟩)
            have hD6 := Mur.DskF.chg hD2 ch6 (fun s hs hl => trivial)
            have hD7 := Mur.DskF.chg hD6 ch7 (fun s hs hl => ⟨by have := hM2 s hs; omega, trivial⟩)
            have kk12 := Wk.Chg.step HB ch6 trivial
            have kk13 := Wk.Chg.step kk12 ch7 ⟨.inr (by omega), trivial⟩
            refine ⟨_, ?_, k + 1, d, F1, F2, rfl, by kernel_rfl, (by omega), hD5, hD7, hJ, (by omega), (Wk.Chg.hp ch7 (Wk.Chg.hp ch6 hK trivial) ⟨by omega, trivial⟩), kk13⟩
            · omega
          · refine Wk.rPure 3 (some 53) (.bool false) rfl rfl (by kernel_rfl) (Wk.boolF (b := decide (((mb : Nat) : Int) > (1000 : Int))) (decide_eq_false (by first | exact hx3 | omega)) (by kernel_rfl)) ?_
            refine Wk.rEnd 4 rfl ?_
            refine Wk.nxt ?_
            refine wp_cond_false (by kernel_rfl) ?_
            refine wp_skip ?_
            refine Wk.nxt ?_
            refine wp_seq ?_
            refine Wk.reg ?_
            refine Wk.rPure 0 (some 54) (.pointer (some ⟨W1.heap.size, 0, none⟩)) rfl rfl (by kernel_rfl) (by kernel_rfl) ?_
            refine Wk.rPure 1 (some 55) (.pointer (some ⟨W2.heap.size, 0, none⟩)) rfl rfl (by kernel_rfl) (by kernel_rfl) ?_
            refine Wk.rPure 2 (some 56) (.agg #[.pointer (some ⟨W1.heap.size, 0, none⟩), .pointer (some ⟨W2.heap.size, 0, none⟩)]) rfl rfl (by kernel_rfl) (by kernel_rfl) ?_
            refine Wk.rPure 3 (some 57) (.int .i64 0) rfl rfl (by kernel_rfl) (by kernel_rfl) ?_
            refine Wk.rEnd 4 rfl ?_
            refine Wk.nxt ?_
            refine wp_block ?_
            refine Wk.loopN 3 ?_
            refine Wk.rdS ?_
            refine wp_seq ?_
            refine Wk.reg ?_
            refine Wk.rPure 0 (some 58) (.bool true) rfl rfl (by kernel_rfl) (Wk.boolT (b := decide ((0 : Int) < (2 : Int))) (decide_eq_true (by decide)) (by kernel_rfl)) ?_
            refine Wk.rEnd 1 rfl ?_
            refine Wk.nxt ?_
            refine wp_seq ?_
            refine wp_cond_true (by kernel_rfl) ?_
            refine wp_skip ?_
            refine Wk.nxt ?_
            refine wp_seq ?_
            refine wp_block ?_
            refine wp_seq ?_
            refine Wk.reg ?_
            refine Wk.rPure 0 (some 59) (.pointer (some ⟨W1.heap.size, 0, none⟩)) rfl rfl (by kernel_rfl) (by kernel_rfl) ?_
            refine Wk.rPure 1 (some 14) (.pointer (some ⟨W1.heap.size, 0, none⟩)) rfl rfl (by kernel_rfl) (by kernel_rfl) ?_
            refine Wk.rEnd 2 rfl ?_
            refine Wk.nxt ?_
            refine wp_seq ?_
            refine Wk.reg ?_
            refine Wk.rPure 0 (some 60) (.pointer (some ⟨W6.heap.size, 0, none⟩)) rfl rfl (by kernel_rfl) (by kernel_rfl) ?_
            refine Wk.rPure 1 (some 61) (.int .i64 kd) rfl rfl (by kernel_rfl) (Wk.load1 3 (.tmp 60) rfl (by kernel_rfl) ⟨W6.heap.size, 0, none⟩ (by kernel_rfl) (.int .i64 kd) ((cell_of_row _ _ 0 _ _ _ hb3).trans rfl)) ?_
            refine Wk.rEnd 2 rfl ?_
            refine Wk.nxt ?_
            refine wp_block ?_
            refine wp_seq ?_
            refine Wk.reg ?_
            by_cases hx4 : kd = (1 : Int)
            · refine Wk.rPure 0 (some 63) (.bool true) rfl rfl (by kernel_rfl) (Wk.boolT (b := (kd == (1 : Int))) (beq_iff_eq.2 (by first | exact hx4 | omega)) (by kernel_rfl)) ?_
              refine Wk.rPure 1 (some 62) (.bool true) rfl rfl (by kernel_rfl) (by kernel_rfl) ?_
              refine Wk.rEnd 2 rfl ?_
              refine Wk.nxt ?_
              refine wp_cond_true (by kernel_rfl) ?_
              refine Wk.reg ?_
              refine Wk.rPure 0 (some 64) (.pointer (some ⟨W1.heap.size, 0, none⟩)) rfl rfl (by kernel_rfl) (by kernel_rfl) ?_
              refine Wk.rPure 1 (some 65) (.pointer (some ⟨W6.heap.size, 1, none⟩)) rfl rfl (by kernel_rfl) (by kernel_rfl) ?_
              refine Wk.rPure 2 (some 66) (.int .i64 f) rfl rfl (by kernel_rfl) (Wk.load1 3 (.tmp 65) rfl (by kernel_rfl) ⟨W6.heap.size, 1, none⟩ (by kernel_rfl) (.int .i64 f) ((cell_of_row _ _ 1 _ _ _ hb3).trans rfl)) ?_
              refine Wk.rPure 3 (some 67) (.pointer (some ⟨W6.heap.size, 2, none⟩)) rfl rfl (by kernel_rfl) (by kernel_rfl) ?_
              refine Wk.rPure 4 (some 68) (.slice B mb cb) rfl rfl (by kernel_rfl) (Wk.load1 26 (.tmp 67) rfl (by kernel_rfl) ⟨W6.heap.size, 2, none⟩ (by kernel_rfl) (.slice B mb cb) ((cell_of_row _ _ 2 _ _ _ hb3).trans rfl)) ?_
              refine Wk.rCall 5 (some 69) 10 [.tmp 64, .tmp 66, .tmp 68] #[23, 3, 26] [.pointer (some ⟨W1.heap.size, 0, none⟩), .int .i64 f, .slice B mb cb] rfl rfl (by kernel_rfl) rfl (by kernel_rfl) (by kernel_rfl) ?_
              have hD8 := Mur.DskF.chg hD1 ch6 (fun s hs hl => trivial)
              have hD9 := Mur.DskF.chg hD8 ch7 (fun s hs hl => ⟨by have := hM1 s hs; omega, trivial⟩)
              have kk14 := Wk.Chg.step HB ch6 trivial
              have kk15 := Wk.Chg.step kk14 ch7 ⟨.inr (by omega), trivial⟩
              have hD10 := Mur.DskF.chg hD2 ch6 (fun s hs hl => trivial)
              have hD11 := Mur.DskF.chg hD10 ch7 (fun s hs hl => ⟨by have := hM2 s hs; omega, trivial⟩)
              refine (Append_any W1.heap.size d F1 f B mb cb bs W8 hD9 (Mur.byt_chg hb kk15 (fun g off e hl => trivial)) hbn).mono ?_
              rintro _ W9 ⟨FF3, rfl, hD12, ch8, no1⟩
              have hM3 := Mur.DskF.mem hD12
              have zz10 := ch8.size
              have hD13 := Mur.DskF.chg hD11 ch8 (fun s hs hl => Mur.Dj.off1 hJ hs)
              have jj1 := Mur.Dj.step1 hJ no1 hM2 (by omega)
              refine ⟨_, rfl, ?_⟩
              refine Wk.rEnd 6 rfl ?_
              refine Wk.inN ?_
              refine Wk.inN ?_
              refine Wk.nxt ?_
              refine Wk.reg ?_
              refine Wk.rPure 0 (some 82) (.int .i64 1) rfl rfl (by kernel_rfl) (Wk.int64 (n := 0 + 1) (z := 1) (by omega) (by omega) (by omega) (by kernel_rfl)) ?_
              refine Wk.rPure 1 (some 57) (.int .i64 1) rfl rfl (by kernel_rfl) (by kernel_rfl) ?_
              refine Wk.rEnd 2 rfl ?_
              refine Wk.nxt ?_
              refine Wk.rdS ?_
              refine wp_seq ?_
              refine Wk.reg ?_
              refine Wk.rPure 0 (some 58) (.bool true) rfl rfl (by kernel_rfl) (Wk.boolT (b := decide ((1 : Int) < (2 : Int))) (decide_eq_true (by decide)) (by kernel_rfl)) ?_
              refine Wk.rEnd 1 rfl ?_
              refine Wk.nxt ?_
              refine wp_seq ?_
              refine wp_cond_true (by kernel_rfl) ?_
              refine wp_skip ?_
              refine Wk.nxt ?_
              refine wp_seq ?_
              refine wp_block ?_
              refine wp_seq ?_
              refine Wk.reg ?_
              refine Wk.rPure 0 (some 59) (.pointer (some ⟨W2.heap.size, 0, none⟩)) rfl rfl (by kernel_rfl) (by kernel_rfl) ?_
              refine Wk.rPure 1 (some 14) (.pointer (some ⟨W2.heap.size, 0, none⟩)) rfl rfl (by kernel_rfl) (by kernel_rfl) ?_
              refine Wk.rEnd 2 rfl ?_
              refine Wk.nxt ?_
              refine wp_seq ?_
              refine Wk.reg ?_
              refine Wk.rPure 0 (some 60) (.pointer (some ⟨W6.heap.size, 0, none⟩)) rfl rfl (by kernel_rfl) (by kernel_rfl) ?_
              refine Wk.rPure 1 (some 61) (.int .i64 kd) rfl rfl (by kernel_rfl) (Wk.load1 3 (.tmp 60) rfl (by kernel_rfl) ⟨W6.heap.size, 0, none⟩ (by kernel_rfl) (.int .i64 kd) ((cell_of_row _ _ 0 _ _ _ (Wk.Chg.hp ch8 hb3 (Mur.off_iff.2 (fun t ht => by have := hM1 t ht; omega)))).trans rfl)) ?_
              refine Wk.rEnd 2 rfl ?_
              refine Wk.nxt ?_
              refine wp_block ?_
              refine wp_seq ?_
              refine Wk.reg ?_
              refine Wk.rPure 0 (some 63) (.bool true) rfl rfl (by kernel_rfl) (Wk.boolT (b := (kd == (1 : Int))) (beq_iff_eq.2 (by first | exact hx4 | omega)) (by kernel_rfl)) ?_
              refine Wk.rPure 1 (some 62) (.bool true) rfl rfl (by kernel_rfl) (by kernel_rfl) ?_
              refine Wk.rEnd 2 rfl ?_
              refine Wk.nxt ?_
              refine wp_cond_true (by kernel_rfl) ?_
              refine Wk.reg ?_
              refine Wk.rPure 0 (some 64) (.pointer (some ⟨W2.heap.size, 0, none⟩)) rfl rfl (by kernel_rfl) (by kernel_rfl) ?_
              refine Wk.rPure 1 (some 65) (.pointer (some ⟨W6.heap.size, 1, none⟩)) rfl rfl (by kernel_rfl) (by kernel_rfl) ?_
              refine Wk.rPure 2 (some 66) (.int .i64 f) rfl rfl (by kernel_rfl) (Wk.load1 3 (.tmp 65) rfl (by kernel_rfl) ⟨W6.heap.size, 1, none⟩ (by kernel_rfl) (.int .i64 f) ((cell_of_row _ _ 1 _ _ _ (Wk.Chg.hp ch8 hb3 (Mur.off_iff.2 (fun t ht => by have := hM1 t ht; omega)))).trans rfl)) ?_
              refine Wk.rPure 3 (some 67) (.pointer (some ⟨W6.heap.size, 2, none⟩)) rfl rfl (by kernel_rfl) (by kernel_rfl) ?_
              refine Wk.rPure 4 (some 68) (.slice B mb cb) rfl rfl (by kernel_rfl) (Wk.load1 26 (.tmp 67) rfl (by kernel_rfl) ⟨W6.heap.size, 2, none⟩ (by kernel_rfl) (.slice B mb cb) ((cell_of_row _ _ 2 _ _ _ (Wk.Chg.hp ch8 hb3 (Mur.off_iff.2 (fun t ht => by have := hM1 t ht; omega)))).trans rfl)) ?_
              refine Wk.rCall 5 (some 69) 10 [.tmp 64, .tmp 66, .tmp 68] #[23, 3, 26] [.pointer (some ⟨W2.heap.size, 0, none⟩), .int .i64 f, .slice B mb cb] rfl rfl (by kernel_rfl) rfl (by kernel_rfl) (by kernel_rfl) ?_
              have kk16 := Wk.Chg.step kk15 ch8 (Mur.newOr_iff.2 (fun t ht => .inr (by have := hM1 t ht; omega)))
              refine (Append_any W2.heap.size d F2 f B mb cb bs W9 hD13 (Mur.byt_chg hb kk16 (fun g off e hl => trivial)) hbn).mono ?_
              rintro _ W10 ⟨FF4, rfl, hD14, ch9, no2⟩
              have hM4 := Mur.DskF.mem hD14
              have zz11 := ch9.size
              have hD15 := Mur.DskF.chg hD12 ch9 (fun s hs hl => Mur.Dj.off2 jj1 hs)
              have jj2 := Mur.Dj.step2 jj1 no2 hM3 (by omega)
              refine ⟨_, rfl, ?_⟩
              refine Wk.rEnd 6 rfl ?_
              refine Wk.inN ?_
              refine Wk.inN ?_
              refine Wk.nxt ?_
              refine Wk.reg ?_
              refine Wk.rPure 0 (some 82) (.int .i64 2) rfl rfl (by kernel_rfl) (Wk.int64 (n := 1 + 1) (z := 2) (by omega) (by omega) (by omega) (by kernel_rfl)) ?_
              refine Wk.rPure 1 (some 57) (.int .i64 2) rfl rfl (by kernel_rfl) (by kernel_rfl) ?_
              refine Wk.rEnd 2 rfl ?_
              refine Wk.nxt ?_
              refine Wk.rdS ?_
              refine wp_seq ?_
              refine Wk.reg ?_
              refine Wk.rPure 0 (some 58) (.bool false) rfl rfl (by kernel_rfl) (Wk.boolF (b := decide ((2 : Int) < (2 : Int))) (decide_eq_false (by decide)) (by kernel_rfl)) ?_
              refine Wk.rEnd 1 rfl ?_
              refine Wk.nxt ?_
              refine wp_seq ?_
              refine wp_cond_false (by kernel_rfl) ?_
              refine wp_exit ?_
              refine Wk.thX ?_
              refine Wk.thX ?_
              refine Wk.inX ?_
              refine Wk.inN ?_
              refine Wk.nxt ?_
              refine Wk.reg ?_
              refine Wk.rPure 0 (some 83) (.int .i64 ((k + 1 : Nat) : Int)) rfl rfl (by kernel_rfl) (Wk.int64 (n := ((k : Nat) : Int) + 1) (z := ((k + 1 : Nat) : Int)) (by omega) (by omega) (by omega) (by kernel_rfl)) ?_
              refine Wk.rPure 1 (some 46) (.int .i64 ((k + 1 : Nat) : Int)) rfl rfl (by kernel_rfl) (by kernel_rfl) ?_
              refine Wk.rEnd 2 rfl ?_
              refine Wk.nxt ?_
              have kk17 := Wk.Chg.step kk16 ch9 (Mur.newOr_iff.2 (fun t ht => .inr (by have := hM2 t ht; omega)))
              refine ⟨_, ?_, k + 1, (Mur.Dk.app d f bs), FF3, FF4, rfl, by kernel_rfl, (by omega), hD15, hD14, jj2, (by have := Mur.app_len d f bs; have := hb.1; omega), (Wk.Chg.hp ch9 (Wk.Chg.hp ch8 (Wk.Chg.hp ch7 (Wk.Chg.hp ch6 hK trivial) ⟨by omega, trivial⟩) (Mur.off_iff.2 (fun t ht => by have := hM1 t ht; omega))) (Mur.off_iff.2 (fun t ht => by have := hM2 t ht; omega))), kk17⟩
              · omega
            · refine Wk.rPure 0 (some 63) (.bool false) rfl rfl (by kernel_rfl) (Wk.boolF (b := (kd == (1 : Int))) (beq_eq_false_iff_ne.2 (by first | exact hx4 | omega)) (by kernel_rfl)) ?_
              refine Wk.rPure 1 (some 62) (.bool false) rfl rfl (by kernel_rfl) (by kernel_rfl) ?_
              refine Wk.rEnd 2 rfl ?_
              refine Wk.nxt ?_
              refine wp_cond_false (by kernel_rfl) ?_
              refine wp_seq ?_
              refine Wk.reg ?_
              by_cases hx5 : kd = (2 : Int)
              · refine Wk.rPure 0 (some 71) (.bool true) rfl rfl (by kernel_rfl) (Wk.boolT (b := (kd == (2 : Int))) (beq_iff_eq.2 (by first | exact hx5 | omega)) (by kernel_rfl)) ?_
                refine Wk.rPure 1 (some 70) (.bool true) rfl rfl (by kernel_rfl) (by kernel_rfl) ?_
                refine Wk.rEnd 2 rfl ?_
                refine Wk.nxt ?_
                refine wp_cond_true (by kernel_rfl) ?_
                refine Wk.reg ?_
                refine Wk.rPure 0 (some 72) (.pointer (some ⟨W1.heap.size, 0, none⟩)) rfl rfl (by kernel_rfl) (by kernel_rfl) ?_
                refine Wk.rPure 1 (some 73) (.pointer (some ⟨W6.heap.size, 1, none⟩)) rfl rfl (by kernel_rfl) (by kernel_rfl) ?_
                refine Wk.rPure 2 (some 74) (.int .i64 f) rfl rfl (by kernel_rfl) (Wk.load1 3 (.tmp 73) rfl (by kernel_rfl) ⟨W6.heap.size, 1, none⟩ (by kernel_rfl) (.int .i64 f) ((cell_of_row _ _ 1 _ _ _ hb3).trans rfl)) ?_
                refine Wk.rCall 3 (some 75) 11 [.tmp 72, .tmp 74] #[23, 3] [.pointer (some ⟨W1.heap.size, 0, none⟩), .int .i64 f] rfl rfl (by kernel_rfl) rfl (by kernel_rfl) (by kernel_rfl) ?_
                have hD16 := Mur.DskF.chg hD1 ch6 (fun s hs hl => trivial)
                have hD17 := Mur.DskF.chg hD16 ch7 (fun s hs hl => ⟨by have := hM1 s hs; omega, trivial⟩)
                have hD18 := Mur.DskF.chg hD2 ch6 (fun s hs hl => trivial)
                have hD19 := Mur.DskF.chg hD18 ch7 (fun s hs hl => ⟨by have := hM2 s hs; omega, trivial⟩)
                refine (Sync_any W1.heap.size d F1 f W8 hD17).mono ?_
                rintro _ W11 ⟨FF5, rfl, hD20, ch10, no3⟩
                have hM5 := Mur.DskF.mem hD20
                have zz12 := ch10.size
                have hD21 := Mur.DskF.chg hD19 ch10 (fun s hs hl => Mur.Dj.off1 hJ hs)
                have jj3 := Mur.Dj.step1 hJ no3 hM2 (by omega)
                refine ⟨_, rfl, ?_⟩
                refine Wk.rEnd 4 rfl ?_
                refine Wk.inN ?_
                refine Wk.inN ?_
                refine Wk.nxt ?_
                refine Wk.reg ?_
                refine Wk.rPure 0 (some 82) (.int .i64 1) rfl rfl (by kernel_rfl) (Wk.int64 (n := 0 + 1) (z := 1) (by omega) (by omega) (by omega) (by kernel_rfl)) ?_
                refine Wk.rPure 1 (some 57) (.int .i64 1) rfl rfl (by kernel_rfl) (by kernel_rfl) ?_
                refine Wk.rEnd 2 rfl ?_
                refine Wk.nxt ?_
                refine Wk.rdS ?_
                refine wp_seq ?_
                refine Wk.reg ?_
                refine Wk.rPure 0 (some 58) (.bool true) rfl rfl (by kernel_rfl) (Wk.boolT (b := decide ((1 : Int) < (2 : Int))) (decide_eq_true (by decide)) (by kernel_rfl)) ?_
                refine Wk.rEnd 1 rfl ?_
                refine Wk.nxt ?_
                refine wp_seq ?_
                refine wp_cond_true (by kernel_rfl) ?_
                refine wp_skip ?_
                refine Wk.nxt ?_
                refine wp_seq ?_
                refine wp_block ?_
                refine wp_seq ?_
                refine Wk.reg ?_
                refine Wk.rPure 0 (some 59) (.pointer (some ⟨W2.heap.size, 0, none⟩)) rfl rfl (by kernel_rfl) (by kernel_rfl) ?_
                refine Wk.rPure 1 (some 14) (.pointer (some ⟨W2.heap.size, 0, none⟩)) rfl rfl (by kernel_rfl) (by kernel_rfl) ?_
                refine Wk.rEnd 2 rfl ?_
                refine Wk.nxt ?_
                refine wp_seq ?_
                refine Wk.reg ?_
                refine Wk.rPure 0 (some 60) (.pointer (some ⟨W6.heap.size, 0, none⟩)) rfl rfl (by kernel_rfl) (by kernel_rfl) ?_
                refine Wk.rPure 1 (some 61) (.int .i64 kd) rfl rfl (by kernel_rfl) (Wk.load1 3 (.tmp 60) rfl (by kernel_rfl) ⟨W6.heap.size, 0, none⟩ (by kernel_rfl) (.int .i64 kd) ((cell_of_row _ _ 0 _ _ _ (Wk.Chg.hp ch10 hb3 (Mur.off_iff.2 (fun t ht => by have := hM1 t ht; omega)))).trans rfl)) ?_
                refine Wk.rEnd 2 rfl ?_
                refine Wk.nxt ?_
                refine wp_block ?_
                refine wp_seq ?_
                refine Wk.reg ?_
                refine Wk.rPure 0 (some 63) (.bool false) rfl rfl (by kernel_rfl) (Wk.boolF (b := (kd == (1 : Int))) (beq_eq_false_iff_ne.2 (by first | exact hx4 | omega)) (by kernel_rfl)) ?_
                refine Wk.rPure 1 (some 62) (.bool false) rfl rfl (by kernel_rfl) (by kernel_rfl) ?_
                refine Wk.rEnd 2 rfl ?_
                refine Wk.nxt ?_
                refine wp_cond_false (by kernel_rfl) ?_
                refine wp_seq ?_
                refine Wk.reg ?_
                refine Wk.rPure 0 (some 71) (.bool true) rfl rfl (by kernel_rfl) (Wk.boolT (b := (kd == (2 : Int))) (beq_iff_eq.2 (by first | exact hx5 | omega)) (by kernel_rfl)) ?_
                refine Wk.rPure 1 (some 70) (.bool true) rfl rfl (by kernel_rfl) (by kernel_rfl) ?_
                refine Wk.rEnd 2 rfl ?_
                refine Wk.nxt ?_
                refine wp_cond_true (by kernel_rfl) ?_
                refine Wk.reg ?_
                refine Wk.rPure 0 (some 72) (.pointer (some ⟨W2.heap.size, 0, none⟩)) rfl rfl (by kernel_rfl) (by kernel_rfl) ?_
                refine Wk.rPure 1 (some 73) (.pointer (some ⟨W6.heap.size, 1, none⟩)) rfl rfl (by kernel_rfl) (by kernel_rfl) ?_
                refine Wk.rPure 2 (some 74) (.int .i64 f) rfl rfl (by kernel_rfl) (Wk.load1 3 (.tmp 73) rfl (by kernel_rfl) ⟨W6.heap.size, 1, none⟩ (by kernel_rfl) (.int .i64 f) ((cell_of_row _ _ 1 _ _ _ (Wk.Chg.hp ch10 hb3 (Mur.off_iff.2 (fun t ht => by have := hM1 t ht; omega)))).trans rfl)) ?_
                refine Wk.rCall 3 (some 75) 11 [.tmp 72, .tmp 74] #[23, 3] [.pointer (some ⟨W2.heap.size, 0, none⟩), .int .i64 f] rfl rfl (by kernel_rfl) rfl (by kernel_rfl) (by kernel_rfl) ?_
                refine (Sync_any W2.heap.size d F2 f W11 hD21).mono ?_
                rintro _ W12 ⟨FF6, rfl, hD22, ch11, no4⟩
                have hM6 := Mur.DskF.mem hD22
                have zz13 := ch11.size
                have hD23 := Mur.DskF.chg hD20 ch11 (fun s hs hl => Mur.Dj.off2 jj3 hs)
                have jj4 := Mur.Dj.step2 jj3 no4 hM5 (by omega)
                refine ⟨_, rfl, ?_⟩
                refine Wk.rEnd 4 rfl ?_
                refine Wk.inN ?_
                refine Wk.inN ?_
                refine Wk.nxt ?_
                refine Wk.reg ?_
                refine Wk.rPure 0 (some 82) (.int .i64 2) rfl rfl (by kernel_rfl) (Wk.int64 (n := 1 + 1) (z := 2) (by omega) (by omega) (by omega) (by kernel_rfl)) ?_
                refine Wk.rPure 1 (some 57) (.int .i64 2) rfl rfl (by kernel_rfl) (by kernel_rfl) ?_
                refine Wk.rEnd 2 rfl ?_
                refine Wk.nxt ?_
                refine Wk.rdS ?_
                refine wp_seq ?_
                refine Wk.reg ?_
                refine Wk.rPure 0 (some 58) (.bool false) rfl rfl (by kernel_rfl) (Wk.boolF (b := decide ((2 : Int) < (2 : Int))) (decide_eq_false (by decide)) (by kernel_rfl)) ?_
                refine Wk.rEnd 1 rfl ?_
                refine Wk.nxt ?_
                refine wp_seq ?_
                refine wp_cond_false (by kernel_rfl) ?_
                refine wp_exit ?_
                refine Wk.thX ?_
                refine Wk.thX ?_
                refine Wk.inX ?_
                refine Wk.inN ?_
                refine Wk.nxt ?_
                refine Wk.reg ?_
                refine Wk.rPure 0 (some 83) (.int .i64 ((k + 1 : Nat) : Int)) rfl rfl (by kernel_rfl) (Wk.int64 (n := ((k : Nat) : Int) + 1) (z := ((k + 1 : Nat) : Int)) (by omega) (by omega) (by omega) (by kernel_rfl)) ?_
                refine Wk.rPure 1 (some 46) (.int .i64 ((k + 1 : Nat) : Int)) rfl rfl (by kernel_rfl) (by kernel_rfl) ?_
                refine Wk.rEnd 2 rfl ?_
                refine Wk.nxt ?_
                have kk18 := Wk.Chg.step HB ch6 trivial
                have kk19 := Wk.Chg.step kk18 ch7 ⟨.inr (by omega), trivial⟩
                have kk20 := Wk.Chg.step kk19 ch10 (Mur.newOr_iff.2 (fun t ht => .inr (by have := hM1 t ht; omega)))
                have kk21 := Wk.Chg.step kk20 ch11 (Mur.newOr_iff.2 (fun t ht => .inr (by have := hM2 t ht; omega)))
                refine ⟨_, ?_, k + 1, (Mur.Dk.sync d f), FF5, FF6, rfl, by kernel_rfl, (by omega), hD23, hD22, jj4, (by have := Mur.sync_len d f; have := hb.1; omega), (Wk.Chg.hp ch11 (Wk.Chg.hp ch10 (Wk.Chg.hp ch7 (Wk.Chg.hp ch6 hK trivial) ⟨by omega, trivial⟩) (Mur.off_iff.2 (fun t ht => by have := hM1 t ht; omega))) (Mur.off_iff.2 (fun t ht => by have := hM2 t ht; omega))), kk21⟩
                · omega
              · refine Wk.rPure 0 (some 71) (.bool false) rfl rfl (by kernel_rfl) (Wk.boolF (b := (kd == (2 : Int))) (beq_eq_false_iff_ne.2 (by first | exact hx5 | omega)) (by kernel_rfl)) ?_
                refine Wk.rPure 1 (some 70) (.bool false) rfl rfl (by kernel_rfl) (by kernel_rfl) ?_
                refine Wk.rEnd 2 rfl ?_
                refine Wk.nxt ?_
                refine wp_cond_false (by kernel_rfl) ?_
                refine wp_seq ?_
                refine Wk.reg ?_
                by_cases hx6 : kd = (3 : Int)
                · refine Wk.rPure 0 (some 77) (.bool true) rfl rfl (by kernel_rfl) (Wk.boolT (b := (kd == (3 : Int))) (beq_iff_eq.2 (by first | exact hx6 | omega)) (by kernel_rfl)) ?_
                  refine Wk.rPure 1 (some 76) (.bool true) rfl rfl (by kernel_rfl) (by kernel_rfl) ?_
                  refine Wk.rEnd 2 rfl ?_
                  refine Wk.nxt ?_
                  refine wp_cond_true (by kernel_rfl) ?_
                  refine Wk.reg ?_
                  refine Wk.rPure 0 (some 78) (.pointer (some ⟨W1.heap.size, 0, none⟩)) rfl rfl (by kernel_rfl) (by kernel_rfl) ?_
                  refine Wk.rPure 1 (some 79) (.pointer (some ⟨W6.heap.size, 1, none⟩)) rfl rfl (by kernel_rfl) (by kernel_rfl) ?_
                  refine Wk.rPure 2 (some 80) (.int .i64 f) rfl rfl (by kernel_rfl) (Wk.load1 3 (.tmp 79) rfl (by kernel_rfl) ⟨W6.heap.size, 1, none⟩ (by kernel_rfl) (.int .i64 f) ((cell_of_row _ _ 1 _ _ _ hb3).trans rfl)) ?_
                  refine Wk.rCall 3 (some 81) 12 [.tmp 78, .tmp 80] #[23, 3] [.pointer (some ⟨W1.heap.size, 0, none⟩), .int .i64 f] rfl rfl (by kernel_rfl) rfl (by kernel_rfl) (by kernel_rfl) ?_
                  have hD24 := Mur.DskF.chg hD1 ch6 (fun s hs hl => trivial)
                  have hD25 := Mur.DskF.chg hD24 ch7 (fun s hs hl => ⟨by have := hM1 s hs; omega, trivial⟩)
                  have hD26 := Mur.DskF.chg hD2 ch6 (fun s hs hl => trivial)
                  have hD27 := Mur.DskF.chg hD26 ch7 (fun s hs hl => ⟨by have := hM2 s hs; omega, trivial⟩)
                  refine (Clear_any W1.heap.size d F1 f W8 hD25).mono ?_
                  rintro _ W13 ⟨FF7, rfl, hD28, ch12, no5⟩
                  have hM7 := Mur.DskF.mem hD28
                  have zz14 := ch12.size
                  have hD29 := Mur.DskF.chg hD27 ch12 (fun s hs hl => Mur.Dj.off1 hJ hs)
                  have jj5 := Mur.Dj.step1 hJ no5 hM2 (by omega)
                  refine ⟨_, rfl, ?_⟩
                  refine Wk.rEnd 4 rfl ?_
                  refine Wk.inN ?_
                  refine Wk.inN ?_
                  refine Wk.nxt ?_
                  refine Wk.reg ?_
                  refine Wk.rPure 0 (some 82) (.int .i64 1) rfl rfl (by kernel_rfl) (Wk.int64 (n := 0 + 1) (z := 1) (by omega) (by omega) (by omega) (by kernel_rfl)) ?_
                  refine Wk.rPure 1 (some 57) (.int .i64 1) rfl rfl (by kernel_rfl) (by kernel_rfl) ?_
                  refine Wk.rEnd 2 rfl ?_
                  refine Wk.nxt ?_
                  refine Wk.rdS ?_
                  refine wp_seq ?_
                  refine Wk.reg ?_
                  refine Wk.rPure 0 (some 58) (.bool true) rfl rfl (by kernel_rfl) (Wk.boolT (b := decide ((1 : Int) < (2 : Int))) (decide_eq_true (by decide)) (by kernel_rfl)) ?_
                  refine Wk.rEnd 1 rfl ?_
                  refine Wk.nxt ?_
                  refine wp_seq ?_
                  refine wp_cond_true (by kernel_rfl) ?_
                  refine wp_skip ?_
                  refine Wk.nxt ?_
                  refine wp_seq ?_
                  refine wp_block ?_
                  refine wp_seq ?_
                  refine Wk.reg ?_
                  refine Wk.rPure 0 (some 59) (.pointer (some ⟨W2.heap.size, 0, none⟩)) rfl rfl (by kernel_rfl) (by kernel_rfl) ?_
                  refine Wk.rPure 1 (some 14) (.pointer (some ⟨W2.heap.size, 0, none⟩)) rfl rfl (by kernel_rfl) (by kernel_rfl) ?_
                  refine Wk.rEnd 2 rfl ?_
                  refine Wk.nxt ?_
                  refine wp_seq ?_
                  refine Wk.reg ?_
                  refine Wk.rPure 0 (some 60) (.pointer (some ⟨W6.heap.size, 0, none⟩)) rfl rfl (by kernel_rfl) (by kernel_rfl) ?_
                  refine Wk.rPure 1 (some 61) (.int .i64 kd) rfl rfl (by kernel_rfl) (Wk.load1 3 (.tmp 60) rfl (by kernel_rfl) ⟨W6.heap.size, 0, none⟩ (by kernel_rfl) (.int .i64 kd) ((cell_of_row _ _ 0 _ _ _ (Wk.Chg.hp ch12 hb3 (Mur.off_iff.2 (fun t ht => by have := hM1 t ht; omega)))).trans rfl)) ?_
                  refine Wk.rEnd 2 rfl ?_
                  refine Wk.nxt ?_
                  refine wp_block ?_
                  refine wp_seq ?_
                  refine Wk.reg ?_
                  refine Wk.rPure 0 (some 63) (.bool false) rfl rfl (by kernel_rfl) (Wk.boolF (b := (kd == (1 : Int))) (beq_eq_false_iff_ne.2 (by first | exact hx4 | omega)) (by kernel_rfl)) ?_
                  refine Wk.rPure 1 (some 62) (.bool false) rfl rfl (by kernel_rfl) (by kernel_rfl) ?_
                  refine Wk.rEnd 2 rfl ?_
                  refine Wk.nxt ?_
                  refine wp_cond_false (by kernel_rfl) ?_
                  refine wp_seq ?_
                  refine Wk.reg ?_
                  refine Wk.rPure 0 (some 71) (.bool false) rfl rfl (by kernel_rfl) (Wk.boolF (b := (kd == (2 : Int))) (beq_eq_false_iff_ne.2 (by first | exact hx5 | omega)) (by kernel_rfl)) ?_
                  refine Wk.rPure 1 (some 70) (.bool false) rfl rfl (by kernel_rfl) (by kernel_rfl) ?_
                  refine Wk.rEnd 2 rfl ?_
                  refine Wk.nxt ?_
                  refine wp_cond_false (by kernel_rfl) ?_
                  refine wp_seq ?_
                  refine Wk.reg ?_
                  refine Wk.rPure 0 (some 77) (.bool true) rfl rfl (by kernel_rfl) (Wk.boolT (b := (kd == (3 : Int))) (beq_iff_eq.2 (by first | exact hx6 | omega)) (by kernel_rfl)) ?_
                  refine Wk.rPure 1 (some 76) (.bool true) rfl rfl (by kernel_rfl) (by kernel_rfl) ?_
                  refine Wk.rEnd 2 rfl ?_
                  refine Wk.nxt ?_
                  refine wp_cond_true (by kernel_rfl) ?_
                  refine Wk.reg ?_
                  refine Wk.rPure 0 (some 78) (.pointer (some ⟨W2.heap.size, 0, none⟩)) rfl rfl (by kernel_rfl) (by kernel_rfl) ?_
                  refine Wk.rPure 1 (some 79) (.pointer (some ⟨W6.heap.size, 1, none⟩)) rfl rfl (by kernel_rfl) (by kernel_rfl) ?_
                  refine Wk.rPure 2 (some 80) (.int .i64 f) rfl rfl (by kernel_rfl) (Wk.load1 3 (.tmp 79) rfl (by kernel_rfl) ⟨W6.heap.size, 1, none⟩ (by kernel_rfl) (.int .i64 f) ((cell_of_row _ _ 1 _ _ _ (Wk.Chg.hp ch12 hb3 (Mur.off_iff.2 (fun t ht => by have := hM1 t ht; omega)))).trans rfl)) ?_
                  refine Wk.rCall 3 (some 81) 12 [.tmp 78, .tmp 80] #[23, 3] [.pointer (some ⟨W2.heap.size, 0, none⟩), .int .i64 f] rfl rfl (by kernel_rfl) rfl (by kernel_rfl) (by kernel_rfl) ?_
                  refine (Clear_any W2.heap.size d F2 f W13 hD29).mono ?_
                  rintro _ W14 ⟨FF8, rfl, hD30, ch13, no6⟩
                  have hM8 := Mur.DskF.mem hD30
                  have zz15 := ch13.size
                  have hD31 := Mur.DskF.chg hD28 ch13 (fun s hs hl => Mur.Dj.off2 jj5 hs)
                  have jj6 := Mur.Dj.step2 jj5 no6 hM7 (by omega)
                  refine ⟨_, rfl, ?_⟩
                  refine Wk.rEnd 4 rfl ?_
                  refine Wk.inN ?_
                  refine Wk.inN ?_
                  refine Wk.nxt ?_
                  refine Wk.reg ?_
                  refine Wk.rPure 0 (some 82) (.int .i64 2) rfl rfl (by kernel_rfl) (Wk.int64 (n := 1 + 1) (z := 2) (by omega) (by omega) (by omega) (by kernel_rfl)) ?_
                  refine Wk.rPure 1 (some 57) (.int .i64 2) rfl rfl (by kernel_rfl) (by kernel_rfl) ?_
                  refine Wk.rEnd 2 rfl ?_
                  refine Wk.nxt ?_
                  refine Wk.rdS ?_
                  refine wp_seq ?_
                  refine Wk.reg ?_
                  refine Wk.rPure 0 (some 58) (.bool false) rfl rfl (by kernel_rfl) (Wk.boolF (b := decide ((2 : Int) < (2 : Int))) (decide_eq_false (by decide)) (by kernel_rfl)) ?_
                  refine Wk.rEnd 1 rfl ?_
                  refine Wk.nxt ?_
                  refine wp_seq ?_
                  refine wp_cond_false (by kernel_rfl) ?_
                  refine wp_exit ?_
                  refine Wk.thX ?_
                  refine Wk.thX ?_
                  refine Wk.inX ?_
                  refine Wk.inN ?_
                  refine Wk.nxt ?_
                  refine Wk.reg ?_
                  refine Wk.rPure 0 (some 83) (.int .i64 ((k + 1 : Nat) : Int)) rfl rfl (by kernel_rfl) (Wk.int64 (n := ((k : Nat) : Int) + 1) (z := ((k + 1 : Nat) : Int)) (by omega) (by omega) (by omega) (by kernel_rfl)) ?_
                  refine Wk.rPure 1 (some 46) (.int .i64 ((k + 1 : Nat) : Int)) rfl rfl (by kernel_rfl) (by kernel_rfl) ?_
                  refine Wk.rEnd 2 rfl ?_
                  refine Wk.nxt ?_
                  have kk22 := Wk.Chg.step HB ch6 trivial
                  have kk23 := Wk.Chg.step kk22 ch7 ⟨.inr (by omega), trivial⟩
                  have kk24 := Wk.Chg.step kk23 ch12 (Mur.newOr_iff.2 (fun t ht => .inr (by have := hM1 t ht; omega)))
                  have kk25 := Wk.Chg.step kk24 ch13 (Mur.newOr_iff.2 (fun t ht => .inr (by have := hM2 t ht; omega)))
                  refine ⟨_, ?_, k + 1, (Mur.Dk.clear d f), FF7, FF8, rfl, by kernel_rfl, (by omega), hD31, hD30, jj6, (by have := Mur.clear_len d f; have := hb.1; omega), (Wk.Chg.hp ch13 (Wk.Chg.hp ch12 (Wk.Chg.hp ch7 (Wk.Chg.hp ch6 hK trivial) ⟨by omega, trivial⟩) (Mur.off_iff.2 (fun t ht => by have := hM1 t ht; omega))) (Mur.off_iff.2 (fun t ht => by have := hM2 t ht; omega))), kk25⟩
                  · omega
                · refine Wk.rPure 0 (some 77) (.bool false) rfl rfl (by kernel_rfl) (Wk.boolF (b := (kd == (3 : Int))) (beq_eq_false_iff_ne.2 (by first | exact hx6 | omega)) (by kernel_rfl)) ?_
                  refine Wk.rPure 1 (some 76) (.bool false) rfl rfl (by kernel_rfl) (by kernel_rfl) ?_
                  refine Wk.rEnd 2 rfl ?_
                  refine Wk.nxt ?_
                  refine wp_cond_false (by kernel_rfl) ?_
                  refine wp_skip ?_
                  refine Wk.inN ?_
                  refine Wk.inN ?_
                  refine Wk.nxt ?_
                  refine Wk.reg ?_
                  refine Wk.rPure 0 (some 82) (.int .i64 1) rfl rfl (by kernel_rfl) (Wk.int64 (n := 0 + 1) (z := 1) (by omega) (by omega) (by omega) (by kernel_rfl)) ?_
                  refine Wk.rPure 1 (some 57) (.int .i64 1) rfl rfl (by kernel_rfl) (by kernel_rfl) ?_
                  refine Wk.rEnd 2 rfl ?_
                  refine Wk.nxt ?_
                  refine Wk.rdS ?_
                  refine wp_seq ?_
                  refine Wk.reg ?_
                  refine Wk.rPure 0 (some 58) (.bool true) rfl rfl (by kernel_rfl) (Wk.boolT (b := decide ((1 : Int) < (2 : Int))) (decide_eq_true (by decide)) (by kernel_rfl)) ?_
                  refine Wk.rEnd 1 rfl ?_
                  refine Wk.nxt ?_
                  refine wp_seq ?_
                  refine wp_cond_true (by kernel_rfl) ?_
                  refine wp_skip ?_
                  refine Wk.nxt ?_
                  refine wp_seq ?_
                  refine wp_block ?_
                  refine wp_seq ?_
                  refine Wk.reg ?_
                  refine Wk.rPure 0 (some 59) (.pointer (some ⟨W2.heap.size, 0, none⟩)) rfl rfl (by kernel_rfl) (by kernel_rfl) ?_
                  refine Wk.rPure 1 (some 14) (.pointer (some ⟨W2.heap.size, 0, none⟩)) rfl rfl (by kernel_rfl) (by kernel_rfl) ?_
                  refine Wk.rEnd 2 rfl ?_
                  refine Wk.nxt ?_
                  refine wp_seq ?_
                  refine Wk.reg ?_
                  refine Wk.rPure 0 (some 60) (.pointer (some ⟨W6.heap.size, 0, none⟩)) rfl rfl (by kernel_rfl) (by kernel_rfl) ?_
                  refine Wk.rPure 1 (some 61) (.int .i64 kd) rfl rfl (by kernel_rfl) (Wk.load1 3 (.tmp 60) rfl (by kernel_rfl) ⟨W6.heap.size, 0, none⟩ (by kernel_rfl) (.int .i64 kd) ((cell_of_row _ _ 0 _ _ _ hb3).trans rfl)) ?_
                  refine Wk.rEnd 2 rfl ?_
                  refine Wk.nxt ?_
                  refine wp_block ?_
                  refine wp_seq ?_
                  refine Wk.reg ?_
                  refine Wk.rPure 0 (some 63) (.bool false) rfl rfl (by kernel_rfl) (Wk.boolF (b := (kd == (1 : Int))) (beq_eq_false_iff_ne.2 (by first | exact hx4 | omega)) (by kernel_rfl)) ?_
                  refine Wk.rPure 1 (some 62) (.bool false) rfl rfl (by kernel_rfl) (by kernel_rfl) ?_
                  refine Wk.rEnd 2 rfl ?_
                  refine Wk.nxt ?_
                  refine wp_cond_false (by kernel_rfl) ?_
                  refine wp_seq ?_
                  refine Wk.reg ?_
                  refine Wk.rPure 0 (some 71) (.bool false) rfl rfl (by kernel_rfl) (Wk.boolF (b := (kd == (2 : Int))) (beq_eq_false_iff_ne.2 (by first | exact hx5 | omega)) (by kernel_rfl)) ?_
                  refine Wk.rPure 1 (some 70) (.bool false) rfl rfl (by kernel_rfl) (by kernel_rfl) ?_
                  refine Wk.rEnd 2 rfl ?_
                  refine Wk.nxt ?_
                  refine wp_cond_false (by kernel_rfl) ?_
                  refine wp_seq ?_
                  refine Wk.reg ?_
                  refine Wk.rPure 0 (some 77) (.bool false) rfl rfl (by kernel_rfl) (Wk.boolF (b := (kd == (3 : Int))) (beq_eq_false_iff_ne.2 (by first | exact hx6 | omega)) (by kernel_rfl)) ?_
                  refine Wk.rPure 1 (some 76) (.bool false) rfl rfl (by kernel_rfl) (by kernel_rfl) ?_
                  refine Wk.rEnd 2 rfl ?_
                  refine Wk.nxt ?_
                  refine wp_cond_false (by kernel_rfl) ?_
                  refine wp_skip ?_
                  refine Wk.inN ?_
                  refine Wk.inN ?_
                  refine Wk.nxt ?_
                  refine Wk.reg ?_
                  refine Wk.rPure 0 (some 82) (.int .i64 2) rfl rfl (by kernel_rfl) (Wk.int64 (n := 1 + 1) (z := 2) (by omega) (by omega) (by omega) (by kernel_rfl)) ?_
                  refine Wk.rPure 1 (some 57) (.int .i64 2) rfl rfl (by kernel_rfl) (by kernel_rfl) ?_
                  refine Wk.rEnd 2 rfl ?_
                  refine Wk.nxt ?_
                  refine Wk.rdS ?_
                  refine wp_seq ?_
                  refine Wk.reg ?_
                  refine Wk.rPure 0 (some 58) (.bool false) rfl rfl (by kernel_rfl) (Wk.boolF (b := decide ((2 : Int) < (2 : Int))) (decide_eq_false (by decide)) (by kernel_rfl)) ?_
                  refine Wk.rEnd 1 rfl ?_
                  refine Wk.nxt ?_
                  refine wp_seq ?_
                  refine wp_cond_false (by kernel_rfl) ?_
                  refine wp_exit ?_
                  refine Wk.thX ?_
                  refine Wk.thX ?_
                  refine Wk.inX ?_
                  refine Wk.inN ?_
                  refine Wk.nxt ?_
                  refine Wk.reg ?_
                  refine Wk.rPure 0 (some 83) (.int .i64 ((k + 1 : Nat) : Int)) rfl rfl (by kernel_rfl) (Wk.int64 (n := ((k : Nat) : Int) + 1) (z := ((k + 1 : Nat) : Int)) (by omega) (by omega) (by omega) (by kernel_rfl)) ?_
                  refine Wk.rPure 1 (some 46) (.int .i64 ((k + 1 : Nat) : Int)) rfl rfl (by kernel_rfl) (by kernel_rfl) ?_
                  refine Wk.rEnd 2 rfl ?_
                  refine Wk.nxt ?_
                  have hD32 := Mur.DskF.chg hD1 ch6 (fun s hs hl => trivial)
                  have hD33 := Mur.DskF.chg hD32 ch7 (fun s hs hl => ⟨by have := hM1 s hs; omega, trivial⟩)
                  have hD34 := Mur.DskF.chg hD2 ch6 (fun s hs hl => trivial)
                  have hD35 := Mur.DskF.chg hD34 ch7 (fun s hs hl => ⟨by have := hM2 s hs; omega, trivial⟩)
                  have kk26 := Wk.Chg.step HB ch6 trivial
                  have kk27 := Wk.Chg.step kk26 ch7 ⟨.inr (by omega), trivial⟩
                  refine ⟨_, ?_, k + 1, d, F1, F2, rfl, by kernel_rfl, (by omega), hD33, hD35, hJ, (by omega), (Wk.Chg.hp ch7 (Wk.Chg.hp ch6 hK trivial) ⟨by omega, trivial⟩), kk27⟩
                  · omega
        · refine wp_seq ?_
          refine Wk.reg ?_
          refine Wk.rPure 0 (some 47) (.bool false) rfl rfl (by kernel_rfl) (Wk.boolF (b := decide (((k : Nat) : Int) < ((n : Nat) : Int))) (decide_eq_false (by omega)) (by kernel_rfl)) ?_
          refine Wk.rEnd 1 rfl ?_
          refine Wk.nxt ?_
          refine wp_seq ?_
          refine wp_cond_false (by kernel_rfl) ?_
          refine wp_exit ?_
          refine Wk.thX ?_
          refine Wk.thX ?_
          refine Wk.inX ?_
          refine Wk.nxt ?_
          refine wp_seq ?_
          refine Wk.reg ?_
          refine Wk.rPure 0 (some 84) (.int .i64 cut) rfl rfl (by kernel_rfl) (by kernel_rfl) ?_
          refine Wk.rEx 1 (some 85) _ rfl rfl (by kernel_rfl) (Mur.to_u64 3 40 (.tmp 84) rfl (by kernel_rfl) Try.underlying40 .i64 cut (by kernel_rfl)) ?_
          rintro _ _ ⟨u1, rfl, rfl, hu1⟩
          refine Wk.rPure 2 (some 86) (.slice Z nz cz) rfl rfl (by kernel_rfl) (by kernel_rfl) ?_
          refine Wk.rPure 3 (some 87) (.int .i64 ((nz : Nat) : Int)) rfl rfl (by kernel_rfl) (by kernel_rfl) ?_
          refine Wk.rPure 4 (some 88) (.int .i64 ((nz + 1 : Nat) : Int)) rfl rfl (by kernel_rfl) (Wk.int64 (n := ((nz : Nat) : Int) + 1) (z := ((nz + 1 : Nat) : Int)) (by omega) (by omega) (by omega) (by kernel_rfl)) ?_
          refine Wk.rPure 5 (some 89) (.int .u64 ((nz + 1 : Nat) : Int)) rfl rfl (by kernel_rfl) (Mur.conv_int 3 40 (.tmp 88) rfl (by kernel_rfl) .u64 Try.underlying40 .i64 ((nz + 1 : Nat) : Int) (by kernel_rfl) (Mur.u64_nat (by omega))) ?_
          refine Wk.rPure 6 (some 90) (.int .u64 ((u1 % (nz + 1) : Nat) : Int)) rfl rfl (by kernel_rfl) (Mur.rem_u64 40 40 (.tmp 85) (.tmp 89) rfl u1 (nz + 1) (by kernel_rfl) (by kernel_rfl) (by omega)) ?_
          refine Wk.rEx 7 (some 91) _ rfl rfl (by kernel_rfl) (Mur.rem_i64 40 3 (.tmp 90) rfl (by kernel_rfl) Try.underlying3 u1 nz (by omega) (by kernel_rfl)) ?_
          rintro _ _ ⟨kq, rfl, rfl, hkq⟩
          refine Wk.rPure 8 (some 15) (.int .i64 ((kq : Nat) : Int)) rfl rfl (by kernel_rfl) (by kernel_rfl) ?_
          refine Wk.rEnd 9 rfl ?_
          refine Wk.nxt ?_
          refine wp_seq ?_
          refine wp_seq ?_
          refine Wk.reg ?_
          have hkd := Mur.DskF.ok hD1
          obtain ⟨⟨xb, xn⟩, ⟨yb, yn⟩⟩ := d
          replace hL : xb.length ≤ 1000 * k := hL
          have hzl := hz.1
          refine Wk.rPure 0 (some 92) (.pointer (some ⟨W1.heap.size, 0, none⟩)) rfl rfl (by kernel_rfl) (by kernel_rfl) ?_
          refine Wk.rPure 1 (some 93) (.slice Z nz cz) rfl rfl (by kernel_rfl) (by kernel_rfl) ?_
          refine Wk.rCall 2 (some 94) 10 [.tmp 92, .const (.int .i64 0), .tmp 93] #[23, 3, 26] [.pointer (some ⟨W1.heap.size, 0, none⟩), .int .i64 0, .slice Z nz cz] rfl rfl (by kernel_rfl) rfl (by kernel_rfl) (by kernel_rfl) ?_
          refine (Append_any W1.heap.size (⟨⟨xb, xn⟩, ⟨yb, yn⟩⟩ : Dk) F1 0 Z nz cz zs W6 hD1 (Mur.byt_chg hz HB (fun g off e hl => trivial)) hznil).mono ?_
          rw [show Mur.Dk.appE (⟨⟨xb, xn⟩, ⟨yb, yn⟩⟩ : Dk) 0 nz = 0 from (Mur.app_fits0 ⟨xb, xn⟩ ⟨yb, yn⟩ zs nz (Mur.byt_chg hz HB (fun g off e hl => trivial)).1 (by show xb.length + zs.length ≤ 1048576; omega)).1]
          rw [show Mur.Dk.app (⟨⟨xb, xn⟩, ⟨yb, yn⟩⟩ : Dk) 0 zs = (⟨⟨xb ++ zs, xn⟩, ⟨yb, yn⟩⟩ : Dk) from (Mur.app_fits0 ⟨xb, xn⟩ ⟨yb, yn⟩ zs nz (Mur.byt_chg hz HB (fun g off e hl => trivial)).1 (by show xb.length + zs.length ≤ 1048576; omega)).2]
          rintro _ W16 ⟨FF9, rfl, hD36, ch14, no7⟩
          have hM9 := Mur.DskF.mem hD36
          have zz16 := ch14.size
          have hD37 := Mur.DskF.chg hD2 ch14 (fun s hs hl => Mur.Dj.off1 hJ hs)
          have jj7 := Mur.Dj.step1 hJ no7 hM2 (by omega)
          refine ⟨_, rfl, ?_⟩
          refine Wk.rPure 3 (some 95) (.bool false) rfl rfl (by kernel_rfl) (Wk.boolF (b := ((0 : Int) != (0 : Int))) (bne_eq_false_iff_eq.2 (by decide)) (by kernel_rfl)) ?_
          refine Wk.rPure 4 (some 96) (.bool false) rfl rfl (by kernel_rfl) (by kernel_rfl) ?_
          refine Wk.rPure 5 (some 97) (.pointer (some ⟨W2.heap.size, 0, none⟩)) rfl rfl (by kernel_rfl) (by kernel_rfl) ?_
          refine Wk.rPure 6 (some 98) (.slice Z nz cz) rfl rfl (by kernel_rfl) (by kernel_rfl) ?_
          refine Wk.rPure 7 (some 99) (.int .i64 ((kq : Nat) : Int)) rfl rfl (by kernel_rfl) (by kernel_rfl) ?_
          refine Wk.rPure 8 (some 100) (.slice (Mur.cutA Z cz 0) kq cz) rfl rfl (by kernel_rfl) (Mur.run_op_cut_to 26 (.tmp 98) (.tmp 99) rfl 5 Try.underlying26 (by kernel_rfl) Z nz cz kq (by kernel_rfl) (by kernel_rfl) hkq hznc) ?_
          refine Wk.rCall 9 (some 101) 10 [.tmp 97, .const (.int .i64 0), .tmp 100] #[23, 3, 26] [.pointer (some ⟨W2.heap.size, 0, none⟩), .int .i64 0, .slice (Mur.cutA Z cz 0) kq cz] rfl rfl (by kernel_rfl) rfl (by kernel_rfl) (by kernel_rfl) ?_
          have kk28 := Wk.Chg.step HB ch14 (Mur.newOr_iff.2 (fun t ht => .inr (by have := hM1 t ht; omega)))
          refine (Append_any W2.heap.size (⟨⟨xb, xn⟩, ⟨yb, yn⟩⟩ : Dk) F2 0 (Mur.cutA Z cz 0) kq cz (zs.take kq) W16 hD37 (Mur.byt_chg (Mur.byt_to hz kq hkq hznc) kk28 (fun g off e hl => trivial)) (Mur.cut_none hznil)).mono ?_
          rw [show Mur.Dk.appE (⟨⟨xb, xn⟩, ⟨yb, yn⟩⟩ : Dk) 0 kq = 0 from (Mur.app_fits0 ⟨xb, xn⟩ ⟨yb, yn⟩ (zs.take kq) kq (Mur.byt_chg (Mur.byt_to hz kq hkq hznc) kk28 (fun g off e hl => trivial)).1 (by simp only [List.length_take]; omega)).1]
          rw [show Mur.Dk.app (⟨⟨xb, xn⟩, ⟨yb, yn⟩⟩ : Dk) 0 (zs.take kq) = (⟨⟨xb ++ zs.take kq, xn⟩, ⟨yb, yn⟩⟩ : Dk) from (Mur.app_fits0 ⟨xb, xn⟩ ⟨yb, yn⟩ (zs.take kq) kq (Mur.byt_chg (Mur.byt_to hz kq hkq hznc) kk28 (fun g off e hl => trivial)).1 (by simp only [List.length_take]; omega)).2]
          rintro _ W17 ⟨FF10, rfl, hD38, ch15, no8⟩
          have hM10 := Mur.DskF.mem hD38
          have zz17 := ch15.size
          have hD39 := Mur.DskF.chg hD36 ch15 (fun s hs hl => Mur.Dj.off2 jj7 hs)
          have jj8 := Mur.Dj.step2 jj7 no8 hM9 (by omega)
          refine ⟨_, rfl, ?_⟩
          refine Wk.rPure 10 (some 102) (.bool false) rfl rfl (by kernel_rfl) (Wk.boolF (b := ((0 : Int) != (0 : Int))) (bne_eq_false_iff_eq.2 (by decide)) (by kernel_rfl)) ?_
          refine Wk.rPure 11 (some 103) (.bool false) rfl rfl (by kernel_rfl) (by kernel_rfl) ?_
          refine Wk.rPure 12 (some 104) (.bool false) rfl rfl (by kernel_rfl) (by kernel_rfl) ?_
          refine Wk.rPure 13 (some 105) (.pointer (some ⟨W2.heap.size, 0, none⟩)) rfl rfl (by kernel_rfl) (by kernel_rfl) ?_
          refine Wk.rPure 14 (some 106) (.slice Z nz cz) rfl rfl (by kernel_rfl) (by kernel_rfl) ?_
          refine Wk.rPure 15 (some 107) (.int .i64 ((kq : Nat) : Int)) rfl rfl (by kernel_rfl) (by kernel_rfl) ?_
          refine Wk.rPure 16 (some 108) (.slice (Mur.cutA Z cz kq) (nz - kq) (cz - kq)) rfl rfl (by kernel_rfl) (Mur.run_op_from 26 (.tmp 106) (.tmp 107) rfl 5 Try.underlying26 (by kernel_rfl) Z nz cz kq (by kernel_rfl) (by kernel_rfl) hkq hznc) ?_
          refine Wk.rCall 17 (some 109) 10 [.tmp 105, .const (.int .i64 0), .tmp 108] #[23, 3, 26] [.pointer (some ⟨W2.heap.size, 0, none⟩), .int .i64 0, .slice (Mur.cutA Z cz kq) (nz - kq) (cz - kq)] rfl rfl (by kernel_rfl) rfl (by kernel_rfl) (by kernel_rfl) ?_
          have kk29 := Wk.Chg.step kk28 ch15 (Mur.newOr_iff.2 (fun t ht => .inr (by have := hM2 t ht; omega)))
          refine (Append_any W2.heap.size (⟨⟨xb ++ zs.take kq, xn⟩, ⟨yb, yn⟩⟩ : Dk) FF10 0 (Mur.cutA Z cz kq) (nz - kq) (cz - kq) (zs.drop kq) W17 hD38 (Mur.byt_chg (Mur.byt_from hz kq hkq hznc) kk29 (fun g off e hl => trivial)) (Mur.cut_none' hznil)).mono ?_
          rw [show Mur.Dk.appE (⟨⟨xb ++ zs.take kq, xn⟩, ⟨yb, yn⟩⟩ : Dk) 0 (nz - kq) = 0 from (Mur.app_fits0 ⟨xb ++ zs.take kq, xn⟩ ⟨yb, yn⟩ (zs.drop kq) (nz - kq) (Mur.byt_chg (Mur.byt_from hz kq hkq hznc) kk29 (fun g off e hl => trivial)).1 (by simp only [List.length_append, List.length_take, List.length_drop]; omega)).1]
          rw [show Mur.Dk.app (⟨⟨xb ++ zs.take kq, xn⟩, ⟨yb, yn⟩⟩ : Dk) 0 (zs.drop kq) = (⟨⟨xb ++ zs, xn⟩, ⟨yb, yn⟩⟩ : Dk) from ((Mur.app_fits0 ⟨xb ++ zs.take kq, xn⟩ ⟨yb, yn⟩ (zs.drop kq) (nz - kq) (Mur.byt_chg (Mur.byt_from hz kq hkq hznc) kk29 (fun g off e hl => trivial)).1 (by simp only [List.length_append, List.length_take, List.length_drop]; omega)).2.trans (Mur.app_two ⟨xb, xn⟩ ⟨yb, yn⟩ zs kq))]
          rintro _ W18 ⟨FF11, rfl, hD40, ch16, no9⟩
          have hM11 := Mur.DskF.mem hD40
          have zz18 := ch16.size
          have hD41 := Mur.DskF.chg hD39 ch16 (fun s hs hl => Mur.Dj.off2 jj8 hs)
          have jj9 := Mur.Dj.step2 jj8 no9 hM9 (by omega)
          refine ⟨_, rfl, ?_⟩
          refine Wk.rPure 18 (some 110) (.bool false) rfl rfl (by kernel_rfl) (Wk.boolF (b := ((0 : Int) != (0 : Int))) (bne_eq_false_iff_eq.2 (by decide)) (by kernel_rfl)) ?_
          refine Wk.rPure 19 (some 111) (.bool false) rfl rfl (by kernel_rfl) (by kernel_rfl) ?_
          refine Wk.rEnd 20 rfl ?_
          refine Wk.nxt ?_
          refine wp_cond_false (by kernel_rfl) ?_
          refine wp_skip ?_
          refine Wk.nxt ?_
          refine wp_seq ?_
          refine Wk.reg ?_
          refine Wk.rPure 0 (some 112) (.pointer (some ⟨W1.heap.size, 0, none⟩)) rfl rfl (by kernel_rfl) (by kernel_rfl) ?_
          refine Wk.rPure 1 (some 113) (.agg #[.int .i64 q0, .int .i64 q1]) rfl rfl (by kernel_rfl) (Wk.loadR 27 (.tmp 7) rfl _ Try.underlying27 rfl w.heap.size 0 (by kernel_rfl) ([.int .i64 q0, .int .i64 q1]) (by kernel_rfl) (Wk.range_row (Wk.Chg.hp ch16 (Wk.Chg.hp ch15 (Wk.Chg.hp ch14 hK (Mur.off_iff.2 (fun t ht => by have := hM1 t ht; omega))) (Mur.off_iff.2 (fun t ht => by have := hM2 t ht; omega))) (Mur.off_iff.2 (fun t ht => by have := hM10 t ht; omega))))) ?_
          refine Wk.rCall 2 (some 114) 15 [.tmp 112, .tmp 113] #[23, 27] [.pointer (some ⟨W1.heap.size, 0, none⟩), .agg #[.int .i64 q0, .int .i64 q1]] rfl rfl (by kernel_rfl) rfl (by kernel_rfl) (by kernel_rfl) ?_
          have hokE := Mur.DskF.ok hD41
          obtain ⟨E, hE⟩ : ∃ E, Mur.Dk.crash (⟨⟨xb ++ zs, xn⟩, ⟨yb, yn⟩⟩ : Dk) q0 q1 = E := ⟨_, rfl⟩
          refine (Crash_any W1.heap.size (⟨⟨xb ++ zs, xn⟩, ⟨yb, yn⟩⟩ : Dk) FF9 q0 q1 W18 hD41).mono ?_
          rw [hE]
          rintro _ W19 ⟨FF12, rfl, hD42, ch17, no10⟩
          have hM12 := Mur.DskF.mem hD42
          have zz19 := ch17.size
          have hD43 := Mur.DskF.chg hD40 ch17 (fun s hs hl => Mur.Dj.off1 jj9 hs)
          have jj10 := Mur.Dj.step1 jj9 no10 hM11 (by omega)
          refine ⟨_, rfl, ?_⟩
          refine Wk.rEnd 3 rfl ?_
          refine Wk.nxt ?_
          refine wp_seq ?_
          refine Wk.reg ?_
          refine Wk.rPure 0 (some 115) (.pointer (some ⟨W2.heap.size, 0, none⟩)) rfl rfl (by kernel_rfl) (by kernel_rfl) ?_
          refine Wk.rPure 1 (some 116) (.agg #[.int .i64 q0, .int .i64 q1]) rfl rfl (by kernel_rfl) (Wk.loadR 27 (.tmp 7) rfl _ Try.underlying27 rfl w.heap.size 0 (by kernel_rfl) ([.int .i64 q0, .int .i64 q1]) (by kernel_rfl) (Wk.range_row (Wk.Chg.hp ch17 (Wk.Chg.hp ch16 (Wk.Chg.hp ch15 (Wk.Chg.hp ch14 hK (Mur.off_iff.2 (fun t ht => by have := hM1 t ht; omega))) (Mur.off_iff.2 (fun t ht => by have := hM2 t ht; omega))) (Mur.off_iff.2 (fun t ht => by have := hM10 t ht; omega))) (Mur.off_iff.2 (fun t ht => by have := hM9 t ht; omega))))) ?_
          refine Wk.rCall 2 (some 117) 15 [.tmp 115, .tmp 116] #[23, 27] [.pointer (some ⟨W2.heap.size, 0, none⟩), .agg #[.int .i64 q0, .int .i64 q1]] rfl rfl (by kernel_rfl) rfl (by kernel_rfl) (by kernel_rfl) ?_
          refine (Crash_any W2.heap.size (⟨⟨xb ++ zs, xn⟩, ⟨yb, yn⟩⟩ : Dk) FF11 q0 q1 W19 hD43).mono ?_
          rw [hE]
          rintro _ W20 ⟨FF13, rfl, hD44, ch18, no11⟩
          have hM13 := Mur.DskF.mem hD44
          have zz20 := ch18.size
          have hD45 := Mur.DskF.chg hD42 ch18 (fun s hs hl => Mur.Dj.off2 jj10 hs)
          have jj11 := Mur.Dj.step2 jj10 no11 hM12 (by omega)
          refine ⟨_, rfl, ?_⟩
          refine Wk.rEnd 3 rfl ?_
          refine Wk.nxt ?_
          refine wp_seq ?_
          refine Wk.reg ?_
          refine Wk.rPure 0 (some 118) (.pointer (some ⟨W1.heap.size, 0, none⟩)) rfl rfl (by kernel_rfl) (by kernel_rfl) ?_
          refine Wk.rPure 1 (some 119) (.agg #[.int .i64 0, .int .i64 0]) rfl rfl (by kernel_rfl) (by kernel_rfl) ?_
          refine Wk.rCall 2 (some 120) 15 [.tmp 118, .tmp 119] #[23, 27] [.pointer (some ⟨W1.heap.size, 0, none⟩), .agg #[.int .i64 0, .int .i64 0]] rfl rfl (by kernel_rfl) rfl (by kernel_rfl) (by kernel_rfl) ?_
          refine (Crash_any W1.heap.size E FF12 0 0 W20 hD45).mono ?_
          rw [show Mur.Dk.crash E 0 0 = E from by rw [← hE]; exact Mur.crash_again_d _ hokE _ _]
          rintro _ W21 ⟨FF14, rfl, hD46, ch19, no12⟩
          have hM14 := Mur.DskF.mem hD46
          have zz21 := ch19.size
          have hD47 := Mur.DskF.chg hD44 ch19 (fun s hs hl => Mur.Dj.off1 jj11 hs)
          have jj12 := Mur.Dj.step1 jj11 no12 hM13 (by omega)
          refine ⟨_, rfl, ?_⟩
          refine Wk.rEnd 3 rfl ?_
          refine Wk.nxt ?_
          refine wp_seq ?_
          refine wp_seq ?_
          refine Wk.reg ?_
          refine Wk.rPure 0 (some 121) (.int .i64 0) rfl rfl (by kernel_rfl) (by kernel_rfl) ?_
          refine Wk.rEnd 1 rfl ?_
          refine Wk.nxt ?_
          refine wp_block ?_
          refine Wk.loopN 3 ?_
          refine Wk.rdS ?_
          refine wp_seq ?_
          refine Wk.reg ?_
          refine Wk.rPure 0 (some 122) (.bool true) rfl rfl (by kernel_rfl) (Wk.boolT (b := decide ((0 : Int) < (2 : Int))) (decide_eq_true (by decide)) (by kernel_rfl)) ?_
          refine Wk.rEnd 1 rfl ?_
          refine Wk.nxt ?_
          refine wp_seq ?_
          refine wp_cond_true (by kernel_rfl) ?_
          refine wp_skip ?_
          refine Wk.nxt ?_
          refine wp_seq ?_
          refine wp_block ?_
          refine wp_seq ?_
          refine Wk.reg ?_
          refine Wk.rPure 0 (some 123) (.int .i64 0) rfl rfl (by kernel_rfl) (by kernel_rfl) ?_
          refine Wk.rPure 1 (some 16) (.int .i64 0) rfl rfl (by kernel_rfl) (by kernel_rfl) ?_
          refine Wk.rEnd 2 rfl ?_
          refine Wk.nxt ?_
          refine wp_seq ?_
          refine Wk.dReg [] (by kernel_rfl) ?_
          intro W22 ch20 sz3
          have zz22 := ch20.size
          have sS1 : Wk.Chg [] W22 W22 := (Wk.Chg.refl _).more (by simp)
          refine Wk.dVal 0 (some 124) (.pointer (some ⟨W1.heap.size, 0, none⟩)) rfl rfl (by kernel_rfl) (by kernel_rfl) (by kernel_rfl) (fun _ _ _ h => h) (by kernel_rfl) (fun w' hw' => by kernel_rfl) sS1 ?_
          refine Wk.dVal 1 (some 125) (.int .i64 0) rfl rfl (by kernel_rfl) (by kernel_rfl) (by kernel_rfl) (fun _ _ _ h => h) (by kernel_rfl) (fun w' hw' => by kernel_rfl) sS1 ?_
          refine Wk.dVal 4 (some 128) (.pointer (some ⟨W2.heap.size, 0, none⟩)) rfl rfl (by kernel_rfl) (by kernel_rfl) (by kernel_rfl) (fun _ _ _ h => h) (by kernel_rfl) (fun w' hw' => by kernel_rfl) sS1 ?_
          refine Wk.dVal 5 (some 129) (.int .i64 0) rfl rfl (by kernel_rfl) (by kernel_rfl) (by kernel_rfl) (fun _ _ _ h => h) (by kernel_rfl) (fun w' hw' => by kernel_rfl) sS1 ?_
          refine Wk.dOp 2 (by kernel_rfl) ?_
          refine Wk.oCall (some 126) 13 [.tmp 124, .tmp 125] #[23, 3] [.pointer (some ⟨W1.heap.size, 0, none⟩), .int .i64 0] rfl rfl (by kernel_rfl) rfl (by kernel_rfl) (by kernel_rfl) ?_
          have hD48 := Mur.DskF.chg hD46 ch20 (fun s hs hl => trivial)
          refine (Bytes_any W1.heap.size E FF14 0 W22 hD48).mono ?_
          rintro _ W23 ⟨vv1, rfl, HO1, ch21⟩
          obtain ⟨AA1, nn1, rfl, hcc1, hmm2, hN1, HS1, hl1⟩ := Wk.own_sl HO1
          have hB3 : Byt W23 AA1 (Mur.Dk.bytes E 0).length (Mur.Dk.bytes E 0) := by obtain ⟨_, _, e_, _, _, hq⟩ := Mur.own_byt HO1; cases e_; exact hq
          have zz23 := ch21.size
          have sS2 := Wk.Chg.step sS1 ch21 trivial
          refine ⟨_, rfl, sS2, ?_⟩
          refine Wk.dOp2 3 6 (by kernel_rfl) ?_ ?_
          · refine Wk.oVal (some 127) (.string (Mur.str (Mur.Dk.bytes E 0))) rfl rfl (by kernel_rfl) (Mur.run_str 26 9 (.tmp 126) 5 rfl Try.underlying26 Try.underlying5 Try.underlying9 AA1 ((Mur.Dk.bytes E 0).length) nn1 (Mur.Dk.bytes E 0) (by kernel_rfl) hB3) ?_
            refine ⟨sS2, ?_⟩
            refine Wk.dOp 6 (by kernel_rfl) ?_
            refine Wk.oCall (some 130) 13 [.tmp 128, .tmp 129] #[23, 3] [.pointer (some ⟨W2.heap.size, 0, none⟩), .int .i64 0] rfl rfl (by kernel_rfl) rfl (by kernel_rfl) (by kernel_rfl) ?_
            have hD49 := Mur.DskF.chg hD47 ch20 (fun s hs hl => trivial)
            have hD50 := Mur.DskF.chg hD49 ch21 (fun s hs hl => trivial)
            refine (Bytes_any W2.heap.size E FF13 0 W23 hD50).mono ?_
            rintro _ W24 ⟨vv2, rfl, HO2, ch22⟩
            obtain ⟨AA2, nn2, rfl, hcc2, hmm3, hN2, HS2, hl2⟩ := Wk.own_sl HO2
            have hB4 : Byt W24 AA2 (Mur.Dk.bytes E 0).length (Mur.Dk.bytes E 0) := by obtain ⟨_, _, e_, _, _, hq⟩ := Mur.own_byt HO2; cases e_; exact hq
            have zz24 := ch22.size
            have sS3 := Wk.Chg.step sS2 ch22 trivial
            refine ⟨_, rfl, sS3, ?_⟩
            refine Wk.dOp 7 (by kernel_rfl) ?_
            refine Wk.oVal (some 131) (.string (Mur.str (Mur.Dk.bytes E 0))) rfl rfl (by kernel_rfl) (Mur.run_str 26 9 (.tmp 130) 5 rfl Try.underlying26 Try.underlying5 Try.underlying9 AA2 ((Mur.Dk.bytes E 0).length) nn2 (Mur.Dk.bytes E 0) (by kernel_rfl) hB4) ?_
            refine ⟨sS3, ?_⟩
            refine Wk.dVal 8 (some 132) (.bool false) rfl rfl (by kernel_rfl) (by kernel_rfl) (by kernel_rfl) (fun _ _ _ h => h) (by kernel_rfl) (fun w' hw' => (Wk.boolF (b := decide ((Mur.Dk.bytes E 0) ≠ (Mur.Dk.bytes E 0))) (decide_eq_false (fun h => h rfl)) (Mur.strne 9 9 (.tmp 127) (.tmp 131) rfl (Mur.Dk.bytes E 0) (Mur.Dk.bytes E 0) (by kernel_rfl) (by kernel_rfl)))) sS3 ?_
            refine Wk.dVal 9 (some 133) (.bool false) rfl rfl (by kernel_rfl) (by kernel_rfl) (by kernel_rfl) (fun _ _ _ h => h) (by kernel_rfl) (fun w' hw' => by kernel_rfl) sS3 ?_
            refine Wk.dVal 10 (some 134) (.pointer (some ⟨W1.heap.size, 0, none⟩)) rfl rfl (by kernel_rfl) (by kernel_rfl) (by kernel_rfl) (fun _ _ _ h => h) (by kernel_rfl) (fun w' hw' => by kernel_rfl) sS3 ?_
            refine Wk.dVal 11 (some 135) (.int .i64 0) rfl rfl (by kernel_rfl) (by kernel_rfl) (by kernel_rfl) (fun _ _ _ h => h) (by kernel_rfl) (fun w' hw' => by kernel_rfl) sS3 ?_
            refine Wk.dVal 13 (some 137) (.pointer (some ⟨W2.heap.size, 0, none⟩)) rfl rfl (by kernel_rfl) (by kernel_rfl) (by kernel_rfl) (fun _ _ _ h => h) (by kernel_rfl) (fun w' hw' => by kernel_rfl) sS3 ?_
            refine Wk.dVal 14 (some 138) (.int .i64 0) rfl rfl (by kernel_rfl) (by kernel_rfl) (by kernel_rfl) (fun _ _ _ h => h) (by kernel_rfl) (fun w' hw' => by kernel_rfl) sS3 ?_
            refine Wk.dOp 12 (by kernel_rfl) ?_
            refine Wk.oCall (some 136) 14 [.tmp 134, .tmp 135] #[23, 3] [.pointer (some ⟨W1.heap.size, 0, none⟩), .int .i64 0] rfl rfl (by kernel_rfl) rfl (by kernel_rfl) (by kernel_rfl) ?_
            have hD51 := Mur.DskF.chg hD48 ch21 (fun s hs hl => trivial)
            have hD52 := Mur.DskF.chg hD51 ch22 (fun s hs hl => trivial)
            refine (Synced_any W1.heap.size E FF14 0 W24 hD52).mono ?_
            rintro _ _ ⟨rfl, rfl⟩
            refine ⟨_, rfl, sS3, ?_⟩
            refine Wk.dOp 15 (by kernel_rfl) ?_
            refine Wk.oCall (some 139) 14 [.tmp 137, .tmp 138] #[23, 3] [.pointer (some ⟨W2.heap.size, 0, none⟩), .int .i64 0] rfl rfl (by kernel_rfl) rfl (by kernel_rfl) (by kernel_rfl) ?_
            have hD53 := Mur.DskF.chg hD50 ch22 (fun s hs hl => trivial)
            refine (Synced_any W2.heap.size E FF13 0 W24 hD53).mono ?_
            rintro _ _ ⟨rfl, rfl⟩
            refine ⟨_, rfl, sS3, ?_⟩
            refine Wk.dVal 16 (some 140) (.bool false) rfl rfl (by kernel_rfl) (by kernel_rfl) (by kernel_rfl) (fun _ _ _ h => h) (by kernel_rfl) (fun w' hw' => (Wk.boolF (b := ((((Mur.Dk.synced E 0) : Nat) : Int) != (((Mur.Dk.synced E 0) : Nat) : Int))) (bne_eq_false_iff_eq.2 (rfl)) (by kernel_rfl))) sS3 ?_
            refine Wk.dVal 17 (some 141) (.bool false) rfl rfl (by kernel_rfl) (by kernel_rfl) (by kernel_rfl) (fun _ _ _ h => h) (by kernel_rfl) (fun w' hw' => by kernel_rfl) sS3 ?_
            refine Wk.dEnd (by kernel_rfl) ?_
            refine Wk.nxt ?_
            refine wp_cond_false (by kernel_rfl) ?_
            refine wp_skip ?_
            refine Wk.inN ?_
            refine Wk.nxt ?_
            refine Wk.reg ?_
            refine Wk.rPure 0 (some 142) (.int .i64 1) rfl rfl (by kernel_rfl) (Wk.int64 (n := 0 + 1) (z := 1) (by omega) (by omega) (by omega) (by kernel_rfl)) ?_
            refine Wk.rPure 1 (some 121) (.int .i64 1) rfl rfl (by kernel_rfl) (by kernel_rfl) ?_
            refine Wk.rEnd 2 rfl ?_
            refine Wk.nxt ?_
            refine Wk.rdS ?_
            refine wp_seq ?_
            refine Wk.reg ?_
            refine Wk.rPure 0 (some 122) (.bool true) rfl rfl (by kernel_rfl) (Wk.boolT (b := decide ((1 : Int) < (2 : Int))) (decide_eq_true (by decide)) (by kernel_rfl)) ?_
            refine Wk.rEnd 1 rfl ?_
            refine Wk.nxt ?_
            refine wp_seq ?_
            refine wp_cond_true (by kernel_rfl) ?_
            refine wp_skip ?_
            refine Wk.nxt ?_
            refine wp_seq ?_
            refine wp_block ?_
            refine wp_seq ?_
            refine Wk.reg ?_
            refine Wk.rPure 0 (some 123) (.int .i64 1) rfl rfl (by kernel_rfl) (by kernel_rfl) ?_
            refine Wk.rPure 1 (some 16) (.int .i64 1) rfl rfl (by kernel_rfl) (by kernel_rfl) ?_
            refine Wk.rEnd 2 rfl ?_
            refine Wk.nxt ?_
            refine wp_seq ?_
            refine Wk.dReg [] (by kernel_rfl) ?_
            intro W25 ch23 sz4
            have zz25 := ch23.size
            have sS4 : Wk.Chg [] W25 W25 := (Wk.Chg.refl _).more (by simp)
            refine Wk.dVal 0 (some 124) (.pointer (some ⟨W1.heap.size, 0, none⟩)) rfl rfl (by kernel_rfl) (by kernel_rfl) (by kernel_rfl) (fun _ _ _ h => h) (by kernel_rfl) (fun w' hw' => by kernel_rfl) sS4 ?_
            refine Wk.dVal 1 (some 125) (.int .i64 1) rfl rfl (by kernel_rfl) (by kernel_rfl) (by kernel_rfl) (fun _ _ _ h => h) (by kernel_rfl) (fun w' hw' => by kernel_rfl) sS4 ?_
            refine Wk.dVal 4 (some 128) (.pointer (some ⟨W2.heap.size, 0, none⟩)) rfl rfl (by kernel_rfl) (by kernel_rfl) (by kernel_rfl) (fun _ _ _ h => h) (by kernel_rfl) (fun w' hw' => by kernel_rfl) sS4 ?_
            refine Wk.dVal 5 (some 129) (.int .i64 1) rfl rfl (by kernel_rfl) (by kernel_rfl) (by kernel_rfl) (fun _ _ _ h => h) (by kernel_rfl) (fun w' hw' => by kernel_rfl) sS4 ?_
            refine Wk.dOp 2 (by kernel_rfl) ?_
            refine Wk.oCall (some 126) 13 [.tmp 124, .tmp 125] #[23, 3] [.pointer (some ⟨W1.heap.size, 0, none⟩), .int .i64 1] rfl rfl (by kernel_rfl) rfl (by kernel_rfl) (by kernel_rfl) ?_
            have hD54 := Mur.DskF.chg hD52 ch23 (fun s hs hl => trivial)
            refine (Bytes_any W1.heap.size E FF14 1 W25 hD54).mono ?_
            rintro _ W26 ⟨vv3, rfl, HO3, ch24⟩
            obtain ⟨AA3, nn3, rfl, hcc3, hmm4, hN3, HS3, hl3⟩ := Wk.own_sl HO3
            have hB5 : Byt W26 AA3 (Mur.Dk.bytes E 1).length (Mur.Dk.bytes E 1) := by obtain ⟨_, _, e_, _, _, hq⟩ := Mur.own_byt HO3; cases e_; exact hq
            have zz26 := ch24.size
            have sS5 := Wk.Chg.step sS4 ch24 trivial
            refine ⟨_, rfl, sS5, ?_⟩
            refine Wk.dOp2 3 6 (by kernel_rfl) ?_ ?_
            · refine Wk.oVal (some 127) (.string (Mur.str (Mur.Dk.bytes E 1))) rfl rfl (by kernel_rfl) (Mur.run_str 26 9 (.tmp 126) 5 rfl Try.underlying26 Try.underlying5 Try.underlying9 AA3 ((Mur.Dk.bytes E 1).length) nn3 (Mur.Dk.bytes E 1) (by kernel_rfl) hB5) ?_
              refine ⟨sS5, ?_⟩
              refine Wk.dOp 6 (by kernel_rfl) ?_
              refine Wk.oCall (some 130) 13 [.tmp 128, .tmp 129] #[23, 3] [.pointer (some ⟨W2.heap.size, 0, none⟩), .int .i64 1] rfl rfl (by kernel_rfl) rfl (by kernel_rfl) (by kernel_rfl) ?_
              have hD55 := Mur.DskF.chg hD53 ch23 (fun s hs hl => trivial)
              have hD56 := Mur.DskF.chg hD55 ch24 (fun s hs hl => trivial)
              refine (Bytes_any W2.heap.size E FF13 1 W26 hD56).mono ?_
              rintro _ W27 ⟨vv4, rfl, HO4, ch25⟩
              obtain ⟨AA4, nn4, rfl, hcc4, hmm5, hN4, HS4, hl4⟩ := Wk.own_sl HO4
              have hB6 : Byt W27 AA4 (Mur.Dk.bytes E 1).length (Mur.Dk.bytes E 1) := by obtain ⟨_, _, e_, _, _, hq⟩ := Mur.own_byt HO4; cases e_; exact hq
              have zz27 := ch25.size
              have sS6 := Wk.Chg.step sS5 ch25 trivial
              refine ⟨_, rfl, sS6, ?_⟩
              refine Wk.dOp 7 (by kernel_rfl) ?_
              refine Wk.oVal (some 131) (.string (Mur.str (Mur.Dk.bytes E 1))) rfl rfl (by kernel_rfl) (Mur.run_str 26 9 (.tmp 130) 5 rfl Try.underlying26 Try.underlying5 Try.underlying9 AA4 ((Mur.Dk.bytes E 1).length) nn4 (Mur.Dk.bytes E 1) (by kernel_rfl) hB6) ?_
              refine ⟨sS6, ?_⟩
              refine Wk.dVal 8 (some 132) (.bool false) rfl rfl (by kernel_rfl) (by kernel_rfl) (by kernel_rfl) (fun _ _ _ h => h) (by kernel_rfl) (fun w' hw' => (Wk.boolF (b := decide ((Mur.Dk.bytes E 1) ≠ (Mur.Dk.bytes E 1))) (decide_eq_false (fun h => h rfl)) (Mur.strne 9 9 (.tmp 127) (.tmp 131) rfl (Mur.Dk.bytes E 1) (Mur.Dk.bytes E 1) (by kernel_rfl) (by kernel_rfl)))) sS6 ?_
              refine Wk.dVal 9 (some 133) (.bool false) rfl rfl (by kernel_rfl) (by kernel_rfl) (by kernel_rfl) (fun _ _ _ h => h) (by kernel_rfl) (fun w' hw' => by kernel_rfl) sS6 ?_
              refine Wk.dVal 10 (some 134) (.pointer (some ⟨W1.heap.size, 0, none⟩)) rfl rfl (by kernel_rfl) (by kernel_rfl) (by kernel_rfl) (fun _ _ _ h => h) (by kernel_rfl) (fun w' hw' => by kernel_rfl) sS6 ?_
              refine Wk.dVal 11 (some 135) (.int .i64 1) rfl rfl (by kernel_rfl) (by kernel_rfl) (by kernel_rfl) (fun _ _ _ h => h) (by kernel_rfl) (fun w' hw' => by kernel_rfl) sS6 ?_
              refine Wk.dVal 13 (some 137) (.pointer (some ⟨W2.heap.size, 0, none⟩)) rfl rfl (by kernel_rfl) (by kernel_rfl) (by kernel_rfl) (fun _ _ _ h => h) (by kernel_rfl) (fun w' hw' => by kernel_rfl) sS6 ?_
              refine Wk.dVal 14 (some 138) (.int .i64 1) rfl rfl (by kernel_rfl) (by kernel_rfl) (by kernel_rfl) (fun _ _ _ h => h) (by kernel_rfl) (fun w' hw' => by kernel_rfl) sS6 ?_
              refine Wk.dOp 12 (by kernel_rfl) ?_
              refine Wk.oCall (some 136) 14 [.tmp 134, .tmp 135] #[23, 3] [.pointer (some ⟨W1.heap.size, 0, none⟩), .int .i64 1] rfl rfl (by kernel_rfl) rfl (by kernel_rfl) (by kernel_rfl) ?_
              have hD57 := Mur.DskF.chg hD54 ch24 (fun s hs hl => trivial)
              have hD58 := Mur.DskF.chg hD57 ch25 (fun s hs hl => trivial)
              refine (Synced_any W1.heap.size E FF14 1 W27 hD58).mono ?_
              rintro _ _ ⟨rfl, rfl⟩
              refine ⟨_, rfl, sS6, ?_⟩
              refine Wk.dOp 15 (by kernel_rfl) ?_
              refine Wk.oCall (some 139) 14 [.tmp 137, .tmp 138] #[23, 3] [.pointer (some ⟨W2.heap.size, 0, none⟩), .int .i64 1] rfl rfl (by kernel_rfl) rfl (by kernel_rfl) (by kernel_rfl) ?_
              have hD59 := Mur.DskF.chg hD56 ch25 (fun s hs hl => trivial)
              refine (Synced_any W2.heap.size E FF13 1 W27 hD59).mono ?_
              rintro _ _ ⟨rfl, rfl⟩
              refine ⟨_, rfl, sS6, ?_⟩
              refine Wk.dVal 16 (some 140) (.bool false) rfl rfl (by kernel_rfl) (by kernel_rfl) (by kernel_rfl) (fun _ _ _ h => h) (by kernel_rfl) (fun w' hw' => (Wk.boolF (b := ((((Mur.Dk.synced E 1) : Nat) : Int) != (((Mur.Dk.synced E 1) : Nat) : Int))) (bne_eq_false_iff_eq.2 (rfl)) (by kernel_rfl))) sS6 ?_
              refine Wk.dVal 17 (some 141) (.bool false) rfl rfl (by kernel_rfl) (by kernel_rfl) (by kernel_rfl) (fun _ _ _ h => h) (by kernel_rfl) (fun w' hw' => by kernel_rfl) sS6 ?_
              refine Wk.dEnd (by kernel_rfl) ?_
              refine Wk.nxt ?_
              refine wp_cond_false (by kernel_rfl) ?_
              refine wp_skip ?_
              refine Wk.inN ?_
              refine Wk.nxt ?_
              refine Wk.reg ?_
              refine Wk.rPure 0 (some 142) (.int .i64 2) rfl rfl (by kernel_rfl) (Wk.int64 (n := 1 + 1) (z := 2) (by omega) (by omega) (by omega) (by kernel_rfl)) ?_
              refine Wk.rPure 1 (some 121) (.int .i64 2) rfl rfl (by kernel_rfl) (by kernel_rfl) ?_
              refine Wk.rEnd 2 rfl ?_
              refine Wk.nxt ?_
              refine Wk.rdS ?_
              refine wp_seq ?_
              refine Wk.reg ?_
              refine Wk.rPure 0 (some 122) (.bool false) rfl rfl (by kernel_rfl) (Wk.boolF (b := decide ((2 : Int) < (2 : Int))) (decide_eq_false (by decide)) (by kernel_rfl)) ?_
              refine Wk.rEnd 1 rfl ?_
              refine Wk.nxt ?_
              refine wp_seq ?_
              refine wp_cond_false (by kernel_rfl) ?_
              refine wp_exit ?_
              refine Wk.thX ?_
              refine Wk.thX ?_
              refine Wk.inX ?_
              refine Wk.nxt ?_
              refine wp_seq ?_
              refine Wk.reg ?_
              refine Wk.rCall 0 (some 143) 9 [] #[] [] rfl rfl (by kernel_rfl) rfl (by kernel_rfl) (by kernel_rfl) ?_
              refine (known_any W27).mono ?_
              rintro _ W28 ⟨rfl, hB7⟩
              have ch26 := Wk.Chg.ofBelow hB7
              have zz28 := ch26.size
              refine ⟨_, rfl, ?_⟩
              refine Wk.rPure 1 (some 8) (.bool true) rfl rfl (by kernel_rfl) (by kernel_rfl) ?_
              refine Wk.rEnd 2 rfl ?_
              refine Wk.nxt ?_
              refine wp_ret ?_
              have kk30 := Wk.Chg.step kk29 ch16 (Mur.newOr_iff.2 (fun t ht => .inr (by have := hM10 t ht; omega)))
              have kk31 := Wk.Chg.step kk30 ch17 (Mur.newOr_iff.2 (fun t ht => .inr (by have := hM9 t ht; omega)))
              have kk32 := Wk.Chg.step kk31 ch18 (Mur.newOr_iff.2 (fun t ht => .inr (by have := hM11 t ht; omega)))
              have kk33 := Wk.Chg.step kk32 ch19 (Mur.newOr_iff.2 (fun t ht => .inr (by have := hM12 t ht; omega)))
              have kk34 := Wk.Chg.step kk33 ch20 trivial
              have kk35 := Wk.Chg.step kk34 ch21 trivial
              have kk36 := Wk.Chg.step kk35 ch22 trivial
              have kk37 := Wk.Chg.step kk36 ch23 trivial
              have kk38 := Wk.Chg.step kk37 ch24 trivial
              have kk39 := Wk.Chg.step kk38 ch25 trivial
              have kk40 := Wk.Chg.step kk39 ch26 trivial
              refine Wk.ret (.bool true) rfl (by kernel_rfl) ?_
              exact ⟨rfl, Wk.Chg.below0 kk40⟩
            · refine Wk.oCall (some 130) 13 [.tmp 128, .tmp 129] #[23, 3] [.pointer (some ⟨W2.heap.size, 0, none⟩), .int .i64 1] rfl rfl (by kernel_rfl) rfl (by kernel_rfl) (by kernel_rfl) ?_
              have hD60 := Mur.DskF.chg hD53 ch23 (fun s hs hl => trivial)
              have hD61 := Mur.DskF.chg hD60 ch24 (fun s hs hl => trivial)
              refine (Bytes_any W2.heap.size E FF13 1 W26 hD61).mono ?_
              rintro _ W29 ⟨vv5, rfl, HO5, ch27⟩
              obtain ⟨AA5, nn5, rfl, hcc5, hmm6, hN5, HS5, hl5⟩ := Wk.own_sl HO5
              have hB8 : Byt W29 AA5 (Mur.Dk.bytes E 1).length (Mur.Dk.bytes E 1) := by obtain ⟨_, _, e_, _, _, hq⟩ := Mur.own_byt HO5; cases e_; exact hq
              have zz29 := ch27.size
              have sS7 := Wk.Chg.step sS5 ch27 trivial
              refine ⟨_, rfl, sS7, ?_⟩
              refine Wk.dOp2 3 7 (by kernel_rfl) ?_ ?_
              · refine Wk.oVal (some 127) (.string (Mur.str (Mur.Dk.bytes E 1))) rfl rfl (by kernel_rfl) (Mur.run_str 26 9 (.tmp 126) 5 rfl Try.underlying26 Try.underlying5 Try.underlying9 AA3 ((Mur.Dk.bytes E 1).length) nn3 (Mur.Dk.bytes E 1) (by kernel_rfl) (Mur.byt_chg hB5 ch27 (fun g off e hl => trivial))) ?_
                refine ⟨sS7, ?_⟩
                refine Wk.dOp 7 (by kernel_rfl) ?_
                refine Wk.oVal (some 131) (.string (Mur.str (Mur.Dk.bytes E 1))) rfl rfl (by kernel_rfl) (Mur.run_str 26 9 (.tmp 130) 5 rfl Try.underlying26 Try.underlying5 Try.underlying9 AA5 ((Mur.Dk.bytes E 1).length) nn5 (Mur.Dk.bytes E 1) (by kernel_rfl) hB8) ?_
                refine ⟨sS7, ?_⟩
                refine Wk.dVal 8 (some 132) (.bool false) rfl rfl (by kernel_rfl) (by kernel_rfl) (by kernel_rfl) (fun _ _ _ h => h) (by kernel_rfl) (fun w' hw' => (Wk.boolF (b := decide ((Mur.Dk.bytes E 1) ≠ (Mur.Dk.bytes E 1))) (decide_eq_false (fun h => h rfl)) (Mur.strne 9 9 (.tmp 127) (.tmp 131) rfl (Mur.Dk.bytes E 1) (Mur.Dk.bytes E 1) (by kernel_rfl) (by kernel_rfl)))) sS7 ?_
                refine Wk.dVal 9 (some 133) (.bool false) rfl rfl (by kernel_rfl) (by kernel_rfl) (by kernel_rfl) (fun _ _ _ h => h) (by kernel_rfl) (fun w' hw' => by kernel_rfl) sS7 ?_
                refine Wk.dVal 10 (some 134) (.pointer (some ⟨W1.heap.size, 0, none⟩)) rfl rfl (by kernel_rfl) (by kernel_rfl) (by kernel_rfl) (fun _ _ _ h => h) (by kernel_rfl) (fun w' hw' => by kernel_rfl) sS7 ?_
                refine Wk.dVal 11 (some 135) (.int .i64 1) rfl rfl (by kernel_rfl) (by kernel_rfl) (by kernel_rfl) (fun _ _ _ h => h) (by kernel_rfl) (fun w' hw' => by kernel_rfl) sS7 ?_
                refine Wk.dVal 13 (some 137) (.pointer (some ⟨W2.heap.size, 0, none⟩)) rfl rfl (by kernel_rfl) (by kernel_rfl) (by kernel_rfl) (fun _ _ _ h => h) (by kernel_rfl) (fun w' hw' => by kernel_rfl) sS7 ?_
                refine Wk.dVal 14 (some 138) (.int .i64 1) rfl rfl (by kernel_rfl) (by kernel_rfl) (by kernel_rfl) (fun _ _ _ h => h) (by kernel_rfl) (fun w' hw' => by kernel_rfl) sS7 ?_
                refine Wk.dOp 12 (by kernel_rfl) ?_
                refine Wk.oCall (some 136) 14 [.tmp 134, .tmp 135] #[23, 3] [.pointer (some ⟨W1.heap.size, 0, none⟩), .int .i64 1] rfl rfl (by kernel_rfl) rfl (by kernel_rfl) (by kernel_rfl) ?_
                have hD62 := Mur.DskF.chg hD54 ch24 (fun s hs hl => trivial)
                have hD63 := Mur.DskF.chg hD62 ch27 (fun s hs hl => trivial)
                refine (Synced_any W1.heap.size E FF14 1 W29 hD63).mono ?_
                rintro _ _ ⟨rfl, rfl⟩
                refine ⟨_, rfl, sS7, ?_⟩
                refine Wk.dOp 15 (by kernel_rfl) ?_
                refine Wk.oCall (some 139) 14 [.tmp 137, .tmp 138] #[23, 3] [.pointer (some ⟨W2.heap.size, 0, none⟩), .int .i64 1] rfl rfl (by kernel_rfl) rfl (by kernel_rfl) (by kernel_rfl) ?_
                have hD64 := Mur.DskF.chg hD61 ch27 (fun s hs hl => trivial)
                refine (Synced_any W2.heap.size E FF13 1 W29 hD64).mono ?_
                rintro _ _ ⟨rfl, rfl⟩
                refine ⟨_, rfl, sS7, ?_⟩
                refine Wk.dVal 16 (some 140) (.bool false) rfl rfl (by kernel_rfl) (by kernel_rfl) (by kernel_rfl) (fun _ _ _ h => h) (by kernel_rfl) (fun w' hw' => (Wk.boolF (b := ((((Mur.Dk.synced E 1) : Nat) : Int) != (((Mur.Dk.synced E 1) : Nat) : Int))) (bne_eq_false_iff_eq.2 (rfl)) (by kernel_rfl))) sS7 ?_
                refine Wk.dVal 17 (some 141) (.bool false) rfl rfl (by kernel_rfl) (by kernel_rfl) (by kernel_rfl) (fun _ _ _ h => h) (by kernel_rfl) (fun w' hw' => by kernel_rfl) sS7 ?_
                refine Wk.dEnd (by kernel_rfl) ?_
                refine Wk.nxt ?_
                refine wp_cond_false (by kernel_rfl) ?_
                refine wp_skip ?_
                refine Wk.inN ?_
                refine Wk.nxt ?_
                refine Wk.reg ?_
                refine Wk.rPure 0 (some 142) (.int .i64 2) rfl rfl (by kernel_rfl) (Wk.int64 (n := 1 + 1) (z := 2) (by omega) (by omega) (by omega) (by kernel_rfl)) ?_
                refine Wk.rPure 1 (some 121) (.int .i64 2) rfl rfl (by kernel_rfl) (by kernel_rfl) ?_
                refine Wk.rEnd 2 rfl ?_
                refine Wk.nxt ?_
                refine Wk.rdS ?_
                refine wp_seq ?_
                refine Wk.reg ?_
                refine Wk.rPure 0 (some 122) (.bool false) rfl rfl (by kernel_rfl) (Wk.boolF (b := decide ((2 : Int) < (2 : Int))) (decide_eq_false (by decide)) (by kernel_rfl)) ?_
                refine Wk.rEnd 1 rfl ?_
                refine Wk.nxt ?_
                refine wp_seq ?_
                refine wp_cond_false (by kernel_rfl) ?_
                refine wp_exit ?_
                refine Wk.thX ?_
                refine Wk.thX ?_
                refine Wk.inX ?_
                refine Wk.nxt ?_
                refine wp_seq ?_
                refine Wk.reg ?_
                refine Wk.rCall 0 (some 143) 9 [] #[] [] rfl rfl (by kernel_rfl) rfl (by kernel_rfl) (by kernel_rfl) ?_
                refine (known_any W29).mono ?_
                rintro _ W30 ⟨rfl, hB9⟩
                have ch28 := Wk.Chg.ofBelow hB9
                have zz30 := ch28.size
                refine ⟨_, rfl, ?_⟩
                refine Wk.rPure 1 (some 8) (.bool true) rfl rfl (by kernel_rfl) (by kernel_rfl) ?_
                refine Wk.rEnd 2 rfl ?_
                refine Wk.nxt ?_
                refine wp_ret ?_
                have kk41 := Wk.Chg.step kk29 ch16 (Mur.newOr_iff.2 (fun t ht => .inr (by have := hM10 t ht; omega)))
                have kk42 := Wk.Chg.step kk41 ch17 (Mur.newOr_iff.2 (fun t ht => .inr (by have := hM9 t ht; omega)))
                have kk43 := Wk.Chg.step kk42 ch18 (Mur.newOr_iff.2 (fun t ht => .inr (by have := hM11 t ht; omega)))
                have kk44 := Wk.Chg.step kk43 ch19 (Mur.newOr_iff.2 (fun t ht => .inr (by have := hM12 t ht; omega)))
                have kk45 := Wk.Chg.step kk44 ch20 trivial
                have kk46 := Wk.Chg.step kk45 ch21 trivial
                have kk47 := Wk.Chg.step kk46 ch22 trivial
                have kk48 := Wk.Chg.step kk47 ch23 trivial
                have kk49 := Wk.Chg.step kk48 ch24 trivial
                have kk50 := Wk.Chg.step kk49 ch27 trivial
                have kk51 := Wk.Chg.step kk50 ch28 trivial
                refine Wk.ret (.bool true) rfl (by kernel_rfl) ?_
                exact ⟨rfl, Wk.Chg.below0 kk51⟩
              · refine Wk.oVal (some 131) (.string (Mur.str (Mur.Dk.bytes E 1))) rfl rfl (by kernel_rfl) (Mur.run_str 26 9 (.tmp 130) 5 rfl Try.underlying26 Try.underlying5 Try.underlying9 AA5 ((Mur.Dk.bytes E 1).length) nn5 (Mur.Dk.bytes E 1) (by kernel_rfl) hB8) ?_
                refine ⟨sS7, ?_⟩
                refine Wk.dOp 3 (by kernel_rfl) ?_
                refine Wk.oVal (some 127) (.string (Mur.str (Mur.Dk.bytes E 1))) rfl rfl (by kernel_rfl) (Mur.run_str 26 9 (.tmp 126) 5 rfl Try.underlying26 Try.underlying5 Try.underlying9 AA3 ((Mur.Dk.bytes E 1).length) nn3 (Mur.Dk.bytes E 1) (by kernel_rfl) (Mur.byt_chg hB5 ch27 (fun g off e hl => trivial))) ?_
                refine ⟨sS7, ?_⟩
                refine Wk.dVal 8 (some 132) (.bool false) rfl rfl (by kernel_rfl) (by kernel_rfl) (by kernel_rfl) (fun _ _ _ h => h) (by kernel_rfl) (fun w' hw' => (Wk.boolF (b := decide ((Mur.Dk.bytes E 1) ≠ (Mur.Dk.bytes E 1))) (decide_eq_false (fun h => h rfl)) (Mur.strne 9 9 (.tmp 127) (.tmp 131) rfl (Mur.Dk.bytes E 1) (Mur.Dk.bytes E 1) (by kernel_rfl) (by kernel_rfl)))) sS7 ?_
                refine Wk.dVal 9 (some 133) (.bool false) rfl rfl (by kernel_rfl) (by kernel_rfl) (by kernel_rfl) (fun _ _ _ h => h) (by kernel_rfl) (fun w' hw' => by kernel_rfl) sS7 ?_
                refine Wk.dVal 10 (some 134) (.pointer (some ⟨W1.heap.size, 0, none⟩)) rfl rfl (by kernel_rfl) (by kernel_rfl) (by kernel_rfl) (fun _ _ _ h => h) (by kernel_rfl) (fun w' hw' => by kernel_rfl) sS7 ?_
                refine Wk.dVal 11 (some 135) (.int .i64 1) rfl rfl (by kernel_rfl) (by kernel_rfl) (by kernel_rfl) (fun _ _ _ h => h) (by kernel_rfl) (fun w' hw' => by kernel_rfl) sS7 ?_
                refine Wk.dVal 13 (some 137) (.pointer (some ⟨W2.heap.size, 0, none⟩)) rfl rfl (by kernel_rfl) (by kernel_rfl) (by kernel_rfl) (fun _ _ _ h => h) (by kernel_rfl) (fun w' hw' => by kernel_rfl) sS7 ?_
                refine Wk.dVal 14 (some 138) (.int .i64 1) rfl rfl (by kernel_rfl) (by kernel_rfl) (by kernel_rfl) (fun _ _ _ h => h) (by kernel_rfl) (fun w' hw' => by kernel_rfl) sS7 ?_
                refine Wk.dOp 12 (by kernel_rfl) ?_
                refine Wk.oCall (some 136) 14 [.tmp 134, .tmp 135] #[23, 3] [.pointer (some ⟨W1.heap.size, 0, none⟩), .int .i64 1] rfl rfl (by kernel_rfl) rfl (by kernel_rfl) (by kernel_rfl) ?_
                have hD65 := Mur.DskF.chg hD54 ch24 (fun s hs hl => trivial)
                have hD66 := Mur.DskF.chg hD65 ch27 (fun s hs hl => trivial)
                refine (Synced_any W1.heap.size E FF14 1 W29 hD66).mono ?_
                rintro _ _ ⟨rfl, rfl⟩
                refine ⟨_, rfl, sS7, ?_⟩
                refine Wk.dOp 15 (by kernel_rfl) ?_
                refine Wk.oCall (some 139) 14 [.tmp 137, .tmp 138] #[23, 3] [.pointer (some ⟨W2.heap.size, 0, none⟩), .int .i64 1] rfl rfl (by kernel_rfl) rfl (by kernel_rfl) (by kernel_rfl) ?_
                have hD67 := Mur.DskF.chg hD61 ch27 (fun s hs hl => trivial)
                refine (Synced_any W2.heap.size E FF13 1 W29 hD67).mono ?_
                rintro _ _ ⟨rfl, rfl⟩
                refine ⟨_, rfl, sS7, ?_⟩
                refine Wk.dVal 16 (some 140) (.bool false) rfl rfl (by kernel_rfl) (by kernel_rfl) (by kernel_rfl) (fun _ _ _ h => h) (by kernel_rfl) (fun w' hw' => (Wk.boolF (b := ((((Mur.Dk.synced E 1) : Nat) : Int) != (((Mur.Dk.synced E 1) : Nat) : Int))) (bne_eq_false_iff_eq.2 (rfl)) (by kernel_rfl))) sS7 ?_
                refine Wk.dVal 17 (some 141) (.bool false) rfl rfl (by kernel_rfl) (by kernel_rfl) (by kernel_rfl) (fun _ _ _ h => h) (by kernel_rfl) (fun w' hw' => by kernel_rfl) sS7 ?_
                refine Wk.dEnd (by kernel_rfl) ?_
                refine Wk.nxt ?_
                refine wp_cond_false (by kernel_rfl) ?_
                refine wp_skip ?_
                refine Wk.inN ?_
                refine Wk.nxt ?_
                refine Wk.reg ?_
                refine Wk.rPure 0 (some 142) (.int .i64 2) rfl rfl (by kernel_rfl) (Wk.int64 (n := 1 + 1) (z := 2) (by omega) (by omega) (by omega) (by kernel_rfl)) ?_
                refine Wk.rPure 1 (some 121) (.int .i64 2) rfl rfl (by kernel_rfl) (by kernel_rfl) ?_
                refine Wk.rEnd 2 rfl ?_
                refine Wk.nxt ?_
                refine Wk.rdS ?_
                refine wp_seq ?_
                refine Wk.reg ?_
                refine Wk.rPure 0 (some 122) (.bool false) rfl rfl (by kernel_rfl) (Wk.boolF (b := decide ((2 : Int) < (2 : Int))) (decide_eq_false (by decide)) (by kernel_rfl)) ?_
                refine Wk.rEnd 1 rfl ?_
                refine Wk.nxt ?_
                refine wp_seq ?_
                refine wp_cond_false (by kernel_rfl) ?_
                refine wp_exit ?_
                refine Wk.thX ?_
                refine Wk.thX ?_
                refine Wk.inX ?_
                refine Wk.nxt ?_
                refine wp_seq ?_
                refine Wk.reg ?_
                refine Wk.rCall 0 (some 143) 9 [] #[] [] rfl rfl (by kernel_rfl) rfl (by kernel_rfl) (by kernel_rfl) ?_
                refine (known_any W29).mono ?_
                rintro _ W31 ⟨rfl, hB10⟩
                have ch29 := Wk.Chg.ofBelow hB10
                have zz31 := ch29.size
                refine ⟨_, rfl, ?_⟩
                refine Wk.rPure 1 (some 8) (.bool true) rfl rfl (by kernel_rfl) (by kernel_rfl) ?_
                refine Wk.rEnd 2 rfl ?_
                refine Wk.nxt ?_
                refine wp_ret ?_
                have kk52 := Wk.Chg.step kk29 ch16 (Mur.newOr_iff.2 (fun t ht => .inr (by have := hM10 t ht; omega)))
                have kk53 := Wk.Chg.step kk52 ch17 (Mur.newOr_iff.2 (fun t ht => .inr (by have := hM9 t ht; omega)))
                have kk54 := Wk.Chg.step kk53 ch18 (Mur.newOr_iff.2 (fun t ht => .inr (by have := hM11 t ht; omega)))
                have kk55 := Wk.Chg.step kk54 ch19 (Mur.newOr_iff.2 (fun t ht => .inr (by have := hM12 t ht; omega)))
                have kk56 := Wk.Chg.step kk55 ch20 trivial
                have kk57 := Wk.Chg.step kk56 ch21 trivial
                have kk58 := Wk.Chg.step kk57 ch22 trivial
                have kk59 := Wk.Chg.step kk58 ch23 trivial
                have kk60 := Wk.Chg.step kk59 ch24 trivial
                have kk61 := Wk.Chg.step kk60 ch27 trivial
                have kk62 := Wk.Chg.step kk61 ch29 trivial
                refine Wk.ret (.bool true) rfl (by kernel_rfl) ?_
                exact ⟨rfl, Wk.Chg.below0 kk62⟩
          · refine Wk.oCall (some 130) 13 [.tmp 128, .tmp 129] #[23, 3] [.pointer (some ⟨W2.heap.size, 0, none⟩), .int .i64 0] rfl rfl (by kernel_rfl) rfl (by kernel_rfl) (by kernel_rfl) ?_
            have hD68 := Mur.DskF.chg hD47 ch20 (fun s hs hl => trivial)
            have hD69 := Mur.DskF.chg hD68 ch21 (fun s hs hl => trivial)
            refine (Bytes_any W2.heap.size E FF13 0 W23 hD69).mono ?_
            rintro _ W32 ⟨vv6, rfl, HO6, ch30⟩
            obtain ⟨AA6, nn6, rfl, hcc6, hmm7, hN6, HS6, hl6⟩ := Wk.own_sl HO6
            have hB11 : Byt W32 AA6 (Mur.Dk.bytes E 0).length (Mur.Dk.bytes E 0) := by obtain ⟨_, _, e_, _, _, hq⟩ := Mur.own_byt HO6; cases e_; exact hq
            have zz32 := ch30.size
            have sS8 := Wk.Chg.step sS2 ch30 trivial
            refine ⟨_, rfl, sS8, ?_⟩
            refine Wk.dOp2 3 7 (by kernel_rfl) ?_ ?_
            · refine Wk.oVal (some 127) (.string (Mur.str (Mur.Dk.bytes E 0))) rfl rfl (by kernel_rfl) (Mur.run_str 26 9 (.tmp 126) 5 rfl Try.underlying26 Try.underlying5 Try.underlying9 AA1 ((Mur.Dk.bytes E 0).length) nn1 (Mur.Dk.bytes E 0) (by kernel_rfl) (Mur.byt_chg hB3 ch30 (fun g off e hl => trivial))) ?_
              refine ⟨sS8, ?_⟩
              refine Wk.dOp 7 (by kernel_rfl) ?_
              refine Wk.oVal (some 131) (.string (Mur.str (Mur.Dk.bytes E 0))) rfl rfl (by kernel_rfl) (Mur.run_str 26 9 (.tmp 130) 5 rfl Try.underlying26 Try.underlying5 Try.underlying9 AA6 ((Mur.Dk.bytes E 0).length) nn6 (Mur.Dk.bytes E 0) (by kernel_rfl) hB11) ?_
              refine ⟨sS8, ?_⟩
              refine Wk.dVal 8 (some 132) (.bool false) rfl rfl (by kernel_rfl) (by kernel_rfl) (by kernel_rfl) (fun _ _ _ h => h) (by kernel_rfl) (fun w' hw' => (Wk.boolF (b := decide ((Mur.Dk.bytes E 0) ≠ (Mur.Dk.bytes E 0))) (decide_eq_false (fun h => h rfl)) (Mur.strne 9 9 (.tmp 127) (.tmp 131) rfl (Mur.Dk.bytes E 0) (Mur.Dk.bytes E 0) (by kernel_rfl) (by kernel_rfl)))) sS8 ?_
              refine Wk.dVal 9 (some 133) (.bool false) rfl rfl (by kernel_rfl) (by kernel_rfl) (by kernel_rfl) (fun _ _ _ h => h) (by kernel_rfl) (fun w' hw' => by kernel_rfl) sS8 ?_
              refine Wk.dVal 10 (some 134) (.pointer (some ⟨W1.heap.size, 0, none⟩)) rfl rfl (by kernel_rfl) (by kernel_rfl) (by kernel_rfl) (fun _ _ _ h => h) (by kernel_rfl) (fun w' hw' => by kernel_rfl) sS8 ?_
              refine Wk.dVal 11 (some 135) (.int .i64 0) rfl rfl (by kernel_rfl) (by kernel_rfl) (by kernel_rfl) (fun _ _ _ h => h) (by kernel_rfl) (fun w' hw' => by kernel_rfl) sS8 ?_
              refine Wk.dVal 13 (some 137) (.pointer (some ⟨W2.heap.size, 0, none⟩)) rfl rfl (by kernel_rfl) (by kernel_rfl) (by kernel_rfl) (fun _ _ _ h => h) (by kernel_rfl) (fun w' hw' => by kernel_rfl) sS8 ?_
              refine Wk.dVal 14 (some 138) (.int .i64 0) rfl rfl (by kernel_rfl) (by kernel_rfl) (by kernel_rfl) (fun _ _ _ h => h) (by kernel_rfl) (fun w' hw' => by kernel_rfl) sS8 ?_
              refine Wk.dOp 12 (by kernel_rfl) ?_
              refine Wk.oCall (some 136) 14 [.tmp 134, .tmp 135] #[23, 3] [.pointer (some ⟨W1.heap.size, 0, none⟩), .int .i64 0] rfl rfl (by kernel_rfl) rfl (by kernel_rfl) (by kernel_rfl) ?_
              have hD70 := Mur.DskF.chg hD48 ch21 (fun s hs hl => trivial)
              have hD71 := Mur.DskF.chg hD70 ch30 (fun s hs hl => trivial)
              refine (Synced_any W1.heap.size E FF14 0 W32 hD71).mono ?_
              rintro _ _ ⟨rfl, rfl⟩
              refine ⟨_, rfl, sS8, ?_⟩
              refine Wk.dOp 15 (by kernel_rfl) ?_
              refine Wk.oCall (some 139) 14 [.tmp 137, .tmp 138] #[23, 3] [.pointer (some ⟨W2.heap.size, 0, none⟩), .int .i64 0] rfl rfl (by kernel_rfl) rfl (by kernel_rfl) (by kernel_rfl) ?_
              have hD72 := Mur.DskF.chg hD69 ch30 (fun s hs hl => trivial)
              refine (Synced_any W2.heap.size E FF13 0 W32 hD72).mono ?_
              rintro _ _ ⟨rfl, rfl⟩
              refine ⟨_, rfl, sS8, ?_⟩
              refine Wk.dVal 16 (some 140) (.bool false) rfl rfl (by kernel_rfl) (by kernel_rfl) (by kernel_rfl) (fun _ _ _ h => h) (by kernel_rfl) (fun w' hw' => (Wk.boolF (b := ((((Mur.Dk.synced E 0) : Nat) : Int) != (((Mur.Dk.synced E 0) : Nat) : Int))) (bne_eq_false_iff_eq.2 (rfl)) (by kernel_rfl))) sS8 ?_
              refine Wk.dVal 17 (some 141) (.bool false) rfl rfl (by kernel_rfl) (by kernel_rfl) (by kernel_rfl) (fun _ _ _ h => h) (by kernel_rfl) (fun w' hw' => by kernel_rfl) sS8 ?_
              refine Wk.dEnd (by kernel_rfl) ?_
              refine Wk.nxt ?_
              refine wp_cond_false (by kernel_rfl) ?_
              refine wp_skip ?_
              refine Wk.inN ?_
              refine Wk.nxt ?_
              refine Wk.reg ?_
              refine Wk.rPure 0 (some 142) (.int .i64 1) rfl rfl (by kernel_rfl) (Wk.int64 (n := 0 + 1) (z := 1) (by omega) (by omega) (by omega) (by kernel_rfl)) ?_
              refine Wk.rPure 1 (some 121) (.int .i64 1) rfl rfl (by kernel_rfl) (by kernel_rfl) ?_
              refine Wk.rEnd 2 rfl ?_
              refine Wk.nxt ?_
              refine Wk.rdS ?_
              refine wp_seq ?_
              refine Wk.reg ?_
              refine Wk.rPure 0 (some 122) (.bool true) rfl rfl (by kernel_rfl) (Wk.boolT (b := decide ((1 : Int) < (2 : Int))) (decide_eq_true (by decide)) (by kernel_rfl)) ?_
              refine Wk.rEnd 1 rfl ?_
              refine Wk.nxt ?_
              refine wp_seq ?_
              refine wp_cond_true (by kernel_rfl) ?_
              refine wp_skip ?_
              refine Wk.nxt ?_
              refine wp_seq ?_
              refine wp_block ?_
              refine wp_seq ?_
              refine Wk.reg ?_
              refine Wk.rPure 0 (some 123) (.int .i64 1) rfl rfl (by kernel_rfl) (by kernel_rfl) ?_
              refine Wk.rPure 1 (some 16) (.int .i64 1) rfl rfl (by kernel_rfl) (by kernel_rfl) ?_
              refine Wk.rEnd 2 rfl ?_
              refine Wk.nxt ?_
              refine wp_seq ?_
              refine Wk.dReg [] (by kernel_rfl) ?_
              intro W33 ch31 sz5
              have zz33 := ch31.size
              have sS9 : Wk.Chg [] W33 W33 := (Wk.Chg.refl _).more (by simp)
              refine Wk.dVal 0 (some 124) (.pointer (some ⟨W1.heap.size, 0, none⟩)) rfl rfl (by kernel_rfl) (by kernel_rfl) (by kernel_rfl) (fun _ _ _ h => h) (by kernel_rfl) (fun w' hw' => by kernel_rfl) sS9 ?_
              refine Wk.dVal 1 (some 125) (.int .i64 1) rfl rfl (by kernel_rfl) (by kernel_rfl) (by kernel_rfl) (fun _ _ _ h => h) (by kernel_rfl) (fun w' hw' => by kernel_rfl) sS9 ?_
              refine Wk.dVal 4 (some 128) (.pointer (some ⟨W2.heap.size, 0, none⟩)) rfl rfl (by kernel_rfl) (by kernel_rfl) (by kernel_rfl) (fun _ _ _ h => h) (by kernel_rfl) (fun w' hw' => by kernel_rfl) sS9 ?_
              refine Wk.dVal 5 (some 129) (.int .i64 1) rfl rfl (by kernel_rfl) (by kernel_rfl) (by kernel_rfl) (fun _ _ _ h => h) (by kernel_rfl) (fun w' hw' => by kernel_rfl) sS9 ?_
              refine Wk.dOp 2 (by kernel_rfl) ?_
              refine Wk.oCall (some 126) 13 [.tmp 124, .tmp 125] #[23, 3] [.pointer (some ⟨W1.heap.size, 0, none⟩), .int .i64 1] rfl rfl (by kernel_rfl) rfl (by kernel_rfl) (by kernel_rfl) ?_
              have hD73 := Mur.DskF.chg hD71 ch31 (fun s hs hl => trivial)
              refine (Bytes_any W1.heap.size E FF14 1 W33 hD73).mono ?_
              rintro _ W34 ⟨vv7, rfl, HO7, ch32⟩
              obtain ⟨AA7, nn7, rfl, hcc7, hmm8, hN7, HS7, hl7⟩ := Wk.own_sl HO7
              have hB12 : Byt W34 AA7 (Mur.Dk.bytes E 1).length (Mur.Dk.bytes E 1) := by obtain ⟨_, _, e_, _, _, hq⟩ := Mur.own_byt HO7; cases e_; exact hq
              have zz34 := ch32.size
              have sS10 := Wk.Chg.step sS9 ch32 trivial
              refine ⟨_, rfl, sS10, ?_⟩
              refine Wk.dOp2 3 6 (by kernel_rfl) ?_ ?_
              · refine Wk.oVal (some 127) (.string (Mur.str (Mur.Dk.bytes E 1))) rfl rfl (by kernel_rfl) (Mur.run_str 26 9 (.tmp 126) 5 rfl Try.underlying26 Try.underlying5 Try.underlying9 AA7 ((Mur.Dk.bytes E 1).length) nn7 (Mur.Dk.bytes E 1) (by kernel_rfl) hB12) ?_
                refine ⟨sS10, ?_⟩
                refine Wk.dOp 6 (by kernel_rfl) ?_
                refine Wk.oCall (some 130) 13 [.tmp 128, .tmp 129] #[23, 3] [.pointer (some ⟨W2.heap.size, 0, none⟩), .int .i64 1] rfl rfl (by kernel_rfl) rfl (by kernel_rfl) (by kernel_rfl) ?_
                have hD74 := Mur.DskF.chg hD72 ch31 (fun s hs hl => trivial)
                have hD75 := Mur.DskF.chg hD74 ch32 (fun s hs hl => trivial)
                refine (Bytes_any W2.heap.size E FF13 1 W34 hD75).mono ?_
                rintro _ W35 ⟨vv8, rfl, HO8, ch33⟩
                obtain ⟨AA8, nn8, rfl, hcc8, hmm9, hN8, HS8, hl8⟩ := Wk.own_sl HO8
                have hB13 : Byt W35 AA8 (Mur.Dk.bytes E 1).length (Mur.Dk.bytes E 1) := by obtain ⟨_, _, e_, _, _, hq⟩ := Mur.own_byt HO8; cases e_; exact hq
                have zz35 := ch33.size
                have sS11 := Wk.Chg.step sS10 ch33 trivial
                refine ⟨_, rfl, sS11, ?_⟩
                refine Wk.dOp 7 (by kernel_rfl) ?_
                refine Wk.oVal (some 131) (.string (Mur.str (Mur.Dk.bytes E 1))) rfl rfl (by kernel_rfl) (Mur.run_str 26 9 (.tmp 130) 5 rfl Try.underlying26 Try.underlying5 Try.underlying9 AA8 ((Mur.Dk.bytes E 1).length) nn8 (Mur.Dk.bytes E 1) (by kernel_rfl) hB13) ?_
                refine ⟨sS11, ?_⟩
                refine Wk.dVal 8 (some 132) (.bool false) rfl rfl (by kernel_rfl) (by kernel_rfl) (by kernel_rfl) (fun _ _ _ h => h) (by kernel_rfl) (fun w' hw' => (Wk.boolF (b := decide ((Mur.Dk.bytes E 1) ≠ (Mur.Dk.bytes E 1))) (decide_eq_false (fun h => h rfl)) (Mur.strne 9 9 (.tmp 127) (.tmp 131) rfl (Mur.Dk.bytes E 1) (Mur.Dk.bytes E 1) (by kernel_rfl) (by kernel_rfl)))) sS11 ?_
                refine Wk.dVal 9 (some 133) (.bool false) rfl rfl (by kernel_rfl) (by kernel_rfl) (by kernel_rfl) (fun _ _ _ h => h) (by kernel_rfl) (fun w' hw' => by kernel_rfl) sS11 ?_
                refine Wk.dVal 10 (some 134) (.pointer (some ⟨W1.heap.size, 0, none⟩)) rfl rfl (by kernel_rfl) (by kernel_rfl) (by kernel_rfl) (fun _ _ _ h => h) (by kernel_rfl) (fun w' hw' => by kernel_rfl) sS11 ?_
                refine Wk.dVal 11 (some 135) (.int .i64 1) rfl rfl (by kernel_rfl) (by kernel_rfl) (by kernel_rfl) (fun _ _ _ h => h) (by kernel_rfl) (fun w' hw' => by kernel_rfl) sS11 ?_
                refine Wk.dVal 13 (some 137) (.pointer (some ⟨W2.heap.size, 0, none⟩)) rfl rfl (by kernel_rfl) (by kernel_rfl) (by kernel_rfl) (fun _ _ _ h => h) (by kernel_rfl) (fun w' hw' => by kernel_rfl) sS11 ?_
                refine Wk.dVal 14 (some 138) (.int .i64 1) rfl rfl (by kernel_rfl) (by kernel_rfl) (by kernel_rfl) (fun _ _ _ h => h) (by kernel_rfl) (fun w' hw' => by kernel_rfl) sS11 ?_
                refine Wk.dOp 12 (by kernel_rfl) ?_
                refine Wk.oCall (some 136) 14 [.tmp 134, .tmp 135] #[23, 3] [.pointer (some ⟨W1.heap.size, 0, none⟩), .int .i64 1] rfl rfl (by kernel_rfl) rfl (by kernel_rfl) (by kernel_rfl) ?_
                have hD76 := Mur.DskF.chg hD73 ch32 (fun s hs hl => trivial)
                have hD77 := Mur.DskF.chg hD76 ch33 (fun s hs hl => trivial)
                refine (Synced_any W1.heap.size E FF14 1 W35 hD77).mono ?_
                rintro _ _ ⟨rfl, rfl⟩
                refine ⟨_, rfl, sS11, ?_⟩
                refine Wk.dOp 15 (by kernel_rfl) ?_
                refine Wk.oCall (some 139) 14 [.tmp 137, .tmp 138] #[23, 3] [.pointer (some ⟨W2.heap.size, 0, none⟩), .int .i64 1] rfl rfl (by kernel_rfl) rfl (by kernel_rfl) (by kernel_rfl) ?_
                have hD78 := Mur.DskF.chg hD75 ch33 (fun s hs hl => trivial)
                refine (Synced_any W2.heap.size E FF13 1 W35 hD78).mono ?_
                rintro _ _ ⟨rfl, rfl⟩
                refine ⟨_, rfl, sS11, ?_⟩
                refine Wk.dVal 16 (some 140) (.bool false) rfl rfl (by kernel_rfl) (by kernel_rfl) (by kernel_rfl) (fun _ _ _ h => h) (by kernel_rfl) (fun w' hw' => (Wk.boolF (b := ((((Mur.Dk.synced E 1) : Nat) : Int) != (((Mur.Dk.synced E 1) : Nat) : Int))) (bne_eq_false_iff_eq.2 (rfl)) (by kernel_rfl))) sS11 ?_
                refine Wk.dVal 17 (some 141) (.bool false) rfl rfl (by kernel_rfl) (by kernel_rfl) (by kernel_rfl) (fun _ _ _ h => h) (by kernel_rfl) (fun w' hw' => by kernel_rfl) sS11 ?_
                refine Wk.dEnd (by kernel_rfl) ?_
                refine Wk.nxt ?_
                refine wp_cond_false (by kernel_rfl) ?_
                refine wp_skip ?_
                refine Wk.inN ?_
                refine Wk.nxt ?_
                refine Wk.reg ?_
                refine Wk.rPure 0 (some 142) (.int .i64 2) rfl rfl (by kernel_rfl) (Wk.int64 (n := 1 + 1) (z := 2) (by omega) (by omega) (by omega) (by kernel_rfl)) ?_
                refine Wk.rPure 1 (some 121) (.int .i64 2) rfl rfl (by kernel_rfl) (by kernel_rfl) ?_
                refine Wk.rEnd 2 rfl ?_
                refine Wk.nxt ?_
                refine Wk.rdS ?_
                refine wp_seq ?_
                refine Wk.reg ?_
                refine Wk.rPure 0 (some 122) (.bool false) rfl rfl (by kernel_rfl) (Wk.boolF (b := decide ((2 : Int) < (2 : Int))) (decide_eq_false (by decide)) (by kernel_rfl)) ?_
                refine Wk.rEnd 1 rfl ?_
                refine Wk.nxt ?_
                refine wp_seq ?_
                refine wp_cond_false (by kernel_rfl) ?_
                refine wp_exit ?_
                refine Wk.thX ?_
                refine Wk.thX ?_
                refine Wk.inX ?_
                refine Wk.nxt ?_
                refine wp_seq ?_
                refine Wk.reg ?_
                refine Wk.rCall 0 (some 143) 9 [] #[] [] rfl rfl (by kernel_rfl) rfl (by kernel_rfl) (by kernel_rfl) ?_
                refine (known_any W35).mono ?_
                rintro _ W36 ⟨rfl, hB14⟩
                have ch34 := Wk.Chg.ofBelow hB14
                have zz36 := ch34.size
                refine ⟨_, rfl, ?_⟩
                refine Wk.rPure 1 (some 8) (.bool true) rfl rfl (by kernel_rfl) (by kernel_rfl) ?_
                refine Wk.rEnd 2 rfl ?_
                refine Wk.nxt ?_
                refine wp_ret ?_
                have kk63 := Wk.Chg.step kk29 ch16 (Mur.newOr_iff.2 (fun t ht => .inr (by have := hM10 t ht; omega)))
                have kk64 := Wk.Chg.step kk63 ch17 (Mur.newOr_iff.2 (fun t ht => .inr (by have := hM9 t ht; omega)))
                have kk65 := Wk.Chg.step kk64 ch18 (Mur.newOr_iff.2 (fun t ht => .inr (by have := hM11 t ht; omega)))
                have kk66 := Wk.Chg.step kk65 ch19 (Mur.newOr_iff.2 (fun t ht => .inr (by have := hM12 t ht; omega)))
                have kk67 := Wk.Chg.step kk66 ch20 trivial
                have kk68 := Wk.Chg.step kk67 ch21 trivial
                have kk69 := Wk.Chg.step kk68 ch30 trivial
                have kk70 := Wk.Chg.step kk69 ch31 trivial
                have kk71 := Wk.Chg.step kk70 ch32 trivial
                have kk72 := Wk.Chg.step kk71 ch33 trivial
                have kk73 := Wk.Chg.step kk72 ch34 trivial
                refine Wk.ret (.bool true) rfl (by kernel_rfl) ?_
                exact ⟨rfl, Wk.Chg.below0 kk73⟩
              · refine Wk.oCall (some 130) 13 [.tmp 128, .tmp 129] #[23, 3] [.pointer (some ⟨W2.heap.size, 0, none⟩), .int .i64 1] rfl rfl (by kernel_rfl) rfl (by kernel_rfl) (by kernel_rfl) ?_
                have hD79 := Mur.DskF.chg hD72 ch31 (fun s hs hl => trivial)
                have hD80 := Mur.DskF.chg hD79 ch32 (fun s hs hl => trivial)
                refine (Bytes_any W2.heap.size E FF13 1 W34 hD80).mono ?_
                rintro _ W37 ⟨vv9, rfl, HO9, ch35⟩
                obtain ⟨AA9, nn9, rfl, hcc9, hmm10, hN9, HS9, hl9⟩ := Wk.own_sl HO9
                have hB15 : Byt W37 AA9 (Mur.Dk.bytes E 1).length (Mur.Dk.bytes E 1) := by obtain ⟨_, _, e_, _, _, hq⟩ := Mur.own_byt HO9; cases e_; exact hq
                have zz37 := ch35.size
                have sS12 := Wk.Chg.step sS10 ch35 trivial
                refine ⟨_, rfl, sS12, ?_⟩
                refine Wk.dOp2 3 7 (by kernel_rfl) ?_ ?_
                · refine Wk.oVal (some 127) (.string (Mur.str (Mur.Dk.bytes E 1))) rfl rfl (by kernel_rfl) (Mur.run_str 26 9 (.tmp 126) 5 rfl Try.underlying26 Try.underlying5 Try.underlying9 AA7 ((Mur.Dk.bytes E 1).length) nn7 (Mur.Dk.bytes E 1) (by kernel_rfl) (Mur.byt_chg hB12 ch35 (fun g off e hl => trivial))) ?_
                  refine ⟨sS12, ?_⟩
                  refine Wk.dOp 7 (by kernel_rfl) ?_
                  refine Wk.oVal (some 131) (.string (Mur.str (Mur.Dk.bytes E 1))) rfl rfl (by kernel_rfl) (Mur.run_str 26 9 (.tmp 130) 5 rfl Try.underlying26 Try.underlying5 Try.underlying9 AA9 ((Mur.Dk.bytes E 1).length) nn9 (Mur.Dk.bytes E 1) (by kernel_rfl) hB15) ?_
                  refine ⟨sS12, ?_⟩
                  refine Wk.dVal 8 (some 132) (.bool false) rfl rfl (by kernel_rfl) (by kernel_rfl) (by kernel_rfl) (fun _ _ _ h => h) (by kernel_rfl) (fun w' hw' => (Wk.boolF (b := decide ((Mur.Dk.bytes E 1) ≠ (Mur.Dk.bytes E 1))) (decide_eq_false (fun h => h rfl)) (Mur.strne 9 9 (.tmp 127) (.tmp 131) rfl (Mur.Dk.bytes E 1) (Mur.Dk.bytes E 1) (by kernel_rfl) (by kernel_rfl)))) sS12 ?_
                  refine Wk.dVal 9 (some 133) (.bool false) rfl rfl (by kernel_rfl) (by kernel_rfl) (by kernel_rfl) (fun _ _ _ h => h) (by kernel_rfl) (fun w' hw' => by kernel_rfl) sS12 ?_
                  refine Wk.dVal 10 (some 134) (.pointer (some ⟨W1.heap.size, 0, none⟩)) rfl rfl (by kernel_rfl) (by kernel_rfl) (by kernel_rfl) (fun _ _ _ h => h) (by kernel_rfl) (fun w' hw' => by kernel_rfl) sS12 ?_
                  refine Wk.dVal 11 (some 135) (.int .i64 1) rfl rfl (by kernel_rfl) (by kernel_rfl) (by kernel_rfl) (fun _ _ _ h => h) (by kernel_rfl) (fun w' hw' => by kernel_rfl) sS12 ?_
                  refine Wk.dVal 13 (some 137) (.pointer (some ⟨W2.heap.size, 0, none⟩)) rfl rfl (by kernel_rfl) (by kernel_rfl) (by kernel_rfl) (fun _ _ _ h => h) (by kernel_rfl) (fun w' hw' => by kernel_rfl) sS12 ?_
                  refine Wk.dVal 14 (some 138) (.int .i64 1) rfl rfl (by kernel_rfl) (by kernel_rfl) (by kernel_rfl) (fun _ _ _ h => h) (by kernel_rfl) (fun w' hw' => by kernel_rfl) sS12 ?_
                  refine Wk.dOp 12 (by kernel_rfl) ?_
                  refine Wk.oCall (some 136) 14 [.tmp 134, .tmp 135] #[23, 3] [.pointer (some ⟨W1.heap.size, 0, none⟩), .int .i64 1] rfl rfl (by kernel_rfl) rfl (by kernel_rfl) (by kernel_rfl) ?_
                  have hD81 := Mur.DskF.chg hD73 ch32 (fun s hs hl => trivial)
                  have hD82 := Mur.DskF.chg hD81 ch35 (fun s hs hl => trivial)
                  refine (Synced_any W1.heap.size E FF14 1 W37 hD82).mono ?_
                  rintro _ _ ⟨rfl, rfl⟩
                  refine ⟨_, rfl, sS12, ?_⟩
                  refine Wk.dOp 15 (by kernel_rfl) ?_
                  refine Wk.oCall (some 139) 14 [.tmp 137, .tmp 138] #[23, 3] [.pointer (some ⟨W2.heap.size, 0, none⟩), .int .i64 1] rfl rfl (by kernel_rfl) rfl (by kernel_rfl) (by kernel_rfl) ?_
                  have hD83 := Mur.DskF.chg hD80 ch35 (fun s hs hl => trivial)
                  refine (Synced_any W2.heap.size E FF13 1 W37 hD83).mono ?_
                  rintro _ _ ⟨rfl, rfl⟩
                  refine ⟨_, rfl, sS12, ?_⟩
                  refine Wk.dVal 16 (some 140) (.bool false) rfl rfl (by kernel_rfl) (by kernel_rfl) (by kernel_rfl) (fun _ _ _ h => h) (by kernel_rfl) (fun w' hw' => (Wk.boolF (b := ((((Mur.Dk.synced E 1) : Nat) : Int) != (((Mur.Dk.synced E 1) : Nat) : Int))) (bne_eq_false_iff_eq.2 (rfl)) (by kernel_rfl))) sS12 ?_
                  refine Wk.dVal 17 (some 141) (.bool false) rfl rfl (by kernel_rfl) (by kernel_rfl) (by kernel_rfl) (fun _ _ _ h => h) (by kernel_rfl) (fun w' hw' => by kernel_rfl) sS12 ?_
                  refine Wk.dEnd (by kernel_rfl) ?_
                  refine Wk.nxt ?_
                  refine wp_cond_false (by kernel_rfl) ?_
                  refine wp_skip ?_
                  refine Wk.inN ?_
                  refine Wk.nxt ?_
                  refine Wk.reg ?_
                  refine Wk.rPure 0 (some 142) (.int .i64 2) rfl rfl (by kernel_rfl) (Wk.int64 (n := 1 + 1) (z := 2) (by omega) (by omega) (by omega) (by kernel_rfl)) ?_
                  refine Wk.rPure 1 (some 121) (.int .i64 2) rfl rfl (by kernel_rfl) (by kernel_rfl) ?_
                  refine Wk.rEnd 2 rfl ?_
                  refine Wk.nxt ?_
                  refine Wk.rdS ?_
                  refine wp_seq ?_
                  refine Wk.reg ?_
                  refine Wk.rPure 0 (some 122) (.bool false) rfl rfl (by kernel_rfl) (Wk.boolF (b := decide ((2 : Int) < (2 : Int))) (decide_eq_false (by decide)) (by kernel_rfl)) ?_
                  refine Wk.rEnd 1 rfl ?_
                  refine Wk.nxt ?_
                  refine wp_seq ?_
                  refine wp_cond_false (by kernel_rfl) ?_
                  refine wp_exit ?_
                  refine Wk.thX ?_
                  refine Wk.thX ?_
                  refine Wk.inX ?_
                  refine Wk.nxt ?_
                  refine wp_seq ?_
                  refine Wk.reg ?_
                  refine Wk.rCall 0 (some 143) 9 [] #[] [] rfl rfl (by kernel_rfl) rfl (by kernel_rfl) (by kernel_rfl) ?_
                  refine (known_any W37).mono ?_
                  rintro _ W38 ⟨rfl, hB16⟩
                  have ch36 := Wk.Chg.ofBelow hB16
                  have zz38 := ch36.size
                  refine ⟨_, rfl, ?_⟩
                  refine Wk.rPure 1 (some 8) (.bool true) rfl rfl (by kernel_rfl) (by kernel_rfl) ?_
                  refine Wk.rEnd 2 rfl ?_
                  refine Wk.nxt ?_
                  refine wp_ret ?_
                  have kk74 := Wk.Chg.step kk29 ch16 (Mur.newOr_iff.2 (fun t ht => .inr (by have := hM10 t ht; omega)))
                  have kk75 := Wk.Chg.step kk74 ch17 (Mur.newOr_iff.2 (fun t ht => .inr (by have := hM9 t ht; omega)))
                  have kk76 := Wk.Chg.step kk75 ch18 (Mur.newOr_iff.2 (fun t ht => .inr (by have := hM11 t ht; omega)))
                  have kk77 := Wk.Chg.step kk76 ch19 (Mur.newOr_iff.2 (fun t ht => .inr (by have := hM12 t ht; omega)))
                  have kk78 := Wk.Chg.step kk77 ch20 trivial
                  have kk79 := Wk.Chg.step kk78 ch21 trivial
                  have kk80 := Wk.Chg.step kk79 ch30 trivial
                  have kk81 := Wk.Chg.step kk80 ch31 trivial
                  have kk82 := Wk.Chg.step kk81 ch32 trivial
                  have kk83 := Wk.Chg.step kk82 ch35 trivial
                  have kk84 := Wk.Chg.step kk83 ch36 trivial
                  refine Wk.ret (.bool true) rfl (by kernel_rfl) ?_
                  exact ⟨rfl, Wk.Chg.below0 kk84⟩
                · refine Wk.oVal (some 131) (.string (Mur.str (Mur.Dk.bytes E 1))) rfl rfl (by kernel_rfl) (Mur.run_str 26 9 (.tmp 130) 5 rfl Try.underlying26 Try.underlying5 Try.underlying9 AA9 ((Mur.Dk.bytes E 1).length) nn9 (Mur.Dk.bytes E 1) (by kernel_rfl) hB15) ?_
                  refine ⟨sS12, ?_⟩
                  refine Wk.dOp 3 (by kernel_rfl) ?_
                  refine Wk.oVal (some 127) (.string (Mur.str (Mur.Dk.bytes E 1))) rfl rfl (by kernel_rfl) (Mur.run_str 26 9 (.tmp 126) 5 rfl Try.underlying26 Try.underlying5 Try.underlying9 AA7 ((Mur.Dk.bytes E 1).length) nn7 (Mur.Dk.bytes E 1) (by kernel_rfl) (Mur.byt_chg hB12 ch35 (fun g off e hl => trivial))) ?_
                  refine ⟨sS12, ?_⟩
                  refine Wk.dVal 8 (some 132) (.bool false) rfl rfl (by kernel_rfl) (by kernel_rfl) (by kernel_rfl) (fun _ _ _ h => h) (by kernel_rfl) (fun w' hw' => (Wk.boolF (b := decide ((Mur.Dk.bytes E 1) ≠ (Mur.Dk.bytes E 1))) (decide_eq_false (fun h => h rfl)) (Mur.strne 9 9 (.tmp 127) (.tmp 131) rfl (Mur.Dk.bytes E 1) (Mur.Dk.bytes E 1) (by kernel_rfl) (by kernel_rfl)))) sS12 ?_
                  refine Wk.dVal 9 (some 133) (.bool false) rfl rfl (by kernel_rfl) (by kernel_rfl) (by kernel_rfl) (fun _ _ _ h => h) (by kernel_rfl) (fun w' hw' => by kernel_rfl) sS12 ?_
                  refine Wk.dVal 10 (some 134) (.pointer (some ⟨W1.heap.size, 0, none⟩)) rfl rfl (by kernel_rfl) (by kernel_rfl) (by kernel_rfl) (fun _ _ _ h => h) (by kernel_rfl) (fun w' hw' => by kernel_rfl) sS12 ?_
                  refine Wk.dVal 11 (some 135) (.int .i64 1) rfl rfl (by kernel_rfl) (by kernel_rfl) (by kernel_rfl) (fun _ _ _ h => h) (by kernel_rfl) (fun w' hw' => by kernel_rfl) sS12 ?_
                  refine Wk.dVal 13 (some 137) (.pointer (some ⟨W2.heap.size, 0, none⟩)) rfl rfl (by kernel_rfl) (by kernel_rfl) (by kernel_rfl) (fun _ _ _ h => h) (by kernel_rfl) (fun w' hw' => by kernel_rfl) sS12 ?_
                  refine Wk.dVal 14 (some 138) (.int .i64 1) rfl rfl (by kernel_rfl) (by kernel_rfl) (by kernel_rfl) (fun _ _ _ h => h) (by kernel_rfl) (fun w' hw' => by kernel_rfl) sS12 ?_
                  refine Wk.dOp 12 (by kernel_rfl) ?_
                  refine Wk.oCall (some 136) 14 [.tmp 134, .tmp 135] #[23, 3] [.pointer (some ⟨W1.heap.size, 0, none⟩), .int .i64 1] rfl rfl (by kernel_rfl) rfl (by kernel_rfl) (by kernel_rfl) ?_
                  have hD84 := Mur.DskF.chg hD73 ch32 (fun s hs hl => trivial)
                  have hD85 := Mur.DskF.chg hD84 ch35 (fun s hs hl => trivial)
                  refine (Synced_any W1.heap.size E FF14 1 W37 hD85).mono ?_
                  rintro _ _ ⟨rfl, rfl⟩
                  refine ⟨_, rfl, sS12, ?_⟩
                  refine Wk.dOp 15 (by kernel_rfl) ?_
                  refine Wk.oCall (some 139) 14 [.tmp 137, .tmp 138] #[23, 3] [.pointer (some ⟨W2.heap.size, 0, none⟩), .int .i64 1] rfl rfl (by kernel_rfl) rfl (by kernel_rfl) (by kernel_rfl) ?_
                  have hD86 := Mur.DskF.chg hD80 ch35 (fun s hs hl => trivial)
                  refine (Synced_any W2.heap.size E FF13 1 W37 hD86).mono ?_
                  rintro _ _ ⟨rfl, rfl⟩
                  refine ⟨_, rfl, sS12, ?_⟩
                  refine Wk.dVal 16 (some 140) (.bool false) rfl rfl (by kernel_rfl) (by kernel_rfl) (by kernel_rfl) (fun _ _ _ h => h) (by kernel_rfl) (fun w' hw' => (Wk.boolF (b := ((((Mur.Dk.synced E 1) : Nat) : Int) != (((Mur.Dk.synced E 1) : Nat) : Int))) (bne_eq_false_iff_eq.2 (rfl)) (by kernel_rfl))) sS12 ?_
                  refine Wk.dVal 17 (some 141) (.bool false) rfl rfl (by kernel_rfl) (by kernel_rfl) (by kernel_rfl) (fun _ _ _ h => h) (by kernel_rfl) (fun w' hw' => by kernel_rfl) sS12 ?_
                  refine Wk.dEnd (by kernel_rfl) ?_
                  refine Wk.nxt ?_
                  refine wp_cond_false (by kernel_rfl) ?_
                  refine wp_skip ?_
                  refine Wk.inN ?_
                  refine Wk.nxt ?_
                  refine Wk.reg ?_
                  refine Wk.rPure 0 (some 142) (.int .i64 2) rfl rfl (by kernel_rfl) (Wk.int64 (n := 1 + 1) (z := 2) (by omega) (by omega) (by omega) (by kernel_rfl)) ?_
                  refine Wk.rPure 1 (some 121) (.int .i64 2) rfl rfl (by kernel_rfl) (by kernel_rfl) ?_
                  refine Wk.rEnd 2 rfl ?_
                  refine Wk.nxt ?_
                  refine Wk.rdS ?_
                  refine wp_seq ?_
                  refine Wk.reg ?_
                  refine Wk.rPure 0 (some 122) (.bool false) rfl rfl (by kernel_rfl) (Wk.boolF (b := decide ((2 : Int) < (2 : Int))) (decide_eq_false (by decide)) (by kernel_rfl)) ?_
                  refine Wk.rEnd 1 rfl ?_
                  refine Wk.nxt ?_
                  refine wp_seq ?_
                  refine wp_cond_false (by kernel_rfl) ?_
                  refine wp_exit ?_
                  refine Wk.thX ?_
                  refine Wk.thX ?_
                  refine Wk.inX ?_
                  refine Wk.nxt ?_
                  refine wp_seq ?_
                  refine Wk.reg ?_
                  refine Wk.rCall 0 (some 143) 9 [] #[] [] rfl rfl (by kernel_rfl) rfl (by kernel_rfl) (by kernel_rfl) ?_
                  refine (known_any W37).mono ?_
                  rintro _ W39 ⟨rfl, hB17⟩
                  have ch37 := Wk.Chg.ofBelow hB17
                  have zz39 := ch37.size
                  refine ⟨_, rfl, ?_⟩
                  refine Wk.rPure 1 (some 8) (.bool true) rfl rfl (by kernel_rfl) (by kernel_rfl) ?_
                  refine Wk.rEnd 2 rfl ?_
                  refine Wk.nxt ?_
                  refine wp_ret ?_
                  have kk85 := Wk.Chg.step kk29 ch16 (Mur.newOr_iff.2 (fun t ht => .inr (by have := hM10 t ht; omega)))
                  have kk86 := Wk.Chg.step kk85 ch17 (Mur.newOr_iff.2 (fun t ht => .inr (by have := hM9 t ht; omega)))
                  have kk87 := Wk.Chg.step kk86 ch18 (Mur.newOr_iff.2 (fun t ht => .inr (by have := hM11 t ht; omega)))
                  have kk88 := Wk.Chg.step kk87 ch19 (Mur.newOr_iff.2 (fun t ht => .inr (by have := hM12 t ht; omega)))
                  have kk89 := Wk.Chg.step kk88 ch20 trivial
                  have kk90 := Wk.Chg.step kk89 ch21 trivial
                  have kk91 := Wk.Chg.step kk90 ch30 trivial
                  have kk92 := Wk.Chg.step kk91 ch31 trivial
                  have kk93 := Wk.Chg.step kk92 ch32 trivial
                  have kk94 := Wk.Chg.step kk93 ch35 trivial
                  have kk95 := Wk.Chg.step kk94 ch37 trivial
                  refine Wk.ret (.bool true) rfl (by kernel_rfl) ?_
                  exact ⟨rfl, Wk.Chg.below0 kk95⟩
            · refine Wk.oVal (some 131) (.string (Mur.str (Mur.Dk.bytes E 0))) rfl rfl (by kernel_rfl) (Mur.run_str 26 9 (.tmp 130) 5 rfl Try.underlying26 Try.underlying5 Try.underlying9 AA6 ((Mur.Dk.bytes E 0).length) nn6 (Mur.Dk.bytes E 0) (by kernel_rfl) hB11) ?_
              refine ⟨sS8, ?_⟩
              refine Wk.dOp 3 (by kernel_rfl) ?_
              refine Wk.oVal (some 127) (.string (Mur.str (Mur.Dk.bytes E 0))) rfl rfl (by kernel_rfl) (Mur.run_str 26 9 (.tmp 126) 5 rfl Try.underlying26 Try.underlying5 Try.underlying9 AA1 ((Mur.Dk.bytes E 0).length) nn1 (Mur.Dk.bytes E 0) (by kernel_rfl) (Mur.byt_chg hB3 ch30 (fun g off e hl => trivial))) ?_
              refine ⟨sS8, ?_⟩
              refine Wk.dVal 8 (some 132) (.bool false) rfl rfl (by kernel_rfl) (by kernel_rfl) (by kernel_rfl) (fun _ _ _ h => h) (by kernel_rfl) (fun w' hw' => (Wk.boolF (b := decide ((Mur.Dk.bytes E 0) ≠ (Mur.Dk.bytes E 0))) (decide_eq_false (fun h => h rfl)) (Mur.strne 9 9 (.tmp 127) (.tmp 131) rfl (Mur.Dk.bytes E 0) (Mur.Dk.bytes E 0) (by kernel_rfl) (by kernel_rfl)))) sS8 ?_
              refine Wk.dVal 9 (some 133) (.bool false) rfl rfl (by kernel_rfl) (by kernel_rfl) (by kernel_rfl) (fun _ _ _ h => h) (by kernel_rfl) (fun w' hw' => by kernel_rfl) sS8 ?_
              refine Wk.dVal 10 (some 134) (.pointer (some ⟨W1.heap.size, 0, none⟩)) rfl rfl (by kernel_rfl) (by kernel_rfl) (by kernel_rfl) (fun _ _ _ h => h) (by kernel_rfl) (fun w' hw' => by kernel_rfl) sS8 ?_
              refine Wk.dVal 11 (some 135) (.int .i64 0) rfl rfl (by kernel_rfl) (by kernel_rfl) (by kernel_rfl) (fun _ _ _ h => h) (by kernel_rfl) (fun w' hw' => by kernel_rfl) sS8 ?_
              refine Wk.dVal 13 (some 137) (.pointer (some ⟨W2.heap.size, 0, none⟩)) rfl rfl (by kernel_rfl) (by kernel_rfl) (by kernel_rfl) (fun _ _ _ h => h) (by kernel_rfl) (fun w' hw' => by kernel_rfl) sS8 ?_
              refine Wk.dVal 14 (some 138) (.int .i64 0) rfl rfl (by kernel_rfl) (by kernel_rfl) (by kernel_rfl) (fun _ _ _ h => h) (by kernel_rfl) (fun w' hw' => by kernel_rfl) sS8 ?_
              refine Wk.dOp 12 (by kernel_rfl) ?_
              refine Wk.oCall (some 136) 14 [.tmp 134, .tmp 135] #[23, 3] [.pointer (some ⟨W1.heap.size, 0, none⟩), .int .i64 0] rfl rfl (by kernel_rfl) rfl (by kernel_rfl) (by kernel_rfl) ?_
              have hD87 := Mur.DskF.chg hD48 ch21 (fun s hs hl => trivial)
              have hD88 := Mur.DskF.chg hD87 ch30 (fun s hs hl => trivial)
              refine (Synced_any W1.heap.size E FF14 0 W32 hD88).mono ?_
              rintro _ _ ⟨rfl, rfl⟩
              refine ⟨_, rfl, sS8, ?_⟩
              refine Wk.dOp 15 (by kernel_rfl) ?_
              refine Wk.oCall (some 139) 14 [.tmp 137, .tmp 138] #[23, 3] [.pointer (some ⟨W2.heap.size, 0, none⟩), .int .i64 0] rfl rfl (by kernel_rfl) rfl (by kernel_rfl) (by kernel_rfl) ?_
              have hD89 := Mur.DskF.chg hD69 ch30 (fun s hs hl => trivial)
              refine (Synced_any W2.heap.size E FF13 0 W32 hD89).mono ?_
              rintro _ _ ⟨rfl, rfl⟩
              refine ⟨_, rfl, sS8, ?_⟩
              refine Wk.dVal 16 (some 140) (.bool false) rfl rfl (by kernel_rfl) (by kernel_rfl) (by kernel_rfl) (fun _ _ _ h => h) (by kernel_rfl) (fun w' hw' => (Wk.boolF (b := ((((Mur.Dk.synced E 0) : Nat) : Int) != (((Mur.Dk.synced E 0) : Nat) : Int))) (bne_eq_false_iff_eq.2 (rfl)) (by kernel_rfl))) sS8 ?_
              refine Wk.dVal 17 (some 141) (.bool false) rfl rfl (by kernel_rfl) (by kernel_rfl) (by kernel_rfl) (fun _ _ _ h => h) (by kernel_rfl) (fun w' hw' => by kernel_rfl) sS8 ?_
              refine Wk.dEnd (by kernel_rfl) ?_
              refine Wk.nxt ?_
              refine wp_cond_false (by kernel_rfl) ?_
              refine wp_skip ?_
              refine Wk.inN ?_
              refine Wk.nxt ?_
              refine Wk.reg ?_
              refine Wk.rPure 0 (some 142) (.int .i64 1) rfl rfl (by kernel_rfl) (Wk.int64 (n := 0 + 1) (z := 1) (by omega) (by omega) (by omega) (by kernel_rfl)) ?_
              refine Wk.rPure 1 (some 121) (.int .i64 1) rfl rfl (by kernel_rfl) (by kernel_rfl) ?_
              refine Wk.rEnd 2 rfl ?_
              refine Wk.nxt ?_
              refine Wk.rdS ?_
              refine wp_seq ?_
              refine Wk.reg ?_
              refine Wk.rPure 0 (some 122) (.bool true) rfl rfl (by kernel_rfl) (Wk.boolT (b := decide ((1 : Int) < (2 : Int))) (decide_eq_true (by decide)) (by kernel_rfl)) ?_
              refine Wk.rEnd 1 rfl ?_
              refine Wk.nxt ?_
              refine wp_seq ?_
              refine wp_cond_true (by kernel_rfl) ?_
              refine wp_skip ?_
              refine Wk.nxt ?_
              refine wp_seq ?_
              refine wp_block ?_
              refine wp_seq ?_
              refine Wk.reg ?_
              refine Wk.rPure 0 (some 123) (.int .i64 1) rfl rfl (by kernel_rfl) (by kernel_rfl) ?_
              refine Wk.rPure 1 (some 16) (.int .i64 1) rfl rfl (by kernel_rfl) (by kernel_rfl) ?_
              refine Wk.rEnd 2 rfl ?_
              refine Wk.nxt ?_
              refine wp_seq ?_
              refine Wk.dReg [] (by kernel_rfl) ?_
              intro W40 ch38 sz6
              have zz40 := ch38.size
              have sS13 : Wk.Chg [] W40 W40 := (Wk.Chg.refl _).more (by simp)
              refine Wk.dVal 0 (some 124) (.pointer (some ⟨W1.heap.size, 0, none⟩)) rfl rfl (by kernel_rfl) (by kernel_rfl) (by kernel_rfl) (fun _ _ _ h => h) (by kernel_rfl) (fun w' hw' => by kernel_rfl) sS13 ?_
              refine Wk.dVal 1 (some 125) (.int .i64 1) rfl rfl (by kernel_rfl) (by kernel_rfl) (by kernel_rfl) (fun _ _ _ h => h) (by kernel_rfl) (fun w' hw' => by kernel_rfl) sS13 ?_
              refine Wk.dVal 4 (some 128) (.pointer (some ⟨W2.heap.size, 0, none⟩)) rfl rfl (by kernel_rfl) (by kernel_rfl) (by kernel_rfl) (fun _ _ _ h => h) (by kernel_rfl) (fun w' hw' => by kernel_rfl) sS13 ?_
              refine Wk.dVal 5 (some 129) (.int .i64 1) rfl rfl (by kernel_rfl) (by kernel_rfl) (by kernel_rfl) (fun _ _ _ h => h) (by kernel_rfl) (fun w' hw' => by kernel_rfl) sS13 ?_
              refine Wk.dOp 2 (by kernel_rfl) ?_
              refine Wk.oCall (some 126) 13 [.tmp 124, .tmp 125] #[23, 3] [.pointer (some ⟨W1.heap.size, 0, none⟩), .int .i64 1] rfl rfl (by kernel_rfl) rfl (by kernel_rfl) (by kernel_rfl) ?_
              have hD90 := Mur.DskF.chg hD88 ch38 (fun s hs hl => trivial)
              refine (Bytes_any W1.heap.size E FF14 1 W40 hD90).mono ?_
              rintro _ W41 ⟨vv10, rfl, HO10, ch39⟩
              obtain ⟨AA10, nn10, rfl, hcc10, hmm11, hN10, HS10, hl10⟩ := Wk.own_sl HO10
              have hB18 : Byt W41 AA10 (Mur.Dk.bytes E 1).length (Mur.Dk.bytes E 1) := by obtain ⟨_, _, e_, _, _, hq⟩ := Mur.own_byt HO10; cases e_; exact hq
              have zz41 := ch39.size
              have sS14 := Wk.Chg.step sS13 ch39 trivial
              refine ⟨_, rfl, sS14, ?_⟩
              refine Wk.dOp2 3 6 (by kernel_rfl) ?_ ?_
              · refine Wk.oVal (some 127) (.string (Mur.str (Mur.Dk.bytes E 1))) rfl rfl (by kernel_rfl) (Mur.run_str 26 9 (.tmp 126) 5 rfl Try.underlying26 Try.underlying5 Try.underlying9 AA10 ((Mur.Dk.bytes E 1).length) nn10 (Mur.Dk.bytes E 1) (by kernel_rfl) hB18) ?_
                refine ⟨sS14, ?_⟩
                refine Wk.dOp 6 (by kernel_rfl) ?_
                refine Wk.oCall (some 130) 13 [.tmp 128, .tmp 129] #[23, 3] [.pointer (some ⟨W2.heap.size, 0, none⟩), .int .i64 1] rfl rfl (by kernel_rfl) rfl (by kernel_rfl) (by kernel_rfl) ?_
                have hD91 := Mur.DskF.chg hD89 ch38 (fun s hs hl => trivial)
                have hD92 := Mur.DskF.chg hD91 ch39 (fun s hs hl => trivial)
                refine (Bytes_any W2.heap.size E FF13 1 W41 hD92).mono ?_
                rintro _ W42 ⟨vv11, rfl, HO11, ch40⟩
                obtain ⟨AA11, nn11, rfl, hcc11, hmm12, hN11, HS11, hl11⟩ := Wk.own_sl HO11
                have hB19 : Byt W42 AA11 (Mur.Dk.bytes E 1).length (Mur.Dk.bytes E 1) := by obtain ⟨_, _, e_, _, _, hq⟩ := Mur.own_byt HO11; cases e_; exact hq
                have zz42 := ch40.size
                have sS15 := Wk.Chg.step sS14 ch40 trivial
                refine ⟨_, rfl, sS15, ?_⟩
                refine Wk.dOp 7 (by kernel_rfl) ?_
                refine Wk.oVal (some 131) (.string (Mur.str (Mur.Dk.bytes E 1))) rfl rfl (by kernel_rfl) (Mur.run_str 26 9 (.tmp 130) 5 rfl Try.underlying26 Try.underlying5 Try.underlying9 AA11 ((Mur.Dk.bytes E 1).length) nn11 (Mur.Dk.bytes E 1) (by kernel_rfl) hB19) ?_
                refine ⟨sS15, ?_⟩
                refine Wk.dVal 8 (some 132) (.bool false) rfl rfl (by kernel_rfl) (by kernel_rfl) (by kernel_rfl) (fun _ _ _ h => h) (by kernel_rfl) (fun w' hw' => (Wk.boolF (b := decide ((Mur.Dk.bytes E 1) ≠ (Mur.Dk.bytes E 1))) (decide_eq_false (fun h => h rfl)) (Mur.strne 9 9 (.tmp 127) (.tmp 131) rfl (Mur.Dk.bytes E 1) (Mur.Dk.bytes E 1) (by kernel_rfl) (by kernel_rfl)))) sS15 ?_
                refine Wk.dVal 9 (some 133) (.bool false) rfl rfl (by kernel_rfl) (by kernel_rfl) (by kernel_rfl) (fun _ _ _ h => h) (by kernel_rfl) (fun w' hw' => by kernel_rfl) sS15 ?_
                refine Wk.dVal 10 (some 134) (.pointer (some ⟨W1.heap.size, 0, none⟩)) rfl rfl (by kernel_rfl) (by kernel_rfl) (by kernel_rfl) (fun _ _ _ h => h) (by kernel_rfl) (fun w' hw' => by kernel_rfl) sS15 ?_
                refine Wk.dVal 11 (some 135) (.int .i64 1) rfl rfl (by kernel_rfl) (by kernel_rfl) (by kernel_rfl) (fun _ _ _ h => h) (by kernel_rfl) (fun w' hw' => by kernel_rfl) sS15 ?_
                refine Wk.dVal 13 (some 137) (.pointer (some ⟨W2.heap.size, 0, none⟩)) rfl rfl (by kernel_rfl) (by kernel_rfl) (by kernel_rfl) (fun _ _ _ h => h) (by kernel_rfl) (fun w' hw' => by kernel_rfl) sS15 ?_
                refine Wk.dVal 14 (some 138) (.int .i64 1) rfl rfl (by kernel_rfl) (by kernel_rfl) (by kernel_rfl) (fun _ _ _ h => h) (by kernel_rfl) (fun w' hw' => by kernel_rfl) sS15 ?_
                refine Wk.dOp 12 (by kernel_rfl) ?_
                refine Wk.oCall (some 136) 14 [.tmp 134, .tmp 135] #[23, 3] [.pointer (some ⟨W1.heap.size, 0, none⟩), .int .i64 1] rfl rfl (by kernel_rfl) rfl (by kernel_rfl) (by kernel_rfl) ?_
                have hD93 := Mur.DskF.chg hD90 ch39 (fun s hs hl => trivial)
                have hD94 := Mur.DskF.chg hD93 ch40 (fun s hs hl => trivial)
                refine (Synced_any W1.heap.size E FF14 1 W42 hD94).mono ?_
                rintro _ _ ⟨rfl, rfl⟩
                refine ⟨_, rfl, sS15, ?_⟩
                refine Wk.dOp 15 (by kernel_rfl) ?_
                refine Wk.oCall (some 139) 14 [.tmp 137, .tmp 138] #[23, 3] [.pointer (some ⟨W2.heap.size, 0, none⟩), .int .i64 1] rfl rfl (by kernel_rfl) rfl (by kernel_rfl) (by kernel_rfl) ?_
                have hD95 := Mur.DskF.chg hD92 ch40 (fun s hs hl => trivial)
                refine (Synced_any W2.heap.size E FF13 1 W42 hD95).mono ?_
                rintro _ _ ⟨rfl, rfl⟩
                refine ⟨_, rfl, sS15, ?_⟩
                refine Wk.dVal 16 (some 140) (.bool false) rfl rfl (by kernel_rfl) (by kernel_rfl) (by kernel_rfl) (fun _ _ _ h => h) (by kernel_rfl) (fun w' hw' => (Wk.boolF (b := ((((Mur.Dk.synced E 1) : Nat) : Int) != (((Mur.Dk.synced E 1) : Nat) : Int))) (bne_eq_false_iff_eq.2 (rfl)) (by kernel_rfl))) sS15 ?_
                refine Wk.dVal 17 (some 141) (.bool false) rfl rfl (by kernel_rfl) (by kernel_rfl) (by kernel_rfl) (fun _ _ _ h => h) (by kernel_rfl) (fun w' hw' => by kernel_rfl) sS15 ?_
                refine Wk.dEnd (by kernel_rfl) ?_
                refine Wk.nxt ?_
                refine wp_cond_false (by kernel_rfl) ?_
                refine wp_skip ?_
                refine Wk.inN ?_
                refine Wk.nxt ?_
                refine Wk.reg ?_
                refine Wk.rPure 0 (some 142) (.int .i64 2) rfl rfl (by kernel_rfl) (Wk.int64 (n := 1 + 1) (z := 2) (by omega) (by omega) (by omega) (by kernel_rfl)) ?_
                refine Wk.rPure 1 (some 121) (.int .i64 2) rfl rfl (by kernel_rfl) (by kernel_rfl) ?_
                refine Wk.rEnd 2 rfl ?_
                refine Wk.nxt ?_
                refine Wk.rdS ?_
                refine wp_seq ?_
                refine Wk.reg ?_
                refine Wk.rPure 0 (some 122) (.bool false) rfl rfl (by kernel_rfl) (Wk.boolF (b := decide ((2 : Int) < (2 : Int))) (decide_eq_false (by decide)) (by kernel_rfl)) ?_
                refine Wk.rEnd 1 rfl ?_
                refine Wk.nxt ?_
                refine wp_seq ?_
                refine wp_cond_false (by kernel_rfl) ?_
                refine wp_exit ?_
                refine Wk.thX ?_
                refine Wk.thX ?_
                refine Wk.inX ?_
                refine Wk.nxt ?_
                refine wp_seq ?_
                refine Wk.reg ?_
                refine Wk.rCall 0 (some 143) 9 [] #[] [] rfl rfl (by kernel_rfl) rfl (by kernel_rfl) (by kernel_rfl) ?_
                refine (known_any W42).mono ?_
                rintro _ W43 ⟨rfl, hB20⟩
                have ch41 := Wk.Chg.ofBelow hB20
                have zz43 := ch41.size
                refine ⟨_, rfl, ?_⟩
                refine Wk.rPure 1 (some 8) (.bool true) rfl rfl (by kernel_rfl) (by kernel_rfl) ?_
                refine Wk.rEnd 2 rfl ?_
                refine Wk.nxt ?_
                refine wp_ret ?_
                have kk96 := Wk.Chg.step kk29 ch16 (Mur.newOr_iff.2 (fun t ht => .inr (by have := hM10 t ht; omega)))
                have kk97 := Wk.Chg.step kk96 ch17 (Mur.newOr_iff.2 (fun t ht => .inr (by have := hM9 t ht; omega)))
                have kk98 := Wk.Chg.step kk97 ch18 (Mur.newOr_iff.2 (fun t ht => .inr (by have := hM11 t ht; omega)))
                have kk99 := Wk.Chg.step kk98 ch19 (Mur.newOr_iff.2 (fun t ht => .inr (by have := hM12 t ht; omega)))
                have kk100 := Wk.Chg.step kk99 ch20 trivial
                have kk101 := Wk.Chg.step kk100 ch21 trivial
                have kk102 := Wk.Chg.step kk101 ch30 trivial
                have kk103 := Wk.Chg.step kk102 ch38 trivial
                have kk104 := Wk.Chg.step kk103 ch39 trivial
                have kk105 := Wk.Chg.step kk104 ch40 trivial
                have kk106 := Wk.Chg.step kk105 ch41 trivial
                refine Wk.ret (.bool true) rfl (by kernel_rfl) ?_
                exact ⟨rfl, Wk.Chg.below0 kk106⟩
              · refine Wk.oCall (some 130) 13 [.tmp 128, .tmp 129] #[23, 3] [.pointer (some ⟨W2.heap.size, 0, none⟩), .int .i64 1] rfl rfl (by kernel_rfl) rfl (by kernel_rfl) (by kernel_rfl) ?_
                have hD96 := Mur.DskF.chg hD89 ch38 (fun s hs hl => trivial)
                have hD97 := Mur.DskF.chg hD96 ch39 (fun s hs hl => trivial)
                refine (Bytes_any W2.heap.size E FF13 1 W41 hD97).mono ?_
                rintro _ W44 ⟨vv12, rfl, HO12, ch42⟩
                obtain ⟨AA12, nn12, rfl, hcc12, hmm13, hN12, HS12, hl12⟩ := Wk.own_sl HO12
                have hB21 : Byt W44 AA12 (Mur.Dk.bytes E 1).length (Mur.Dk.bytes E 1) := by obtain ⟨_, _, e_, _, _, hq⟩ := Mur.own_byt HO12; cases e_; exact hq
                have zz44 := ch42.size
                have sS16 := Wk.Chg.step sS14 ch42 trivial
                refine ⟨_, rfl, sS16, ?_⟩
                refine Wk.dOp2 3 7 (by kernel_rfl) ?_ ?_
                · refine Wk.oVal (some 127) (.string (Mur.str (Mur.Dk.bytes E 1))) rfl rfl (by kernel_rfl) (Mur.run_str 26 9 (.tmp 126) 5 rfl Try.underlying26 Try.underlying5 Try.underlying9 AA10 ((Mur.Dk.bytes E 1).length) nn10 (Mur.Dk.bytes E 1) (by kernel_rfl) (Mur.byt_chg hB18 ch42 (fun g off e hl => trivial))) ?_
                  refine ⟨sS16, ?_⟩
                  refine Wk.dOp 7 (by kernel_rfl) ?_
                  refine Wk.oVal (some 131) (.string (Mur.str (Mur.Dk.bytes E 1))) rfl rfl (by kernel_rfl) (Mur.run_str 26 9 (.tmp 130) 5 rfl Try.underlying26 Try.underlying5 Try.underlying9 AA12 ((Mur.Dk.bytes E 1).length) nn12 (Mur.Dk.bytes E 1) (by kernel_rfl) hB21) ?_
                  refine ⟨sS16, ?_⟩
                  refine Wk.dVal 8 (some 132) (.bool false) rfl rfl (by kernel_rfl) (by kernel_rfl) (by kernel_rfl) (fun _ _ _ h => h) (by kernel_rfl) (fun w' hw' => (Wk.boolF (b := decide ((Mur.Dk.bytes E 1) ≠ (Mur.Dk.bytes E 1))) (decide_eq_false (fun h => h rfl)) (Mur.strne 9 9 (.tmp 127) (.tmp 131) rfl (Mur.Dk.bytes E 1) (Mur.Dk.bytes E 1) (by kernel_rfl) (by kernel_rfl)))) sS16 ?_
                  refine Wk.dVal 9 (some 133) (.bool false) rfl rfl (by kernel_rfl) (by kernel_rfl) (by kernel_rfl) (fun _ _ _ h => h) (by kernel_rfl) (fun w' hw' => by kernel_rfl) sS16 ?_
                  refine Wk.dVal 10 (some 134) (.pointer (some ⟨W1.heap.size, 0, none⟩)) rfl rfl (by kernel_rfl) (by kernel_rfl) (by kernel_rfl) (fun _ _ _ h => h) (by kernel_rfl) (fun w' hw' => by kernel_rfl) sS16 ?_
                  refine Wk.dVal 11 (some 135) (.int .i64 1) rfl rfl (by kernel_rfl) (by kernel_rfl) (by kernel_rfl) (fun _ _ _ h => h) (by kernel_rfl) (fun w' hw' => by kernel_rfl) sS16 ?_
                  refine Wk.dVal 13 (some 137) (.pointer (some ⟨W2.heap.size, 0, none⟩)) rfl rfl (by kernel_rfl) (by kernel_rfl) (by kernel_rfl) (fun _ _ _ h => h) (by kernel_rfl) (fun w' hw' => by kernel_rfl) sS16 ?_
                  refine Wk.dVal 14 (some 138) (.int .i64 1) rfl rfl (by kernel_rfl) (by kernel_rfl) (by kernel_rfl) (fun _ _ _ h => h) (by kernel_rfl) (fun w' hw' => by kernel_rfl) sS16 ?_
                  refine Wk.dOp 12 (by kernel_rfl) ?_
                  refine Wk.oCall (some 136) 14 [.tmp 134, .tmp 135] #[23, 3] [.pointer (some ⟨W1.heap.size, 0, none⟩), .int .i64 1] rfl rfl (by kernel_rfl) rfl (by kernel_rfl) (by kernel_rfl) ?_
                  have hD98 := Mur.DskF.chg hD90 ch39 (fun s hs hl => trivial)
                  have hD99 := Mur.DskF.chg hD98 ch42 (fun s hs hl => trivial)
                  refine (Synced_any W1.heap.size E FF14 1 W44 hD99).mono ?_
                  rintro _ _ ⟨rfl, rfl⟩
                  refine ⟨_, rfl, sS16, ?_⟩
                  refine Wk.dOp 15 (by kernel_rfl) ?_
                  refine Wk.oCall (some 139) 14 [.tmp 137, .tmp 138] #[23, 3] [.pointer (some ⟨W2.heap.size, 0, none⟩), .int .i64 1] rfl rfl (by kernel_rfl) rfl (by kernel_rfl) (by kernel_rfl) ?_
                  have hD100 := Mur.DskF.chg hD97 ch42 (fun s hs hl => trivial)
                  refine (Synced_any W2.heap.size E FF13 1 W44 hD100).mono ?_
                  rintro _ _ ⟨rfl, rfl⟩
                  refine ⟨_, rfl, sS16, ?_⟩
                  refine Wk.dVal 16 (some 140) (.bool false) rfl rfl (by kernel_rfl) (by kernel_rfl) (by kernel_rfl) (fun _ _ _ h => h) (by kernel_rfl) (fun w' hw' => (Wk.boolF (b := ((((Mur.Dk.synced E 1) : Nat) : Int) != (((Mur.Dk.synced E 1) : Nat) : Int))) (bne_eq_false_iff_eq.2 (rfl)) (by kernel_rfl))) sS16 ?_
                  refine Wk.dVal 17 (some 141) (.bool false) rfl rfl (by kernel_rfl) (by kernel_rfl) (by kernel_rfl) (fun _ _ _ h => h) (by kernel_rfl) (fun w' hw' => by kernel_rfl) sS16 ?_
                  refine Wk.dEnd (by kernel_rfl) ?_
                  refine Wk.nxt ?_
                  refine wp_cond_false (by kernel_rfl) ?_
                  refine wp_skip ?_
                  refine Wk.inN ?_
                  refine Wk.nxt ?_
                  refine Wk.reg ?_
                  refine Wk.rPure 0 (some 142) (.int .i64 2) rfl rfl (by kernel_rfl) (Wk.int64 (n := 1 + 1) (z := 2) (by omega) (by omega) (by omega) (by kernel_rfl)) ?_
                  refine Wk.rPure 1 (some 121) (.int .i64 2) rfl rfl (by kernel_rfl) (by kernel_rfl) ?_
                  refine Wk.rEnd 2 rfl ?_
                  refine Wk.nxt ?_
                  refine Wk.rdS ?_
                  refine wp_seq ?_
                  refine Wk.reg ?_
                  refine Wk.rPure 0 (some 122) (.bool false) rfl rfl (by kernel_rfl) (Wk.boolF (b := decide ((2 : Int) < (2 : Int))) (decide_eq_false (by decide)) (by kernel_rfl)) ?_
                  refine Wk.rEnd 1 rfl ?_
                  refine Wk.nxt ?_
                  refine wp_seq ?_
                  refine wp_cond_false (by kernel_rfl) ?_
                  refine wp_exit ?_
                  refine Wk.thX ?_
                  refine Wk.thX ?_
                  refine Wk.inX ?_
                  refine Wk.nxt ?_
                  refine wp_seq ?_
                  refine Wk.reg ?_
                  refine Wk.rCall 0 (some 143) 9 [] #[] [] rfl rfl (by kernel_rfl) rfl (by kernel_rfl) (by kernel_rfl) ?_
                  refine (known_any W44).mono ?_
                  rintro _ W45 ⟨rfl, hB22⟩
                  have ch43 := Wk.Chg.ofBelow hB22
                  have zz45 := ch43.size
                  refine ⟨_, rfl, ?_⟩
                  refine Wk.rPure 1 (some 8) (.bool true) rfl rfl (by kernel_rfl) (by kernel_rfl) ?_
                  refine Wk.rEnd 2 rfl ?_
                  refine Wk.nxt ?_
                  refine wp_ret ?_
                  have kk107 := Wk.Chg.step kk29 ch16 (Mur.newOr_iff.2 (fun t ht => .inr (by have := hM10 t ht; omega)))
                  have kk108 := Wk.Chg.step kk107 ch17 (Mur.newOr_iff.2 (fun t ht => .inr (by have := hM9 t ht; omega)))
                  have kk109 := Wk.Chg.step kk108 ch18 (Mur.newOr_iff.2 (fun t ht => .inr (by have := hM11 t ht; omega)))
                  have kk110 := Wk.Chg.step kk109 ch19 (Mur.newOr_iff.2 (fun t ht => .inr (by have := hM12 t ht; omega)))
                  have kk111 := Wk.Chg.step kk110 ch20 trivial
                  have kk112 := Wk.Chg.step kk111 ch21 trivial
                  have kk113 := Wk.Chg.step kk112 ch30 trivial
                  have kk114 := Wk.Chg.step kk113 ch38 trivial
                  have kk115 := Wk.Chg.step kk114 ch39 trivial
                  have kk116 := Wk.Chg.step kk115 ch42 trivial
                  have kk117 := Wk.Chg.step kk116 ch43 trivial
                  refine Wk.ret (.bool true) rfl (by kernel_rfl) ?_
                  exact ⟨rfl, Wk.Chg.below0 kk117⟩
                · refine Wk.oVal (some 131) (.string (Mur.str (Mur.Dk.bytes E 1))) rfl rfl (by kernel_rfl) (Mur.run_str 26 9 (.tmp 130) 5 rfl Try.underlying26 Try.underlying5 Try.underlying9 AA12 ((Mur.Dk.bytes E 1).length) nn12 (Mur.Dk.bytes E 1) (by kernel_rfl) hB21) ?_
                  refine ⟨sS16, ?_⟩
                  refine Wk.dOp 3 (by kernel_rfl) ?_
                  refine Wk.oVal (some 127) (.string (Mur.str (Mur.Dk.bytes E 1))) rfl rfl (by kernel_rfl) (Mur.run_str 26 9 (.tmp 126) 5 rfl Try.underlying26 Try.underlying5 Try.underlying9 AA10 ((Mur.Dk.bytes E 1).length) nn10 (Mur.Dk.bytes E 1) (by kernel_rfl) (Mur.byt_chg hB18 ch42 (fun g off e hl => trivial))) ?_
                  refine ⟨sS16, ?_⟩
                  refine Wk.dVal 8 (some 132) (.bool false) rfl rfl (by kernel_rfl) (by kernel_rfl) (by kernel_rfl) (fun _ _ _ h => h) (by kernel_rfl) (fun w' hw' => (Wk.boolF (b := decide ((Mur.Dk.bytes E 1) ≠ (Mur.Dk.bytes E 1))) (decide_eq_false (fun h => h rfl)) (Mur.strne 9 9 (.tmp 127) (.tmp 131) rfl (Mur.Dk.bytes E 1) (Mur.Dk.bytes E 1) (by kernel_rfl) (by kernel_rfl)))) sS16 ?_
                  refine Wk.dVal 9 (some 133) (.bool false) rfl rfl (by kernel_rfl) (by kernel_rfl) (by kernel_rfl) (fun _ _ _ h => h) (by kernel_rfl) (fun w' hw' => by kernel_rfl) sS16 ?_
                  refine Wk.dVal 10 (some 134) (.pointer (some ⟨W1.heap.size, 0, none⟩)) rfl rfl (by kernel_rfl) (by kernel_rfl) (by kernel_rfl) (fun _ _ _ h => h) (by kernel_rfl) (fun w' hw' => by kernel_rfl) sS16 ?_
                  refine Wk.dVal 11 (some 135) (.int .i64 1) rfl rfl (by kernel_rfl) (by kernel_rfl) (by kernel_rfl) (fun _ _ _ h => h) (by kernel_rfl) (fun w' hw' => by kernel_rfl) sS16 ?_
                  refine Wk.dVal 13 (some 137) (.pointer (some ⟨W2.heap.size, 0, none⟩)) rfl rfl (by kernel_rfl) (by kernel_rfl) (by kernel_rfl) (fun _ _ _ h => h) (by kernel_rfl) (fun w' hw' => by kernel_rfl) sS16 ?_
                  refine Wk.dVal 14 (some 138) (.int .i64 1) rfl rfl (by kernel_rfl) (by kernel_rfl) (by kernel_rfl) (fun _ _ _ h => h) (by kernel_rfl) (fun w' hw' => by kernel_rfl) sS16 ?_
                  refine Wk.dOp 12 (by kernel_rfl) ?_
                  refine Wk.oCall (some 136) 14 [.tmp 134, .tmp 135] #[23, 3] [.pointer (some ⟨W1.heap.size, 0, none⟩), .int .i64 1] rfl rfl (by kernel_rfl) rfl (by kernel_rfl) (by kernel_rfl) ?_
                  have hD101 := Mur.DskF.chg hD90 ch39 (fun s hs hl => trivial)
                  have hD102 := Mur.DskF.chg hD101 ch42 (fun s hs hl => trivial)
                  refine (Synced_any W1.heap.size E FF14 1 W44 hD102).mono ?_
                  rintro _ _ ⟨rfl, rfl⟩
                  refine ⟨_, rfl, sS16, ?_⟩
                  refine Wk.dOp 15 (by kernel_rfl) ?_
                  refine Wk.oCall (some 139) 14 [.tmp 137, .tmp 138] #[23, 3] [.pointer (some ⟨W2.heap.size, 0, none⟩), .int .i64 1] rfl rfl (by kernel_rfl) rfl (by kernel_rfl) (by kernel_rfl) ?_
                  have hD103 := Mur.DskF.chg hD97 ch42 (fun s hs hl => trivial)
                  refine (Synced_any W2.heap.size E FF13 1 W44 hD103).mono ?_
                  rintro _ _ ⟨rfl, rfl⟩
                  refine ⟨_, rfl, sS16, ?_⟩
                  refine Wk.dVal 16 (some 140) (.bool false) rfl rfl (by kernel_rfl) (by kernel_rfl) (by kernel_rfl) (fun _ _ _ h => h) (by kernel_rfl) (fun w' hw' => (Wk.boolF (b := ((((Mur.Dk.synced E 1) : Nat) : Int) != (((Mur.Dk.synced E 1) : Nat) : Int))) (bne_eq_false_iff_eq.2 (rfl)) (by kernel_rfl))) sS16 ?_
                  refine Wk.dVal 17 (some 141) (.bool false) rfl rfl (by kernel_rfl) (by kernel_rfl) (by kernel_rfl) (fun _ _ _ h => h) (by kernel_rfl) (fun w' hw' => by kernel_rfl) sS16 ?_
                  refine Wk.dEnd (by kernel_rfl) ?_
                  refine Wk.nxt ?_
                  refine wp_cond_false (by kernel_rfl) ?_
                  refine wp_skip ?_
                  refine Wk.inN ?_
                  refine Wk.nxt ?_
                  refine Wk.reg ?_
                  refine Wk.rPure 0 (some 142) (.int .i64 2) rfl rfl (by kernel_rfl) (Wk.int64 (n := 1 + 1) (z := 2) (by omega) (by omega) (by omega) (by kernel_rfl)) ?_
                  refine Wk.rPure 1 (some 121) (.int .i64 2) rfl rfl (by kernel_rfl) (by kernel_rfl) ?_
                  refine Wk.rEnd 2 rfl ?_
                  refine Wk.nxt ?_
                  refine Wk.rdS ?_
                  refine wp_seq ?_
                  refine Wk.reg ?_
                  refine Wk.rPure 0 (some 122) (.bool false) rfl rfl (by kernel_rfl) (Wk.boolF (b := decide ((2 : Int) < (2 : Int))) (decide_eq_false (by decide)) (by kernel_rfl)) ?_
                  refine Wk.rEnd 1 rfl ?_
                  refine Wk.nxt ?_
                  refine wp_seq ?_
                  refine wp_cond_false (by kernel_rfl) ?_
                  refine wp_exit ?_
                  refine Wk.thX ?_
                  refine Wk.thX ?_
                  refine Wk.inX ?_
                  refine Wk.nxt ?_
                  refine wp_seq ?_
                  refine Wk.reg ?_
                  refine Wk.rCall 0 (some 143) 9 [] #[] [] rfl rfl (by kernel_rfl) rfl (by kernel_rfl) (by kernel_rfl) ?_
                  refine (known_any W44).mono ?_
                  rintro _ W46 ⟨rfl, hB23⟩
                  have ch44 := Wk.Chg.ofBelow hB23
                  have zz46 := ch44.size
                  refine ⟨_, rfl, ?_⟩
                  refine Wk.rPure 1 (some 8) (.bool true) rfl rfl (by kernel_rfl) (by kernel_rfl) ?_
                  refine Wk.rEnd 2 rfl ?_
                  refine Wk.nxt ?_
                  refine wp_ret ?_
                  have kk118 := Wk.Chg.step kk29 ch16 (Mur.newOr_iff.2 (fun t ht => .inr (by have := hM10 t ht; omega)))
                  have kk119 := Wk.Chg.step kk118 ch17 (Mur.newOr_iff.2 (fun t ht => .inr (by have := hM9 t ht; omega)))
                  have kk120 := Wk.Chg.step kk119 ch18 (Mur.newOr_iff.2 (fun t ht => .inr (by have := hM11 t ht; omega)))
                  have kk121 := Wk.Chg.step kk120 ch19 (Mur.newOr_iff.2 (fun t ht => .inr (by have := hM12 t ht; omega)))
                  have kk122 := Wk.Chg.step kk121 ch20 trivial
                  have kk123 := Wk.Chg.step kk122 ch21 trivial
                  have kk124 := Wk.Chg.step kk123 ch30 trivial
                  have kk125 := Wk.Chg.step kk124 ch38 trivial
                  have kk126 := Wk.Chg.step kk125 ch39 trivial
                  have kk127 := Wk.Chg.step kk126 ch42 trivial
                  have kk128 := Wk.Chg.step kk127 ch44 trivial
                  refine Wk.ret (.bool true) rfl (by kernel_rfl) ?_
                  exact ⟨rfl, Wk.Chg.below0 kk128⟩
end Go.Proofs.Ytddabjlhidokaaa
