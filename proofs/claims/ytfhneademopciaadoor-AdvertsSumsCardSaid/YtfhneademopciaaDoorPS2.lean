/- AdvertsSums, walked. -/
import Derived.Test.YtfhneademopciaaDoorPS1
import Derived.Test.YtfhneademopciaaDoorPO11
namespace Go.Proofs.YtfhneademopciaaDoor
open Go.RowKit
open Mur (b8s Byt Own8 Seg Segs flat cutA attC Att SlA OwnA rowA)
set_option maxRecDepth 100000
set_option maxHeartbeats 4000000
def Sum20_F1 (b : Array Value) (u0 : Value) (u1 : Value) (u2 : Value) (u7 : Value) (u8 : Value) (u41 : Value) (u42 : Value) : Act := ⟨#[u0, u1, u2, b.getD 3 undef, b.getD 4 undef, b.getD 5 undef, b.getD 6 undef, u7, u8, b.getD 9 undef, b.getD 10 undef, b.getD 11 undef, b.getD 12 undef, b.getD 13 undef, b.getD 14 undef, b.getD 15 undef, b.getD 16 undef, b.getD 17 undef, b.getD 18 undef, b.getD 19 undef, b.getD 20 undef, b.getD 21 undef, b.getD 22 undef, b.getD 23 undef, b.getD 24 undef, b.getD 25 undef, b.getD 26 undef, b.getD 27 undef, b.getD 28 undef, b.getD 29 undef, b.getD 30 undef, b.getD 31 undef, b.getD 32 undef, b.getD 33 undef, b.getD 34 undef, b.getD 35 undef, b.getD 36 undef, b.getD 37 undef, b.getD 38 undef, b.getD 39 undef, b.getD 40 undef, u41, u42, b.getD 43 undef, b.getD 44 undef, b.getD 45 undef, b.getD 46 undef, b.getD 47 undef, b.getD 48 undef, b.getD 49 undef, b.getD 50 undef, b.getD 51 undef, b.getD 52 undef, b.getD 53 undef, b.getD 54 undef, b.getD 55 undef, b.getD 56 undef, b.getD 57 undef, b.getD 58 undef, b.getD 59 undef, b.getD 60 undef, b.getD 61 undef, b.getD 62 undef, b.getD 63 undef, b.getD 64 undef, b.getD 65 undef, b.getD 66 undef, b.getD 67 undef, b.getD 68 undef, b.getD 69 undef, b.getD 70 undef, b.getD 71 undef, b.getD 72 undef, b.getD 73 undef, b.getD 74 undef, b.getD 75 undef, b.getD 76 undef, b.getD 77 undef, b.getD 78 undef, b.getD 79 undef, b.getD 80 undef, b.getD 81 undef, b.getD 82 undef, b.getD 83 undef, b.getD 84 undef, b.getD 85 undef, b.getD 86 undef, b.getD 87 undef, b.getD 88 undef, b.getD 89 undef, b.getD 90 undef, b.getD 91 undef, b.getD 92 undef, b.getD 93 undef, b.getD 94 undef, b.getD 95 undef, b.getD 96 undef, b.getD 97 undef, b.getD 98 undef, b.getD 99 undef, b.getD 100 undef, b.getD 101 undef, b.getD 102 undef, b.getD 103 undef, b.getD 104 undef, b.getD 105 undef, b.getD 106 undef, b.getD 107 undef, b.getD 108 undef, b.getD 109 undef, b.getD 110 undef, b.getD 111 undef, b.getD 112 undef, b.getD 113 undef, b.getD 114 undef, b.getD 115 undef, b.getD 116 undef, b.getD 117 undef, b.getD 118 undef, b.getD 119 undef, b.getD 120 undef, b.getD 121 undef, b.getD 122 undef, b.getD 123 undef, b.getD 124 undef, b.getD 125 undef, b.getD 126 undef], []⟩
def Sum20_F2 (b : Array Value) (u1 : Value) (u2 : Value) (u7 : Value) (u8 : Value) (u53 : Value) (u54 : Value) : Act := ⟨#[b.getD 0 undef, u1, u2, b.getD 3 undef, b.getD 4 undef, b.getD 5 undef, b.getD 6 undef, u7, u8, b.getD 9 undef, b.getD 10 undef, b.getD 11 undef, b.getD 12 undef, b.getD 13 undef, b.getD 14 undef, b.getD 15 undef, b.getD 16 undef, b.getD 17 undef, b.getD 18 undef, b.getD 19 undef, b.getD 20 undef, b.getD 21 undef, b.getD 22 undef, b.getD 23 undef, b.getD 24 undef, b.getD 25 undef, b.getD 26 undef, b.getD 27 undef, b.getD 28 undef, b.getD 29 undef, b.getD 30 undef, b.getD 31 undef, b.getD 32 undef, b.getD 33 undef, b.getD 34 undef, b.getD 35 undef, b.getD 36 undef, b.getD 37 undef, b.getD 38 undef, b.getD 39 undef, b.getD 40 undef, b.getD 41 undef, b.getD 42 undef, b.getD 43 undef, b.getD 44 undef, b.getD 45 undef, b.getD 46 undef, b.getD 47 undef, b.getD 48 undef, b.getD 49 undef, b.getD 50 undef, b.getD 51 undef, b.getD 52 undef, u53, u54, b.getD 55 undef, b.getD 56 undef, b.getD 57 undef, b.getD 58 undef, b.getD 59 undef, b.getD 60 undef, b.getD 61 undef, b.getD 62 undef, b.getD 63 undef, b.getD 64 undef, b.getD 65 undef, b.getD 66 undef, b.getD 67 undef, b.getD 68 undef, b.getD 69 undef, b.getD 70 undef, b.getD 71 undef, b.getD 72 undef, b.getD 73 undef, b.getD 74 undef, b.getD 75 undef, b.getD 76 undef, b.getD 77 undef, b.getD 78 undef, b.getD 79 undef, b.getD 80 undef, b.getD 81 undef, b.getD 82 undef, b.getD 83 undef, b.getD 84 undef, b.getD 85 undef, b.getD 86 undef, b.getD 87 undef, b.getD 88 undef, b.getD 89 undef, b.getD 90 undef, b.getD 91 undef, b.getD 92 undef, b.getD 93 undef, b.getD 94 undef, b.getD 95 undef, b.getD 96 undef, b.getD 97 undef, b.getD 98 undef, b.getD 99 undef, b.getD 100 undef, b.getD 101 undef, b.getD 102 undef, b.getD 103 undef, b.getD 104 undef, b.getD 105 undef, b.getD 106 undef, b.getD 107 undef, b.getD 108 undef, b.getD 109 undef, b.getD 110 undef, b.getD 111 undef, b.getD 112 undef, b.getD 113 undef, b.getD 114 undef, b.getD 115 undef, b.getD 116 undef, b.getD 117 undef, b.getD 118 undef, b.getD 119 undef, b.getD 120 undef, b.getD 121 undef, b.getD 122 undef, b.getD 123 undef, b.getD 124 undef, b.getD 125 undef, b.getD 126 undef], []⟩
theorem sums20_any (A : Option Addr) (n c : Nat) (L : List Att) (B : Option Addr) (m d : Nat) (M : List Att) (p : List UInt8) (PA : Option Addr) (pn pc : Nat) (w : World) (hv : ShaVars w) (hl : SlA w A n L) (_hnc : n ≤ c ∧ c ≤ 9223372036854775807) (hm : SlA w B m M) (_hmd : m ≤ d ∧ d ≤ 9223372036854775807) (hb : Byt w PA pn p) (hpc : pn ≤ pc ∧ pc ≤ 9223372036854775807) (_hpnil : PA = none → pc = 0) : Calls Tryd.prog 5 #[.slice A n c, .slice B m d, .slice PA pn pc] w fun e w' => e = .returned (.bool true) ∧ Below w.heap.size w w' := by
  have HV := Go.Lib.hid hv
  clear hv
  have hpl_ := hb.1
  refine calls_of_wp Tryd.func5 rfl ?_
  refine wp_seq ?_
  refine Wk.reg ?_
  refine Wk.rPure 0 (some 6) (.bool false) rfl rfl (by kernel_rfl) (by kernel_rfl) ?_
  refine Wk.rEnd 1 rfl ?_
  refine Wk.nxt ?_
  refine wp_seq ?_
  refine wp_seq ?_
  refine Wk.reg ?_
  refine Wk.rPure 0 (some 18) (.slice A n c) rfl rfl (by kernel_rfl) (by kernel_rfl) ?_
  refine Wk.rPure 1 (some 19) (.int .i64 ((n : Nat) : Int)) rfl rfl (by kernel_rfl) (by kernel_rfl) ?_
  by_cases hx1 : ((n : Nat) : Int) > (100 : Int)
  · refine Wk.rPure 2 (some 20) (.bool true) rfl rfl (by kernel_rfl) (Wk.boolT (b := decide (((n : Nat) : Int) > (100 : Int))) (decide_eq_true (by first | exact hx1 | omega)) (by kernel_rfl)) ?_
    refine Wk.rPure 3 (some 21) (.bool true) rfl rfl (by kernel_rfl) (by kernel_rfl) ?_
    refine Wk.rPass 4 (some 22) rfl rfl (by kernel_rfl) ?_
    refine Wk.rPass 5 (some 23) rfl rfl (by kernel_rfl) ?_
    refine Wk.rPass 6 (some 24) rfl rfl (by kernel_rfl) ?_
    refine Wk.rPure 7 (some 25) (.bool true) rfl rfl (by kernel_rfl) (by kernel_rfl) ?_
    refine Wk.rPure 8 (some 26) (.bool true) rfl rfl (by kernel_rfl) (by kernel_rfl) ?_
    refine Wk.rPass 9 (some 27) rfl rfl (by kernel_rfl) ?_
    refine Wk.rPass 10 (some 28) rfl rfl (by kernel_rfl) ?_
    refine Wk.rPass 11 (some 29) rfl rfl (by kernel_rfl) ?_
    refine Wk.rPure 12 (some 30) (.bool true) rfl rfl (by kernel_rfl) (by kernel_rfl) ?_
    refine Wk.rEnd 13 rfl ?_
    refine Wk.nxt ?_
    refine wp_cond_true (by kernel_rfl) ?_
    refine wp_seq ?_
    refine Wk.reg ?_
    refine Wk.rCall 0 (some 31) 13 [] #[] [] rfl rfl (by kernel_rfl) rfl (by kernel_rfl) (by kernel_rfl) ?_
    refine (known20_any w HV.out).mono ?_
    rintro _ W1 ⟨rfl, ch1⟩
    have zz1 := ch1.size
    refine ⟨_, rfl, ?_⟩
    refine Wk.rPure 1 (some 6) (.bool true) rfl rfl (by kernel_rfl) (by kernel_rfl) ?_
    refine Wk.rEnd 2 rfl ?_
    refine Wk.nxt ?_
    refine wp_ret ?_
    refine Wk.thR ?_
    have kk1 : Wk.Chg [] w W1 := Wk.Chg.step ((Wk.Chg.refl _).more (by simp)) ch1 trivial
    refine Wk.ret (.bool true) rfl (by kernel_rfl) ?_
    exact ⟨rfl, Wk.Chg.below0 kk1⟩
  · refine Wk.rPure 2 (some 20) (.bool false) rfl rfl (by kernel_rfl) (Wk.boolF (b := decide (((n : Nat) : Int) > (100 : Int))) (decide_eq_false (by first | exact hx1 | omega)) (by kernel_rfl)) ?_
    refine Wk.rPure 3 (some 21) (.bool false) rfl rfl (by kernel_rfl) (by kernel_rfl) ?_
    refine Wk.rPure 4 (some 22) (.slice B m d) rfl rfl (by kernel_rfl) (by kernel_rfl) ?_
    refine Wk.rPure 5 (some 23) (.int .i64 ((m : Nat) : Int)) rfl rfl (by kernel_rfl) (by kernel_rfl) ?_
    by_cases hx2 : ((m : Nat) : Int) > (100 : Int)
    · refine Wk.rPure 6 (some 24) (.bool true) rfl rfl (by kernel_rfl) (Wk.boolT (b := decide (((m : Nat) : Int) > (100 : Int))) (decide_eq_true (by first | exact hx2 | omega)) (by kernel_rfl)) ?_
      refine Wk.rPure 7 (some 25) (.bool true) rfl rfl (by kernel_rfl) (by kernel_rfl) ?_
      refine Wk.rPure 8 (some 26) (.bool true) rfl rfl (by kernel_rfl) (by kernel_rfl) ?_
      refine Wk.rPass 9 (some 27) rfl rfl (by kernel_rfl) ?_
      refine Wk.rPass 10 (some 28) rfl rfl (by kernel_rfl) ?_
      refine Wk.rPass 11 (some 29) rfl rfl (by kernel_rfl) ?_
      refine Wk.rPure 12 (some 30) (.bool true) rfl rfl (by kernel_rfl) (by kernel_rfl) ?_
      refine Wk.rEnd 13 rfl ?_
      refine Wk.nxt ?_
      refine wp_cond_true (by kernel_rfl) ?_
      refine wp_seq ?_
      refine Wk.reg ?_
      refine Wk.rCall 0 (some 31) 13 [] #[] [] rfl rfl (by kernel_rfl) rfl (by kernel_rfl) (by kernel_rfl) ?_
      refine (known20_any w HV.out).mono ?_
      rintro _ W2 ⟨rfl, ch2⟩
      have zz2 := ch2.size
      refine ⟨_, rfl, ?_⟩
      refine Wk.rPure 1 (some 6) (.bool true) rfl rfl (by kernel_rfl) (by kernel_rfl) ?_
      refine Wk.rEnd 2 rfl ?_
      refine Wk.nxt ?_
      refine wp_ret ?_
      refine Wk.thR ?_
      have kk2 : Wk.Chg [] w W2 := Wk.Chg.step ((Wk.Chg.refl _).more (by simp)) ch2 trivial
      refine Wk.ret (.bool true) rfl (by kernel_rfl) ?_
      exact ⟨rfl, Wk.Chg.below0 kk2⟩
    · refine Wk.rPure 6 (some 24) (.bool false) rfl rfl (by kernel_rfl) (Wk.boolF (b := decide (((m : Nat) : Int) > (100 : Int))) (decide_eq_false (by first | exact hx2 | omega)) (by kernel_rfl)) ?_
      refine Wk.rPure 7 (some 25) (.bool false) rfl rfl (by kernel_rfl) (by kernel_rfl) ?_
      refine Wk.rPure 8 (some 26) (.bool false) rfl rfl (by kernel_rfl) (by kernel_rfl) ?_
      refine Wk.rPure 9 (some 27) (.slice PA pn pc) rfl rfl (by kernel_rfl) (by kernel_rfl) ?_
      refine Wk.rCall 10 (some 28) 19 [.tmp 27] #[38] [.slice PA pn pc] rfl rfl (by kernel_rfl) rfl (by kernel_rfl) (by kernel_rfl) ?_
      refine (IsPrefix_any p PA pn pc w hb (by omega)).mono ?_
      cases hpre1 : Mur.isPre p
      · rintro _ _ ⟨rfl, rfl⟩
        refine ⟨_, rfl, ?_⟩
        refine Wk.rPure 11 (some 29) (.bool true) rfl rfl (by kernel_rfl) (by kernel_rfl) ?_
        refine Wk.rPure 12 (some 30) (.bool true) rfl rfl (by kernel_rfl) (by kernel_rfl) ?_
        refine Wk.rEnd 13 rfl ?_
        refine Wk.nxt ?_
        refine wp_cond_true (by kernel_rfl) ?_
        refine wp_seq ?_
        refine Wk.reg ?_
        refine Wk.rCall 0 (some 31) 13 [] #[] [] rfl rfl (by kernel_rfl) rfl (by kernel_rfl) (by kernel_rfl) ?_
        refine (known20_any w HV.out).mono ?_
        rintro _ W3 ⟨rfl, ch3⟩
        have zz3 := ch3.size
        refine ⟨_, rfl, ?_⟩
        refine Wk.rPure 1 (some 6) (.bool true) rfl rfl (by kernel_rfl) (by kernel_rfl) ?_
        refine Wk.rEnd 2 rfl ?_
        refine Wk.nxt ?_
        refine wp_ret ?_
        refine Wk.thR ?_
        have kk3 : Wk.Chg [] w W3 := Wk.Chg.step ((Wk.Chg.refl _).more (by simp)) ch3 trivial
        refine Wk.ret (.bool true) rfl (by kernel_rfl) ?_
        exact ⟨rfl, Wk.Chg.below0 kk3⟩
      · rintro _ _ ⟨rfl, rfl⟩
        refine ⟨_, rfl, ?_⟩
        refine Wk.rPure 11 (some 29) (.bool false) rfl rfl (by kernel_rfl) (by kernel_rfl) ?_
        refine Wk.rPure 12 (some 30) (.bool false) rfl rfl (by kernel_rfl) (by kernel_rfl) ?_
        refine Wk.rEnd 13 rfl ?_
        refine Wk.nxt ?_
        refine wp_cond_false (by kernel_rfl) ?_
        refine wp_skip ?_
        refine Wk.nxt ?_
        refine wp_seq ?_
        refine Wk.reg ?_
        have hpre1_ := hpre1
        refine Wk.rCall 0 (some 32) 14 [] #[] [] rfl rfl (by kernel_rfl) rfl (by kernel_rfl) (by kernel_rfl) ?_
        refine (New_any w).mono ?_
        rintro _ W4 ⟨FF1, rfl, hD1, ch4⟩
        have hM1 := Mur.SetF.mem hD1
        have zz4 := (hM1 _ (Mur.SetF.self hD1)).2
        have zz5 := ch4.size
        refine ⟨_, rfl, ?_⟩
        refine Wk.rCall 1 (some 33) 14 [] #[] [] rfl rfl (by kernel_rfl) rfl (by kernel_rfl) (by kernel_rfl) ?_
        refine (New_any W4).mono ?_
        rintro _ W5 ⟨FF2, rfl, hD2, ch5⟩
        have hM2 := Mur.SetF.mem hD2
        have zz6 := (hM2 _ (Mur.SetF.self hD2)).2
        have zz7 := ch5.size
        have jj1 : Mur.Dj FF2 FF1 := fun s h1 h2 => by have := hM2 s h1; have := hM1 s h2; omega
        have jj2 : Mur.Dj FF1 FF2 := fun s h1 h2 => jj1 s h2 h1
        refine ⟨_, rfl, ?_⟩
        refine Wk.rPure 2 (some 7) (.pointer (some ⟨w.heap.size, 0, none⟩)) rfl rfl (by kernel_rfl) (by kernel_rfl) ?_
        refine Wk.rPure 3 (some 8) (.pointer (some ⟨W4.heap.size, 0, none⟩)) rfl rfl (by kernel_rfl) (by kernel_rfl) ?_
        refine Wk.rEnd 4 rfl ?_
        refine Wk.nxt ?_
        refine wp_seq ?_
        refine wp_seq ?_
        refine Wk.reg ?_
        refine Wk.rPure 0 (some 34) (.pointer (some ⟨w.heap.size, 0, none⟩)) rfl rfl (by kernel_rfl) (by kernel_rfl) ?_
        refine Wk.rPure 1 (some 35) (.bool false) rfl rfl (by kernel_rfl) (by kernel_rfl) ?_
        refine Wk.rPure 2 (some 36) (.bool false) rfl rfl (by kernel_rfl) (by kernel_rfl) ?_
        refine Wk.rPure 3 (some 37) (.pointer (some ⟨W4.heap.size, 0, none⟩)) rfl rfl (by kernel_rfl) (by kernel_rfl) ?_
        refine Wk.rPure 4 (some 38) (.bool false) rfl rfl (by kernel_rfl) (by kernel_rfl) ?_
        refine Wk.rPure 5 (some 39) (.bool false) rfl rfl (by kernel_rfl) (by kernel_rfl) ?_
        refine Wk.rEnd 6 rfl ?_
        refine Wk.nxt ?_
        refine wp_cond_false (by kernel_rfl) ?_
        refine wp_skip ?_
        refine Wk.nxt ?_
        refine wp_seq ?_
        refine wp_seq ?_
        refine Wk.reg ?_
        refine Wk.rPure 0 (some 40) (.slice A n c) rfl rfl (by kernel_rfl) (by kernel_rfl) ?_
        refine Wk.rPure 1 (some 41) (.int .i64 ((n : Nat) : Int)) rfl rfl (by kernel_rfl) (by kernel_rfl) ?_
        refine Wk.rPure 2 (some 42) (.int .i64 0) rfl rfl (by kernel_rfl) (by kernel_rfl) ?_
        refine Wk.rEnd 3 rfl ?_
        refine Wk.nxt ?_
        refine wp_block ?_
        refine Wk.loop (fun m_ a wr => ∃ (j : Nat) (L1 : List Att) (F1 : List Nat) (L2 : List Att) (F2 : List Nat), m_ = n - j ∧ a = Sum20_F1 a.tmps (.slice A n c) (.slice B m d) (.slice PA pn pc) (.pointer (some ⟨w.heap.size, 0, none⟩)) (.pointer (some ⟨W4.heap.size, 0, none⟩)) (.int .i64 ((n : Nat) : Int)) (.int .i64 ((j : Nat) : Int)) ∧ j ≤ n ∧ Mur.SetF 32 57 w.heap.size wr w.heap.size L1 F1 ∧ Mur.SetF 32 57 W4.heap.size wr W4.heap.size L2 F2 ∧ Mur.Dj F1 F2 ∧ Wk.Chg [] w wr) (n - 0) ?_ ?_
        · have hD3 := Mur.SetF.chg hD1 ch5 (fun s hs => trivial)
          have kk4 : Wk.Chg [] w W4 := Wk.Chg.step ((Wk.Chg.refl _).more (by simp)) ch4 trivial
          have kk5 := Wk.Chg.step kk4 ch5 trivial
          refine ⟨0, [], FF1, [], FF2, rfl, by kernel_rfl, (by omega), hD3, hD2, jj2, kk5⟩
        · rintro mm1 aa1 W6 ⟨j, L1, F1, L2, F2, hmm1, hF1, hj, hD1, hD2, hJ12, HB⟩
          generalize aa1.tmps = bb1 at hF1
          subst hF1
          have hM1 := Mur.SetF.mem hD1
          have hg1_ := (hM1 _ (Mur.SetF.self hD1)).2
          have hM2 := Mur.SetF.mem hD2
          have hg2_ := (hM2 _ (Mur.SetF.self hD2)).2
          have hJ21 : Mur.Dj F2 F1 := fun s h1 h2 => hJ12 s h2 h1
          have hzB := HB.size
          have hlL := hl.len
          by_cases hlt : j < n
          · obtain ⟨g_x, o_x, rfl, _⟩ := hl.ex (by omega)
            obtain ⟨x, hx⟩ : ∃ x, L[j]? = some x := ⟨_, List.getElem?_eq_getElem (by have := hl.len; omega)⟩
            refine wp_seq ?_
            refine Wk.reg ?_
            refine Wk.rPure 0 (some 43) (.bool true) rfl rfl (by kernel_rfl) (Wk.boolT (b := decide (((j : Nat) : Int) < ((n : Nat) : Int))) (decide_eq_true (by omega)) (by kernel_rfl)) ?_
            refine Wk.rEnd 1 rfl ?_
            refine Wk.nxt ?_
            refine wp_seq ?_
            refine wp_cond_true (by kernel_rfl) ?_
            refine wp_skip ?_
            refine Wk.nxt ?_
            refine wp_seq ?_
            refine wp_block ?_
            refine wp_seq ?_
            refine Wk.reg ?_
            refine Wk.rPure 0 (some 44) (.int .i64 ((j : Nat) : Int)) rfl rfl (by kernel_rfl) (by kernel_rfl) ?_
            refine Wk.rPure 1 (some 9) (.int .i64 ((j : Nat) : Int)) rfl rfl (by kernel_rfl) (by kernel_rfl) ?_
            refine Wk.rEnd 2 rfl ?_
            refine Wk.nxt ?_
            refine Wk.reg ?_
            refine Wk.rPure 0 (some 45) (.pointer (some ⟨w.heap.size, 0, none⟩)) rfl rfl (by kernel_rfl) (by kernel_rfl) ?_
            refine Wk.rPure 1 (some 46) (.slice (some ⟨g_x, o_x, none⟩) n c) rfl rfl (by kernel_rfl) (by kernel_rfl) ?_
            refine Wk.rPure 2 (some 47) (.int .i64 ((j : Nat) : Int)) rfl rfl (by kernel_rfl) (by kernel_rfl) ?_
            refine Wk.rPure 3 (some 48) (.pointer (some ⟨g_x, o_x + j * 97, none⟩)) rfl rfl (by kernel_rfl) (Wk.index_sl 22 32 (.tmp 46) (.tmp 47) rfl Tryd.underlying22 97 (by kernel_rfl) g_x o_x n c j .i64 (by kernel_rfl) (by kernel_rfl) (by omega)) ?_
            refine Wk.rPure 4 (some 49) (.agg ((Mur.attC x.k x.r x.n x.t).toArray)) rfl rfl (by kernel_rfl) (Wk.loadR 32 (.tmp 48) rfl _ Tryd.underlying32 rfl g_x (o_x + j * 97) (by kernel_rfl) (Mur.attC x.k x.r x.n x.t) (by rw [Mur.attC_length x.hk x.hr x.ht]; kernel_rfl) ((Mur.SlA.chg hl HB (fun g off e hl => trivial)).elem hx)) ?_
            refine Wk.rCall 5 (some 50) 15 [.tmp 45, .tmp 49] #[24, 32] [.pointer (some ⟨w.heap.size, 0, none⟩), .agg ((Mur.attC x.k x.r x.n x.t).toArray)] rfl rfl (by kernel_rfl) rfl (by kernel_rfl) (by kernel_rfl) ?_
            refine (Add_any w.heap.size L1 w.heap.size F1 x W6 hD1).mono ?_
            rintro _ W7 ⟨FF3, rfl, hD4, ch6, no1⟩
            have hM3 := Mur.SetF.mem hD4
            have zz8 := ch6.size
            have hD5 := Mur.SetF.chg hD2 ch6 (fun s hs => Mur.Dj.off1 hJ12 hs)
            have jj3 : Mur.Dj FF3 F2 := fun s hs ht => by
              rcases Mur.newOr_iff.1 no1 s hs with h1 | h1
              · exact hJ12 s h1 ht
              · have := hM2 s ht; omega
            have jj4 : Mur.Dj F2 FF3 := fun s hs ht => jj3 s ht hs
            refine ⟨_, rfl, ?_⟩
            refine Wk.rEnd 6 rfl ?_
            refine Wk.inN ?_
            refine Wk.nxt ?_
            refine Wk.reg ?_
            refine Wk.rPure 0 (some 51) (.int .i64 ((j + 1 : Nat) : Int)) rfl rfl (by kernel_rfl) (Wk.int64 (n := ((j : Nat) : Int) + 1) (z := ((j + 1 : Nat) : Int)) (by omega) (by omega) (by omega) (by kernel_rfl)) ?_
            refine Wk.rPure 1 (some 42) (.int .i64 ((j + 1 : Nat) : Int)) rfl rfl (by kernel_rfl) (by kernel_rfl) ?_
            refine Wk.rEnd 2 rfl ?_
            refine Wk.nxt ?_
            have kk6 := Wk.Chg.step HB ch6 (Mur.newOr_iff.2 (fun t ht => .inr (by have := hM1 t ht; omega)))
            refine ⟨_, ?_, j + 1, (Mur.addS x L1).1, FF3, L2, F2, rfl, by kernel_rfl, (by omega), hD4, hD5, jj3, kk6⟩
            · omega
          · refine wp_seq ?_
            refine Wk.reg ?_
            refine Wk.rPure 0 (some 43) (.bool false) rfl rfl (by kernel_rfl) (Wk.boolF (b := decide (((j : Nat) : Int) < ((n : Nat) : Int))) (decide_eq_false (by omega)) (by kernel_rfl)) ?_
            refine Wk.rEnd 1 rfl ?_
            refine Wk.nxt ?_
            refine wp_seq ?_
            refine wp_cond_false (by kernel_rfl) ?_
            refine wp_exit ?_
            refine Wk.thX ?_
            refine Wk.thX ?_
            refine Wk.inX ?_
            refine Wk.nxt ?_
            refine wp_seq ?_
            refine wp_seq ?_
            refine Wk.reg ?_
            refine Wk.rPure 0 (some 52) (.slice B m d) rfl rfl (by kernel_rfl) (by kernel_rfl) ?_
            refine Wk.rPure 1 (some 53) (.int .i64 ((m : Nat) : Int)) rfl rfl (by kernel_rfl) (by kernel_rfl) ?_
            refine Wk.rPure 2 (some 54) (.int .i64 0) rfl rfl (by kernel_rfl) (by kernel_rfl) ?_
            refine Wk.rEnd 3 rfl ?_
            refine Wk.nxt ?_
            refine wp_block ?_
            refine Wk.loop (fun m_ a wr => ∃ (j : Nat) (L1 : List Att) (F1 : List Nat) (L2 : List Att) (F2 : List Nat), m_ = m - j ∧ a = Sum20_F2 a.tmps (.slice B m d) (.slice PA pn pc) (.pointer (some ⟨w.heap.size, 0, none⟩)) (.pointer (some ⟨W4.heap.size, 0, none⟩)) (.int .i64 ((m : Nat) : Int)) (.int .i64 ((j : Nat) : Int)) ∧ j ≤ m ∧ Mur.SetF 32 57 w.heap.size wr w.heap.size L1 F1 ∧ Mur.SetF 32 57 W4.heap.size wr W4.heap.size L2 F2 ∧ Mur.Dj F1 F2 ∧ Wk.Chg [] w wr) (m - 0) ?_ ?_
            · refine ⟨0, L1, F1, L2, F2, rfl, by kernel_rfl, (by omega), hD1, hD2, hJ12, HB⟩
            · rintro mm2 aa2 W8 ⟨j, L1, F1, L2, F2, hmm2, hF2, hj, hD1, hD2, hJ12, HB⟩
              generalize aa2.tmps = bb2 at hF2
              subst hF2
              have hM1 := Mur.SetF.mem hD1
              have hg1_ := (hM1 _ (Mur.SetF.self hD1)).2
              have hM2 := Mur.SetF.mem hD2
              have hg2_ := (hM2 _ (Mur.SetF.self hD2)).2
              have hJ21 : Mur.Dj F2 F1 := fun s h1 h2 => hJ12 s h2 h1
              have hzB := HB.size
              have hlL := hm.len
              by_cases hlt : j < m
              · obtain ⟨g_x, o_x, rfl, _⟩ := hm.ex (by omega)
                obtain ⟨x, hx⟩ : ∃ x, M[j]? = some x := ⟨_, List.getElem?_eq_getElem (by have := hm.len; omega)⟩
                refine wp_seq ?_
                refine Wk.reg ?_
                refine Wk.rPure 0 (some 55) (.bool true) rfl rfl (by kernel_rfl) (Wk.boolT (b := decide (((j : Nat) : Int) < ((m : Nat) : Int))) (decide_eq_true (by omega)) (by kernel_rfl)) ?_
                refine Wk.rEnd 1 rfl ?_
                refine Wk.nxt ?_
                refine wp_seq ?_
                refine wp_cond_true (by kernel_rfl) ?_
                refine wp_skip ?_
                refine Wk.nxt ?_
                refine wp_seq ?_
                refine wp_block ?_
                refine wp_seq ?_
                refine Wk.reg ?_
                refine Wk.rPure 0 (some 56) (.int .i64 ((j : Nat) : Int)) rfl rfl (by kernel_rfl) (by kernel_rfl) ?_
                refine Wk.rPure 1 (some 10) (.int .i64 ((j : Nat) : Int)) rfl rfl (by kernel_rfl) (by kernel_rfl) ?_
                refine Wk.rEnd 2 rfl ?_
                refine Wk.nxt ?_
                refine Wk.reg ?_
                refine Wk.rPure 0 (some 57) (.pointer (some ⟨W4.heap.size, 0, none⟩)) rfl rfl (by kernel_rfl) (by kernel_rfl) ?_
                refine Wk.rPure 1 (some 58) (.slice (some ⟨g_x, o_x, none⟩) m d) rfl rfl (by kernel_rfl) (by kernel_rfl) ?_
                refine Wk.rPure 2 (some 59) (.int .i64 ((j : Nat) : Int)) rfl rfl (by kernel_rfl) (by kernel_rfl) ?_
                refine Wk.rPure 3 (some 60) (.pointer (some ⟨g_x, o_x + j * 97, none⟩)) rfl rfl (by kernel_rfl) (Wk.index_sl 22 32 (.tmp 58) (.tmp 59) rfl Tryd.underlying22 97 (by kernel_rfl) g_x o_x m d j .i64 (by kernel_rfl) (by kernel_rfl) (by omega)) ?_
                refine Wk.rPure 4 (some 61) (.agg ((Mur.attC x.k x.r x.n x.t).toArray)) rfl rfl (by kernel_rfl) (Wk.loadR 32 (.tmp 60) rfl _ Tryd.underlying32 rfl g_x (o_x + j * 97) (by kernel_rfl) (Mur.attC x.k x.r x.n x.t) (by rw [Mur.attC_length x.hk x.hr x.ht]; kernel_rfl) ((Mur.SlA.chg hm HB (fun g off e hl => trivial)).elem hx)) ?_
                refine Wk.rCall 5 (some 62) 15 [.tmp 57, .tmp 61] #[24, 32] [.pointer (some ⟨W4.heap.size, 0, none⟩), .agg ((Mur.attC x.k x.r x.n x.t).toArray)] rfl rfl (by kernel_rfl) rfl (by kernel_rfl) (by kernel_rfl) ?_
                refine (Add_any W4.heap.size L2 W4.heap.size F2 x W8 hD2).mono ?_
                rintro _ W9 ⟨FF4, rfl, hD6, ch7, no2⟩
                have hM4 := Mur.SetF.mem hD6
                have zz9 := ch7.size
                have hD7 := Mur.SetF.chg hD1 ch7 (fun s hs => Mur.Dj.off1 hJ21 hs)
                have jj5 : Mur.Dj FF4 F1 := fun s hs ht => by
                  rcases Mur.newOr_iff.1 no2 s hs with h1 | h1
                  · exact hJ21 s h1 ht
                  · have := hM1 s ht; omega
                have jj6 : Mur.Dj F1 FF4 := fun s hs ht => jj5 s ht hs
                refine ⟨_, rfl, ?_⟩
                refine Wk.rEnd 6 rfl ?_
                refine Wk.inN ?_
                refine Wk.nxt ?_
                refine Wk.reg ?_
                refine Wk.rPure 0 (some 63) (.int .i64 ((j + 1 : Nat) : Int)) rfl rfl (by kernel_rfl) (Wk.int64 (n := ((j : Nat) : Int) + 1) (z := ((j + 1 : Nat) : Int)) (by omega) (by omega) (by omega) (by kernel_rfl)) ?_
                refine Wk.rPure 1 (some 54) (.int .i64 ((j + 1 : Nat) : Int)) rfl rfl (by kernel_rfl) (by kernel_rfl) ?_
                refine Wk.rEnd 2 rfl ?_
                refine Wk.nxt ?_
                have kk7 := Wk.Chg.step HB ch7 (Mur.newOr_iff.2 (fun t ht => .inr (by have := hM2 t ht; omega)))
                refine ⟨_, ?_, j + 1, L1, F1, (Mur.addS x L2).1, FF4, rfl, by kernel_rfl, (by omega), hD7, hD6, jj6, kk7⟩
                · omega
              · refine wp_seq ?_
                refine Wk.reg ?_
                refine Wk.rPure 0 (some 55) (.bool false) rfl rfl (by kernel_rfl) (Wk.boolF (b := decide (((j : Nat) : Int) < ((m : Nat) : Int))) (decide_eq_false (by omega)) (by kernel_rfl)) ?_
                refine Wk.rEnd 1 rfl ?_
                refine Wk.nxt ?_
                refine wp_seq ?_
                refine wp_cond_false (by kernel_rfl) ?_
                refine wp_exit ?_
                refine Wk.thX ?_
                refine Wk.thX ?_
                refine Wk.inX ?_
                refine Wk.nxt ?_
                refine wp_seq ?_
                refine Wk.reg ?_
                refine Wk.rPure 0 (some 65) (.pointer (some ⟨w.heap.size, 0, none⟩)) rfl rfl (by kernel_rfl) (by kernel_rfl) ?_
                refine Wk.rPure 1 (some 66) (.slice PA pn pc) rfl rfl (by kernel_rfl) (by kernel_rfl) ?_
                refine Wk.rCall 2 (some 67) 16 [.tmp 65, .tmp 66] #[24, 38] [.pointer (some ⟨w.heap.size, 0, none⟩), .slice PA pn pc] rfl rfl (by kernel_rfl) rfl (by kernel_rfl) (by kernel_rfl) ?_
                refine (Sum_any w.heap.size L1 w.heap.size F1 p PA pn pc W8 (HV.out.below (Wk.Chg.below0 HB)) hD1 (Mur.byt_chg hb HB (fun g off e hl => trivial)) (by omega)).mono ?_
                rintro _ W10 ⟨dd1, hd1, hdl1, rfl, ch8⟩
                have zz10 := ch8.size
                refine ⟨_, rfl, ?_⟩
                refine Wk.rPure 3 (some 64) (.tuple #[.agg ((b8s dd1).toArray), .int .i64 (((Mur.belowL p L1).length : Nat) : Int)]) rfl rfl (by kernel_rfl) (by kernel_rfl) ?_
                refine Wk.rPure 4 (some 68) (.agg ((b8s dd1).toArray)) rfl rfl (by kernel_rfl) (by kernel_rfl) ?_
                refine Wk.rPure 5 (some 69) (.int .i64 (((Mur.belowL p L1).length : Nat) : Int)) rfl rfl (by kernel_rfl) (by kernel_rfl) ?_
                refine Wk.rEx 6 (some 11) _ rfl rfl (by kernel_rfl) (Wk.new_ex (.pointer (some ⟨W10.heap.size, 0, none⟩)) #[.int .u8 0, .int .u8 0, .int .u8 0, .int .u8 0, .int .u8 0, .int .u8 0, .int .u8 0, .int .u8 0, .int .u8 0, .int .u8 0, .int .u8 0, .int .u8 0, .int .u8 0, .int .u8 0, .int .u8 0, .int .u8 0, .int .u8 0, .int .u8 0, .int .u8 0, .int .u8 0, .int .u8 0, .int .u8 0, .int .u8 0, .int .u8 0, .int .u8 0, .int .u8 0, .int .u8 0, .int .u8 0, .int .u8 0, .int .u8 0, .int .u8 0, .int .u8 0] 30 (by kernel_rfl)) ?_
                rintro _ W11 ⟨rfl, hb1, ch9, sz1⟩
                have zz11 := ch9.size
                refine Wk.rExS 7 none _ rfl rfl (by kernel_rfl) (Mur.storeAll 30 (.tmp 11) (.tmp 68) rfl W10.heap.size (by kernel_rfl) dd1 32 hdl1 (by kernel_rfl) (by kernel_rfl) 30 #[.int .u8 0, .int .u8 0, .int .u8 0, .int .u8 0, .int .u8 0, .int .u8 0, .int .u8 0, .int .u8 0, .int .u8 0, .int .u8 0, .int .u8 0, .int .u8 0, .int .u8 0, .int .u8 0, .int .u8 0, .int .u8 0, .int .u8 0, .int .u8 0, .int .u8 0, .int .u8 0, .int .u8 0, .int .u8 0, .int .u8 0, .int .u8 0, .int .u8 0, .int .u8 0, .int .u8 0, .int .u8 0, .int .u8 0, .int .u8 0, .int .u8 0, .int .u8 0] hb1 rfl) ?_
                rintro W12 ⟨hb2, ch10⟩
                have zz12 := ch10.size
                refine Wk.rPure 8 (some 12) (.int .i64 (((Mur.belowL p L1).length : Nat) : Int)) rfl rfl (by kernel_rfl) (by kernel_rfl) ?_
                refine Wk.rEnd 9 rfl ?_
                refine Wk.nxt ?_
                refine wp_seq ?_
                refine Wk.reg ?_
                refine Wk.rPure 0 (some 71) (.pointer (some ⟨W4.heap.size, 0, none⟩)) rfl rfl (by kernel_rfl) (by kernel_rfl) ?_
                refine Wk.rPure 1 (some 72) (.slice PA pn pc) rfl rfl (by kernel_rfl) (by kernel_rfl) ?_
                refine Wk.rCall 2 (some 73) 16 [.tmp 71, .tmp 72] #[24, 38] [.pointer (some ⟨W4.heap.size, 0, none⟩), .slice PA pn pc] rfl rfl (by kernel_rfl) rfl (by kernel_rfl) (by kernel_rfl) ?_
                have kk8 := Wk.Chg.step HB ch8 trivial
                have kk9 := Wk.Chg.step kk8 ch9 trivial
                have kk10 := Wk.Chg.step kk9 ch10 ⟨.inr (by omega), trivial⟩
                have hD8 := Mur.SetF.chg hD2 ch8 (fun s hs => trivial)
                have hD9 := Mur.SetF.chg hD8 ch9 (fun s hs => trivial)
                have hD10 := Mur.SetF.chg hD9 ch10 (fun s hs => ⟨by have := hM2 s hs; omega, trivial⟩)
                refine (Sum_any W4.heap.size L2 W4.heap.size F2 p PA pn pc W12 (HV.out.below (Wk.Chg.below0 kk10)) hD10 (Mur.byt_chg hb kk10 (fun g off e hl => trivial)) (by omega)).mono ?_
                rintro _ W13 ⟨dd2, hd2, hdl2, rfl, ch11⟩
                have zz13 := ch11.size
                refine ⟨_, rfl, ?_⟩
                refine Wk.rPure 3 (some 70) (.tuple #[.agg ((b8s dd2).toArray), .int .i64 (((Mur.belowL p L2).length : Nat) : Int)]) rfl rfl (by kernel_rfl) (by kernel_rfl) ?_
                refine Wk.rPure 4 (some 74) (.agg ((b8s dd2).toArray)) rfl rfl (by kernel_rfl) (by kernel_rfl) ?_
                refine Wk.rPure 5 (some 75) (.int .i64 (((Mur.belowL p L2).length : Nat) : Int)) rfl rfl (by kernel_rfl) (by kernel_rfl) ?_
                refine Wk.rEx 6 (some 13) _ rfl rfl (by kernel_rfl) (Wk.new_ex (.pointer (some ⟨W13.heap.size, 0, none⟩)) #[.int .u8 0, .int .u8 0, .int .u8 0, .int .u8 0, .int .u8 0, .int .u8 0, .int .u8 0, .int .u8 0, .int .u8 0, .int .u8 0, .int .u8 0, .int .u8 0, .int .u8 0, .int .u8 0, .int .u8 0, .int .u8 0, .int .u8 0, .int .u8 0, .int .u8 0, .int .u8 0, .int .u8 0, .int .u8 0, .int .u8 0, .int .u8 0, .int .u8 0, .int .u8 0, .int .u8 0, .int .u8 0, .int .u8 0, .int .u8 0, .int .u8 0, .int .u8 0] 30 (by kernel_rfl)) ?_
                rintro _ W14 ⟨rfl, hb3, ch12, sz2⟩
                have zz14 := ch12.size
                refine Wk.rExS 7 none _ rfl rfl (by kernel_rfl) (Mur.storeAll 30 (.tmp 13) (.tmp 74) rfl W13.heap.size (by kernel_rfl) dd2 32 hdl2 (by kernel_rfl) (by kernel_rfl) 30 #[.int .u8 0, .int .u8 0, .int .u8 0, .int .u8 0, .int .u8 0, .int .u8 0, .int .u8 0, .int .u8 0, .int .u8 0, .int .u8 0, .int .u8 0, .int .u8 0, .int .u8 0, .int .u8 0, .int .u8 0, .int .u8 0, .int .u8 0, .int .u8 0, .int .u8 0, .int .u8 0, .int .u8 0, .int .u8 0, .int .u8 0, .int .u8 0, .int .u8 0, .int .u8 0, .int .u8 0, .int .u8 0, .int .u8 0, .int .u8 0, .int .u8 0, .int .u8 0] hb3 rfl) ?_
                rintro W15 ⟨hb4, ch13⟩
                have zz15 := ch13.size
                refine Wk.rPure 8 (some 14) (.int .i64 (((Mur.belowL p L2).length : Nat) : Int)) rfl rfl (by kernel_rfl) (by kernel_rfl) ?_
                refine Wk.rEnd 9 rfl ?_
                refine Wk.nxt ?_
                refine wp_seq ?_
                refine Wk.reg ?_
                refine Wk.rPure 0 (some 76) (.pointer (some ⟨w.heap.size, 0, none⟩)) rfl rfl (by kernel_rfl) (by kernel_rfl) ?_
                refine Wk.rPure 1 (some 77) (.slice PA pn pc) rfl rfl (by kernel_rfl) (by kernel_rfl) ?_
                refine Wk.rCall 2 (some 78) 18 [.tmp 76, .tmp 77] #[24, 38] [.pointer (some ⟨w.heap.size, 0, none⟩), .slice PA pn pc] rfl rfl (by kernel_rfl) rfl (by kernel_rfl) (by kernel_rfl) ?_
                have kk11 := Wk.Chg.step kk10 ch11 trivial
                have kk12 := Wk.Chg.step kk11 ch12 trivial
                have kk13 := Wk.Chg.step kk12 ch13 ⟨.inr (by omega), trivial⟩
                have hD11 := Mur.SetF.chg hD1 ch8 (fun s hs => trivial)
                have hD12 := Mur.SetF.chg hD11 ch9 (fun s hs => trivial)
                have hD13 := Mur.SetF.chg hD12 ch10 (fun s hs => ⟨by have := hM1 s hs; omega, trivial⟩)
                have hD14 := Mur.SetF.chg hD13 ch11 (fun s hs => trivial)
                have hD15 := Mur.SetF.chg hD14 ch12 (fun s hs => trivial)
                have hD16 := Mur.SetF.chg hD15 ch13 (fun s hs => ⟨by have := hM1 s hs; omega, trivial⟩)
                refine (Below_any w.heap.size L1 w.heap.size F1 p PA pn pc W15 hD16 (Mur.byt_chg hb kk13 (fun g off e hl => trivial)) (by omega)).mono ?_
                rintro _ W16 ⟨AA1, nn1, nn2, rfl, ow1, ch14⟩
                have zz16 := ch14.size
                have hq1 := ow1.nc
                have hq2 := ow1.cm
                have hq3 := ow1.sl.len
                have hq4 : (Mur.belowL p L1).length ≤ 200 := Nat.le_trans (Mur.belowL_len _ _) (Mur.SetF.len hD16)
                refine ⟨_, rfl, ?_⟩
                refine Wk.rPure 3 (some 79) (.pointer (some ⟨W4.heap.size, 0, none⟩)) rfl rfl (by kernel_rfl) (by kernel_rfl) ?_
                refine Wk.rPure 4 (some 80) (.slice PA pn pc) rfl rfl (by kernel_rfl) (by kernel_rfl) ?_
                refine Wk.rCall 5 (some 81) 18 [.tmp 79, .tmp 80] #[24, 38] [.pointer (some ⟨W4.heap.size, 0, none⟩), .slice PA pn pc] rfl rfl (by kernel_rfl) rfl (by kernel_rfl) (by kernel_rfl) ?_
                have kk14 := Wk.Chg.step kk13 ch14 trivial
                have hD17 := Mur.SetF.chg hD10 ch11 (fun s hs => trivial)
                have hD18 := Mur.SetF.chg hD17 ch12 (fun s hs => trivial)
                have hD19 := Mur.SetF.chg hD18 ch13 (fun s hs => ⟨by have := hM2 s hs; omega, trivial⟩)
                have hD20 := Mur.SetF.chg hD19 ch14 (fun s hs => trivial)
                refine (Below_any W4.heap.size L2 W4.heap.size F2 p PA pn pc W16 hD20 (Mur.byt_chg hb kk14 (fun g off e hl => trivial)) (by omega)).mono ?_
                rintro _ W17 ⟨AA2, nn3, nn4, rfl, ow2, ch15⟩
                have zz17 := ch15.size
                have hq5 := ow2.nc
                have hq6 := ow2.cm
                have hq7 := ow2.sl.len
                have hq8 : (Mur.belowL p L2).length ≤ 200 := Nat.le_trans (Mur.belowL_len _ _) (Mur.SetF.len hD20)
                refine ⟨_, rfl, ?_⟩
                refine Wk.rPure 6 (some 15) (.slice AA1 nn1 nn2) rfl rfl (by kernel_rfl) (by kernel_rfl) ?_
                refine Wk.rPure 7 (some 16) (.slice AA2 nn3 nn4) rfl rfl (by kernel_rfl) (by kernel_rfl) ?_
                refine Wk.rEnd 8 rfl ?_
                refine Wk.nxt ?_
                refine wp_seq ?_
                refine wp_seq ?_
                refine Wk.reg ?_
                refine Wk.rPure 0 (some 82) (.int .i64 (((Mur.belowL p L1).length : Nat) : Int)) rfl rfl (by kernel_rfl) (by kernel_rfl) ?_
                refine Wk.rPure 1 (some 83) (.slice AA1 nn1 nn2) rfl rfl (by kernel_rfl) (by kernel_rfl) ?_
                refine Wk.rPure 2 (some 84) (.int .i64 ((nn1 : Nat) : Int)) rfl rfl (by kernel_rfl) (by kernel_rfl) ?_
                by_cases hx3 : (((Mur.belowL p L1).length : Nat) : Int) ≠ ((nn1 : Nat) : Int)
                · refine Wk.rPure 3 (some 85) (.bool true) rfl rfl (by kernel_rfl) (Wk.boolT (b := ((((Mur.belowL p L1).length : Nat) : Int) != ((nn1 : Nat) : Int))) (bne_iff_ne.2 (by first | exact hx3 | omega)) (by kernel_rfl)) ?_
                  refine Wk.rPure 4 (some 86) (.bool true) rfl rfl (by kernel_rfl) (by kernel_rfl) ?_
                  refine Wk.rPass 5 (some 87) rfl rfl (by kernel_rfl) ?_
                  refine Wk.rPass 6 (some 88) rfl rfl (by kernel_rfl) ?_
                  refine Wk.rPass 7 (some 89) rfl rfl (by kernel_rfl) ?_
                  refine Wk.rPass 8 (some 90) rfl rfl (by kernel_rfl) ?_
                  refine Wk.rPure 9 (some 91) (.bool true) rfl rfl (by kernel_rfl) (by kernel_rfl) ?_
                  refine Wk.rEnd 10 rfl ?_
                  refine Wk.nxt ?_
                  refine wp_cond_true (by kernel_rfl) ?_
                  refine wp_seq ?_
                  refine Wk.reg ?_
                  refine Wk.rPure 0 (some 6) (.bool false) rfl rfl (by kernel_rfl) (by kernel_rfl) ?_
                  refine Wk.rEnd 1 rfl ?_
                  refine Wk.nxt ?_
                  refine wp_ret ?_
                  refine Wk.thR ?_
                  exfalso; omega
                · refine Wk.rPure 3 (some 85) (.bool false) rfl rfl (by kernel_rfl) (Wk.boolF (b := ((((Mur.belowL p L1).length : Nat) : Int) != ((nn1 : Nat) : Int))) (bne_eq_false_iff_eq.2 (by first | exact hx3 | omega)) (by kernel_rfl)) ?_
                  refine Wk.rPure 4 (some 86) (.bool false) rfl rfl (by kernel_rfl) (by kernel_rfl) ?_
                  refine Wk.rPure 5 (some 87) (.int .i64 (((Mur.belowL p L2).length : Nat) : Int)) rfl rfl (by kernel_rfl) (by kernel_rfl) ?_
                  refine Wk.rPure 6 (some 88) (.slice AA2 nn3 nn4) rfl rfl (by kernel_rfl) (by kernel_rfl) ?_
                  refine Wk.rPure 7 (some 89) (.int .i64 ((nn3 : Nat) : Int)) rfl rfl (by kernel_rfl) (by kernel_rfl) ?_
                  by_cases hx4 : (((Mur.belowL p L2).length : Nat) : Int) ≠ ((nn3 : Nat) : Int)
                  · refine Wk.rPure 8 (some 90) (.bool true) rfl rfl (by kernel_rfl) (Wk.boolT (b := ((((Mur.belowL p L2).length : Nat) : Int) != ((nn3 : Nat) : Int))) (bne_iff_ne.2 (by first | exact hx4 | omega)) (by kernel_rfl)) ?_
                    refine Wk.rPure 9 (some 91) (.bool true) rfl rfl (by kernel_rfl) (by kernel_rfl) ?_
                    refine Wk.rEnd 10 rfl ?_
                    refine Wk.nxt ?_
                    refine wp_cond_true (by kernel_rfl) ?_
                    refine wp_seq ?_
                    refine Wk.reg ?_
                    refine Wk.rPure 0 (some 6) (.bool false) rfl rfl (by kernel_rfl) (by kernel_rfl) ?_
                    refine Wk.rEnd 1 rfl ?_
                    refine Wk.nxt ?_
                    refine wp_ret ?_
                    refine Wk.thR ?_
                    exfalso; omega
                  · refine Wk.rPure 8 (some 90) (.bool false) rfl rfl (by kernel_rfl) (Wk.boolF (b := ((((Mur.belowL p L2).length : Nat) : Int) != ((nn3 : Nat) : Int))) (bne_eq_false_iff_eq.2 (by first | exact hx4 | omega)) (by kernel_rfl)) ?_
                    refine Wk.rPure 9 (some 91) (.bool false) rfl rfl (by kernel_rfl) (by kernel_rfl) ?_
                    refine Wk.rEnd 10 rfl ?_
                    refine Wk.nxt ?_
                    refine wp_cond_false (by kernel_rfl) ?_
                    refine wp_skip ?_
                    refine Wk.nxt ?_
                    refine wp_seq ?_
                    refine wp_seq ?_
                    refine Wk.reg ?_
                    refine Wk.rPure 0 (some 92) (.slice AA1 nn1 nn2) rfl rfl (by kernel_rfl) (by kernel_rfl) ?_
                    refine Wk.rPure 1 (some 93) (.slice AA2 nn3 nn4) rfl rfl (by kernel_rfl) (by kernel_rfl) ?_
                    refine Wk.rCall 2 (some 94) 17 [.tmp 92, .tmp 93] #[22, 22] [.slice AA1 nn1 nn2, .slice AA2 nn3 nn4] rfl rfl (by kernel_rfl) rfl (by kernel_rfl) (by kernel_rfl) ?_
                    have ow3 := Mur.OwnA.chg ow1 ch15 (fun q e _ _ => trivial)
                    refine (Same20_any AA1 nn1 nn2 (Mur.belowL p L1) AA2 nn3 nn4 (Mur.belowL p L2) W17 ow3.sl ow2.sl (by omega)).mono ?_
                    by_cases hsa1 : (Mur.belowL p L1) = (Mur.belowL p L2)
                    · rw [decide_eq_true (hsa1 : (Mur.belowL p L1) = (Mur.belowL p L2))]
                      rintro _ W18 ⟨rfl, ch16⟩
                      have zz18 := ch16.size
                      refine ⟨_, rfl, ?_⟩
                      refine Wk.rEnd 3 rfl ?_
                      refine Wk.nxt ?_
                      refine wp_cond_true (by kernel_rfl) ?_
                      refine wp_seq ?_
                      refine Wk.reg ?_
                      refine Wk.rPure 0 (some 95) (.agg ((b8s dd1).toArray)) rfl rfl (by kernel_rfl) (Mur.loadAll 30 (.tmp 11) rfl _ Tryd.underlying30 rfl W10.heap.size (by kernel_rfl) dd1 32 hdl1 (by kernel_rfl) 30 (0, 0) (Wk.Chg.hp ch16 (Wk.Chg.hp ch15 (Wk.Chg.hp ch14 (Wk.Chg.hp ch13 (Wk.Chg.hp ch12 (Wk.Chg.hp ch11 hb2 trivial) trivial) ⟨by omega, trivial⟩) trivial) trivial) trivial)) ?_
                      refine Wk.rPure 1 (some 96) (.agg ((b8s dd2).toArray)) rfl rfl (by kernel_rfl) (Mur.loadAll 30 (.tmp 13) rfl _ Tryd.underlying30 rfl W13.heap.size (by kernel_rfl) dd2 32 hdl2 (by kernel_rfl) 30 (0, 0) (Wk.Chg.hp ch16 (Wk.Chg.hp ch15 (Wk.Chg.hp ch14 hb4 trivial) trivial) trivial)) ?_
                      refine Wk.rPure 2 (some 97) (.bool true) rfl rfl (by kernel_rfl) (Mur.run_eql_yes digT dd1 dd2 hdl1 hdl2 (by rw [hd1.out, hd2.out, Mur.sumL_ok hpre1_, Mur.sumL_ok hpre1_, hsa1]) _ (.tmp 95) (.tmp 96) 30 rfl (by kernel_rfl) (by kernel_rfl)) ?_
                      refine Wk.rPure 3 (some 98) (.bool true) rfl rfl (by kernel_rfl) (by kernel_rfl) ?_
                      refine Wk.rCall 4 (some 99) 13 [] #[] [] rfl rfl (by kernel_rfl) rfl (by kernel_rfl) (by kernel_rfl) ?_
                      have kk15 := Wk.Chg.step kk14 ch15 trivial
                      have kk16 := Wk.Chg.step kk15 ch16 trivial
                      refine (known20_any W18 (HV.out.below (Wk.Chg.below0 kk16))).mono ?_
                      rintro _ W19 ⟨rfl, ch17⟩
                      have zz19 := ch17.size
                      refine ⟨_, rfl, ?_⟩
                      refine Wk.rPure 5 (some 100) (.bool true) rfl rfl (by kernel_rfl) (by kernel_rfl) ?_
                      refine Wk.rPure 6 (some 6) (.bool true) rfl rfl (by kernel_rfl) (by kernel_rfl) ?_
                      refine Wk.rEnd 7 rfl ?_
                      refine Wk.nxt ?_
                      refine wp_ret ?_
                      refine Wk.thR ?_
                      have kk17 := Wk.Chg.step kk16 ch17 trivial
                      refine Wk.ret (.bool true) rfl (by kernel_rfl) ?_
                      exact ⟨rfl, Wk.Chg.below0 kk17⟩
                    · rw [decide_eq_false (hsa1 : ¬ ((Mur.belowL p L1) = (Mur.belowL p L2)))]
                      rintro _ W18 ⟨rfl, ch16⟩
                      have zz20 := ch16.size
                      refine ⟨_, rfl, ?_⟩
                      refine Wk.rEnd 3 rfl ?_
                      refine Wk.nxt ?_
                      refine wp_cond_false (by kernel_rfl) ?_
                      refine wp_skip ?_
                      refine Wk.nxt ?_
                      refine wp_seq ?_
                      refine wp_seq ?_
                      refine Wk.reg ?_
                      refine Wk.rPure 0 (some 101) (.agg ((b8s dd1).toArray)) rfl rfl (by kernel_rfl) (Mur.loadAll 30 (.tmp 11) rfl _ Tryd.underlying30 rfl W10.heap.size (by kernel_rfl) dd1 32 hdl1 (by kernel_rfl) 30 (0, 0) (Wk.Chg.hp ch16 (Wk.Chg.hp ch15 (Wk.Chg.hp ch14 (Wk.Chg.hp ch13 (Wk.Chg.hp ch12 (Wk.Chg.hp ch11 hb2 trivial) trivial) ⟨by omega, trivial⟩) trivial) trivial) trivial)) ?_
                      refine Wk.rPure 1 (some 102) (.agg ((b8s dd2).toArray)) rfl rfl (by kernel_rfl) (Mur.loadAll 30 (.tmp 13) rfl _ Tryd.underlying30 rfl W13.heap.size (by kernel_rfl) dd2 32 hdl2 (by kernel_rfl) 30 (0, 0) (Wk.Chg.hp ch16 (Wk.Chg.hp ch15 (Wk.Chg.hp ch14 hb4 trivial) trivial) trivial)) ?_
                      by_cases hxy : dd1 = dd2
                      · refine Wk.rPure 2 (some 103) (.bool false) rfl rfl (by kernel_rfl) (Mur.neq_no digT dd1 dd2 hdl1 hxy _ (.tmp 101) (.tmp 102) 30 rfl (by kernel_rfl) (by kernel_rfl)) ?_
                        refine Wk.rEnd 3 rfl ?_
                        refine Wk.nxt ?_
                        refine wp_cond_false (by kernel_rfl) ?_
                        refine wp_skip ?_
                        refine Wk.nxt ?_
                        refine wp_seq ?_
                        refine Wk.reg ?_
                        refine Wk.rCall 0 (some 105) 20 [] #[] [] rfl rfl (by kernel_rfl) rfl (by kernel_rfl) (by kernel_rfl) ?_
                        refine (Hnew_any W18).mono ?_
                        rintro _ W20 ⟨qh1, hc, kc, Hh, Hk, rfl, hqh1, hqz1, ch18⟩
                        have zz21 := ch18.size
                        have hcs := hc_size Hh.out
                        have kcs := kc_size Hk.out
                        refine ⟨_, rfl, ?_⟩
                        refine Wk.rPure 1 (some 17) (.pointer (some ⟨qh1, 0, none⟩)) rfl rfl (by kernel_rfl) (by kernel_rfl) ?_
                        refine Wk.rEnd 2 rfl ?_
                        refine Wk.nxt ?_
                        refine wp_seq ?_
                        refine Wk.dReg ([]) (by kernel_rfl) ?_
                        intro W21 ch19 sz3
                        have zz22 := ch19.size
                        have sS1 : Wk.Chg ([]) W21 W21 := (Wk.Chg.refl _).more (by simp)
                        refine Wk.dVal 0 (some 106) (.slice AA1 nn1 nn2) rfl rfl (by kernel_rfl) (by kernel_rfl) (by kernel_rfl) (fun _ _ _ h => h) (by kernel_rfl) (fun w' hw' => by kernel_rfl) sS1 ?_
                        refine Wk.dVal 3 (some 109) (.slice AA2 nn3 nn4) rfl rfl (by kernel_rfl) (by kernel_rfl) (by kernel_rfl) (fun _ _ _ h => h) (by kernel_rfl) (fun w' hw' => by kernel_rfl) sS1 ?_
                        refine Wk.dOp 1 (by kernel_rfl) ?_
                        refine Wk.oCall (some 107) 21 [.tmp 106] #[22] [.slice AA1 nn1 nn2] rfl rfl (by kernel_rfl) rfl (by kernel_rfl) (by kernel_rfl) ?_
                        have ow4 := Mur.OwnA.chg ow3 ch16 (fun q e _ _ => trivial)
                        have ow5 := Mur.OwnA.chg ow4 ch18 (fun q e _ _ => trivial)
                        have ow6 := Mur.OwnA.chg ow5 ch19 (fun q e _ _ => trivial)
                        refine (Row_any AA1 nn1 nn2 (Mur.belowL p L1) W21 ow6.sl (by omega)).mono ?_
                        rintro _ W22 ⟨AA3, nn5, nn6, rfl, ow7, ch20⟩
                        have zz23 := ch20.size
                        have hrl1 := ow7.byt.1
                        rw [Mur.rowL_length] at hrl1
                        have hq9 := ow7.nc
                        have hq10 := ow7.cm
                        have sS2 := Wk.Chg.step sS1 ch20 trivial
                        refine ⟨_, rfl, sS2, ?_⟩
                        refine Wk.dOp2 2 4 (by kernel_rfl) ?_ ?_
                        · refine Wk.oVal (some 108) (.string (Mur.str (Mur.rowL (Mur.belowL p L1)))) rfl rfl (by kernel_rfl) (Mur.run_str 38 9 (.tmp 107) 5 rfl Tryd.underlying38 Tryd.underlying5 Tryd.underlying9 AA3 nn5 nn6 (Mur.rowL (Mur.belowL p L1)) (by kernel_rfl) ow7.byt) ?_
                          refine ⟨sS2, ?_⟩
                          refine Wk.dOp 4 (by kernel_rfl) ?_
                          refine Wk.oCall (some 110) 21 [.tmp 109] #[22] [.slice AA2 nn3 nn4] rfl rfl (by kernel_rfl) rfl (by kernel_rfl) (by kernel_rfl) ?_
                          have ow8 := Mur.OwnA.chg ow2 ch16 (fun q e _ _ => trivial)
                          have ow9 := Mur.OwnA.chg ow8 ch18 (fun q e _ _ => trivial)
                          have ow10 := Mur.OwnA.chg ow9 ch19 (fun q e _ _ => trivial)
                          have ow11 := Mur.OwnA.chg ow10 ch20 (fun q e _ _ => trivial)
                          refine (Row_any AA2 nn3 nn4 (Mur.belowL p L2) W22 ow11.sl (by omega)).mono ?_
                          rintro _ W23 ⟨AA4, nn7, nn8, rfl, ow12, ch21⟩
                          have zz24 := ch21.size
                          have hrl2 := ow12.byt.1
                          rw [Mur.rowL_length] at hrl2
                          have hq11 := ow12.nc
                          have hq12 := ow12.cm
                          have sS3 := Wk.Chg.step sS2 ch21 trivial
                          refine ⟨_, rfl, sS3, ?_⟩
                          refine Wk.dOp 5 (by kernel_rfl) ?_
                          refine Wk.oVal (some 111) (.string (Mur.str (Mur.rowL (Mur.belowL p L2)))) rfl rfl (by kernel_rfl) (Mur.run_str 38 9 (.tmp 110) 5 rfl Tryd.underlying38 Tryd.underlying5 Tryd.underlying9 AA4 nn7 nn8 (Mur.rowL (Mur.belowL p L2)) (by kernel_rfl) ow12.byt) ?_
                          refine ⟨sS3, ?_⟩
                          refine Wk.dVal 6 (some 112) (.bool true) rfl rfl (by kernel_rfl) (by kernel_rfl) (by kernel_rfl) (fun _ _ _ h => h) (by kernel_rfl) (fun w' hw' => (Wk.boolT (b := decide ((Mur.rowL (Mur.belowL p L1)) ≠ (Mur.rowL (Mur.belowL p L2)))) (decide_eq_true (fun h_ => hsa1 (Mur.rowL_inj h_))) (Mur.strne 9 9 (.tmp 108) (.tmp 111) rfl (Mur.rowL (Mur.belowL p L1)) (Mur.rowL (Mur.belowL p L2)) (by kernel_rfl) (by kernel_rfl)))) sS3 ?_
                          refine Wk.dVal 7 (some 113) (.bool true) rfl rfl (by kernel_rfl) (by kernel_rfl) (by kernel_rfl) (fun _ _ _ h => h) (by kernel_rfl) (fun w' hw' => by kernel_rfl) sS3 ?_
                          refine Wk.dVal 8 (some 114) (.pointer (some ⟨qh1, 0, none⟩)) rfl rfl (by kernel_rfl) (by kernel_rfl) (by kernel_rfl) (fun _ _ _ h => h) (by kernel_rfl) (fun w' hw' => by kernel_rfl) sS3 ?_
                          refine Wk.dVal 9 (some 115) (.slice AA1 nn1 nn2) rfl rfl (by kernel_rfl) (by kernel_rfl) (by kernel_rfl) (fun _ _ _ h => h) (by kernel_rfl) (fun w' hw' => by kernel_rfl) sS3 ?_
                          refine Wk.dVal 12 (some 118) (.pointer (some ⟨qh1, 0, none⟩)) rfl rfl (by kernel_rfl) (by kernel_rfl) (by kernel_rfl) (fun _ _ _ h => h) (by kernel_rfl) (fun w' hw' => by kernel_rfl) sS3 ?_
                          refine Wk.dVal 13 (some 119) (.slice AA2 nn3 nn4) rfl rfl (by kernel_rfl) (by kernel_rfl) (by kernel_rfl) (fun _ _ _ h => h) (by kernel_rfl) (fun w' hw' => by kernel_rfl) sS3 ?_
                          refine Wk.dOp 10 (by kernel_rfl) ?_
                          refine Wk.oCall (some 116) 21 [.tmp 115] #[22] [.slice AA1 nn1 nn2] rfl rfl (by kernel_rfl) rfl (by kernel_rfl) (by kernel_rfl) ?_
                          have ow13 := Mur.OwnA.chg ow6 ch20 (fun q e _ _ => trivial)
                          have ow14 := Mur.OwnA.chg ow13 ch21 (fun q e _ _ => trivial)
                          refine (Row_any AA1 nn1 nn2 (Mur.belowL p L1) W23 ow14.sl (by omega)).mono ?_
                          rintro _ W24 ⟨AA5, nn9, nn10, rfl, ow15, ch22⟩
                          have zz25 := ch22.size
                          have hrl3 := ow15.byt.1
                          rw [Mur.rowL_length] at hrl3
                          have hq13 := ow15.nc
                          have hq14 := ow15.cm
                          have sS4 := Wk.Chg.step sS3 ch22 trivial
                          refine ⟨_, rfl, sS4, ?_⟩
                          refine Wk.dOp 11 (by kernel_rfl) ?_
                          refine Wk.oCall (some 117) 22 [.tmp 114, .tmp 116] #[41, 38] [.pointer (some ⟨qh1, 0, none⟩), .slice AA5 nn9 nn10] rfl rfl (by kernel_rfl) rfl (by kernel_rfl) (by kernel_rfl) ?_
                          refine (Hsum_any hc kc Hh Hk qh1 (Mur.rowL (Mur.belowL p L1)) AA5 nn9 nn10 W24 (Wk.Chg.hp ch22 (Wk.Chg.hp ch21 (Wk.Chg.hp ch20 (Wk.Chg.hp ch19 hqh1 trivial) trivial) trivial) trivial) ow15.byt (by omega) ow15.nil (by omega)).mono ?_
                          rintro _ W25 ⟨dd3, hd3, hdl3, rfl, ch23⟩
                          have zz26 := ch23.size
                          have sS5 := Wk.Chg.step sS4 ch23 trivial
                          refine ⟨_, rfl, sS5, ?_⟩
                          refine Wk.dOp 14 (by kernel_rfl) ?_
                          refine Wk.oCall (some 120) 21 [.tmp 119] #[22] [.slice AA2 nn3 nn4] rfl rfl (by kernel_rfl) rfl (by kernel_rfl) (by kernel_rfl) ?_
                          have ow16 := Mur.OwnA.chg ow11 ch21 (fun q e _ _ => trivial)
                          have ow17 := Mur.OwnA.chg ow16 ch22 (fun q e _ _ => trivial)
                          have ow18 := Mur.OwnA.chg ow17 ch23 (fun q e _ _ => trivial)
                          refine (Row_any AA2 nn3 nn4 (Mur.belowL p L2) W25 ow18.sl (by omega)).mono ?_
                          rintro _ W26 ⟨AA6, nn11, nn12, rfl, ow19, ch24⟩
                          have zz27 := ch24.size
                          have hrl4 := ow19.byt.1
                          rw [Mur.rowL_length] at hrl4
                          have hq15 := ow19.nc
                          have hq16 := ow19.cm
                          have sS6 := Wk.Chg.step sS5 ch24 trivial
                          refine ⟨_, rfl, sS6, ?_⟩
                          refine Wk.dOp 15 (by kernel_rfl) ?_
                          refine Wk.oCall (some 121) 22 [.tmp 118, .tmp 120] #[41, 38] [.pointer (some ⟨qh1, 0, none⟩), .slice AA6 nn11 nn12] rfl rfl (by kernel_rfl) rfl (by kernel_rfl) (by kernel_rfl) ?_
                          refine (Hsum_any hc kc Hh Hk qh1 (Mur.rowL (Mur.belowL p L2)) AA6 nn11 nn12 W26 (Wk.Chg.hp ch24 (Wk.Chg.hp ch23 (Wk.Chg.hp ch22 (Wk.Chg.hp ch21 (Wk.Chg.hp ch20 (Wk.Chg.hp ch19 hqh1 trivial) trivial) trivial) trivial) trivial) trivial) ow19.byt (by omega) ow19.nil (by omega)).mono ?_
                          rintro _ W27 ⟨dd4, hd4, hdl4, rfl, ch25⟩
                          have zz28 := ch25.size
                          have sS7 := Wk.Chg.step sS6 ch25 trivial
                          refine ⟨_, rfl, sS7, ?_⟩
                          refine Wk.dVal 16 (some 122) (.bool true) rfl rfl (by kernel_rfl) (by kernel_rfl) (by kernel_rfl) (fun _ _ _ h => h) (by kernel_rfl) (fun w' hw' => (Mur.run_eql_yes digT dd3 dd4 hdl3 hdl4 (by rw [hd3.out, hd4.out, ← Mur.sumL_ok hpre1_, ← Mur.sumL_ok hpre1_, ← hd1.out, ← hd2.out]; exact hxy) _ (.tmp 117) (.tmp 121) 30 rfl (by kernel_rfl) (by kernel_rfl))) sS7 ?_
                          refine Wk.dVal 17 (some 123) (.bool true) rfl rfl (by kernel_rfl) (by kernel_rfl) (by kernel_rfl) (fun _ _ _ h => h) (by kernel_rfl) (fun w' hw' => by kernel_rfl) sS7 ?_
                          refine Wk.dVal 18 (some 124) (.bool true) rfl rfl (by kernel_rfl) (by kernel_rfl) (by kernel_rfl) (fun _ _ _ h => h) (by kernel_rfl) (fun w' hw' => by kernel_rfl) sS7 ?_
                          refine Wk.dOp 19 (by kernel_rfl) ?_
                          refine Wk.oCall (some 125) 13 [] #[] [] rfl rfl (by kernel_rfl) rfl (by kernel_rfl) (by kernel_rfl) ?_
                          have kk18 := Wk.Chg.step kk14 ch15 trivial
                          have kk19 := Wk.Chg.step kk18 ch16 trivial
                          have kk20 := Wk.Chg.step kk19 ch18 trivial
                          have kk21 := Wk.Chg.step kk20 ch19 trivial
                          have kk22 := Wk.Chg.step kk21 ch20 trivial
                          have kk23 := Wk.Chg.step kk22 ch21 trivial
                          have kk24 := Wk.Chg.step kk23 ch22 trivial
                          have kk25 := Wk.Chg.step kk24 ch23 trivial
                          have kk26 := Wk.Chg.step kk25 ch24 trivial
                          have kk27 := Wk.Chg.step kk26 ch25 trivial
                          refine (known20_any W27 (HV.out.below (Wk.Chg.below0 kk27))).mono ?_
                          rintro _ W28 ⟨rfl, ch26⟩
                          have zz29 := ch26.size
                          have sS8 := Wk.Chg.step sS7 ch26 trivial
                          refine ⟨_, rfl, sS8, ?_⟩
                          refine Wk.dVal 20 (some 126) (.bool true) rfl rfl (by kernel_rfl) (by kernel_rfl) (by kernel_rfl) (fun _ _ _ h => h) (by kernel_rfl) (fun w' hw' => by kernel_rfl) sS8 ?_
                          refine Wk.dVal 21 (some 6) (.bool true) rfl rfl (by kernel_rfl) (by kernel_rfl) (by kernel_rfl) (fun _ _ _ h => h) (by kernel_rfl) (fun w' hw' => by kernel_rfl) sS8 ?_
                          refine Wk.dEnd (by kernel_rfl) ?_
                          refine Wk.nxt ?_
                          refine wp_ret ?_
                          have kk28 := Wk.Chg.step kk27 ch26 trivial
                          refine Wk.ret (.bool true) rfl (by kernel_rfl) ?_
                          exact ⟨rfl, Wk.Chg.below0 kk28⟩
                        · refine Wk.oCall (some 110) 21 [.tmp 109] #[22] [.slice AA2 nn3 nn4] rfl rfl (by kernel_rfl) rfl (by kernel_rfl) (by kernel_rfl) ?_
                          have ow20 := Mur.OwnA.chg ow2 ch16 (fun q e _ _ => trivial)
                          have ow21 := Mur.OwnA.chg ow20 ch18 (fun q e _ _ => trivial)
                          have ow22 := Mur.OwnA.chg ow21 ch19 (fun q e _ _ => trivial)
                          have ow23 := Mur.OwnA.chg ow22 ch20 (fun q e _ _ => trivial)
                          refine (Row_any AA2 nn3 nn4 (Mur.belowL p L2) W22 ow23.sl (by omega)).mono ?_
                          rintro _ W29 ⟨AA7, nn13, nn14, rfl, ow24, ch27⟩
                          have zz30 := ch27.size
                          have hrl5 := ow24.byt.1
                          rw [Mur.rowL_length] at hrl5
                          have hq17 := ow24.nc
                          have hq18 := ow24.cm
                          have sS9 := Wk.Chg.step sS2 ch27 trivial
                          refine ⟨_, rfl, sS9, ?_⟩
                          refine Wk.dOp2 2 5 (by kernel_rfl) ?_ ?_
                          · have ow25 := Mur.own8 (Wk.own_chg ow7.own ch27 (fun q e _ _ => trivial))
                            refine Wk.oVal (some 108) (.string (Mur.str (Mur.rowL (Mur.belowL p L1)))) rfl rfl (by kernel_rfl) (Mur.run_str 38 9 (.tmp 107) 5 rfl Tryd.underlying38 Tryd.underlying5 Tryd.underlying9 AA3 nn5 nn6 (Mur.rowL (Mur.belowL p L1)) (by kernel_rfl) ow25.byt) ?_
                            refine ⟨sS9, ?_⟩
                            refine Wk.dOp 5 (by kernel_rfl) ?_
                            refine Wk.oVal (some 111) (.string (Mur.str (Mur.rowL (Mur.belowL p L2)))) rfl rfl (by kernel_rfl) (Mur.run_str 38 9 (.tmp 110) 5 rfl Tryd.underlying38 Tryd.underlying5 Tryd.underlying9 AA7 nn13 nn14 (Mur.rowL (Mur.belowL p L2)) (by kernel_rfl) ow24.byt) ?_
                            refine ⟨sS9, ?_⟩
                            refine Wk.dVal 6 (some 112) (.bool true) rfl rfl (by kernel_rfl) (by kernel_rfl) (by kernel_rfl) (fun _ _ _ h => h) (by kernel_rfl) (fun w' hw' => (Wk.boolT (b := decide ((Mur.rowL (Mur.belowL p L1)) ≠ (Mur.rowL (Mur.belowL p L2)))) (decide_eq_true (fun h_ => hsa1 (Mur.rowL_inj h_))) (Mur.strne 9 9 (.tmp 108) (.tmp 111) rfl (Mur.rowL (Mur.belowL p L1)) (Mur.rowL (Mur.belowL p L2)) (by kernel_rfl) (by kernel_rfl)))) sS9 ?_
                            refine Wk.dVal 7 (some 113) (.bool true) rfl rfl (by kernel_rfl) (by kernel_rfl) (by kernel_rfl) (fun _ _ _ h => h) (by kernel_rfl) (fun w' hw' => by kernel_rfl) sS9 ?_
                            refine Wk.dVal 8 (some 114) (.pointer (some ⟨qh1, 0, none⟩)) rfl rfl (by kernel_rfl) (by kernel_rfl) (by kernel_rfl) (fun _ _ _ h => h) (by kernel_rfl) (fun w' hw' => by kernel_rfl) sS9 ?_
                            refine Wk.dVal 9 (some 115) (.slice AA1 nn1 nn2) rfl rfl (by kernel_rfl) (by kernel_rfl) (by kernel_rfl) (fun _ _ _ h => h) (by kernel_rfl) (fun w' hw' => by kernel_rfl) sS9 ?_
                            refine Wk.dVal 12 (some 118) (.pointer (some ⟨qh1, 0, none⟩)) rfl rfl (by kernel_rfl) (by kernel_rfl) (by kernel_rfl) (fun _ _ _ h => h) (by kernel_rfl) (fun w' hw' => by kernel_rfl) sS9 ?_
                            refine Wk.dVal 13 (some 119) (.slice AA2 nn3 nn4) rfl rfl (by kernel_rfl) (by kernel_rfl) (by kernel_rfl) (fun _ _ _ h => h) (by kernel_rfl) (fun w' hw' => by kernel_rfl) sS9 ?_
                            refine Wk.dOp 10 (by kernel_rfl) ?_
                            refine Wk.oCall (some 116) 21 [.tmp 115] #[22] [.slice AA1 nn1 nn2] rfl rfl (by kernel_rfl) rfl (by kernel_rfl) (by kernel_rfl) ?_
                            have ow26 := Mur.OwnA.chg ow6 ch20 (fun q e _ _ => trivial)
                            have ow27 := Mur.OwnA.chg ow26 ch27 (fun q e _ _ => trivial)
                            refine (Row_any AA1 nn1 nn2 (Mur.belowL p L1) W29 ow27.sl (by omega)).mono ?_
                            rintro _ W30 ⟨AA8, nn15, nn16, rfl, ow28, ch28⟩
                            have zz31 := ch28.size
                            have hrl6 := ow28.byt.1
                            rw [Mur.rowL_length] at hrl6
                            have hq19 := ow28.nc
                            have hq20 := ow28.cm
                            have sS10 := Wk.Chg.step sS9 ch28 trivial
                            refine ⟨_, rfl, sS10, ?_⟩
                            refine Wk.dOp 11 (by kernel_rfl) ?_
                            refine Wk.oCall (some 117) 22 [.tmp 114, .tmp 116] #[41, 38] [.pointer (some ⟨qh1, 0, none⟩), .slice AA8 nn15 nn16] rfl rfl (by kernel_rfl) rfl (by kernel_rfl) (by kernel_rfl) ?_
                            refine (Hsum_any hc kc Hh Hk qh1 (Mur.rowL (Mur.belowL p L1)) AA8 nn15 nn16 W30 (Wk.Chg.hp ch28 (Wk.Chg.hp ch27 (Wk.Chg.hp ch20 (Wk.Chg.hp ch19 hqh1 trivial) trivial) trivial) trivial) ow28.byt (by omega) ow28.nil (by omega)).mono ?_
                            rintro _ W31 ⟨dd5, hd5, hdl5, rfl, ch29⟩
                            have zz32 := ch29.size
                            have sS11 := Wk.Chg.step sS10 ch29 trivial
                            refine ⟨_, rfl, sS11, ?_⟩
                            refine Wk.dOp 14 (by kernel_rfl) ?_
                            refine Wk.oCall (some 120) 21 [.tmp 119] #[22] [.slice AA2 nn3 nn4] rfl rfl (by kernel_rfl) rfl (by kernel_rfl) (by kernel_rfl) ?_
                            have ow29 := Mur.OwnA.chg ow23 ch27 (fun q e _ _ => trivial)
                            have ow30 := Mur.OwnA.chg ow29 ch28 (fun q e _ _ => trivial)
                            have ow31 := Mur.OwnA.chg ow30 ch29 (fun q e _ _ => trivial)
                            refine (Row_any AA2 nn3 nn4 (Mur.belowL p L2) W31 ow31.sl (by omega)).mono ?_
                            rintro _ W32 ⟨AA9, nn17, nn18, rfl, ow32, ch30⟩
                            have zz33 := ch30.size
                            have hrl7 := ow32.byt.1
                            rw [Mur.rowL_length] at hrl7
                            have hq21 := ow32.nc
                            have hq22 := ow32.cm
                            have sS12 := Wk.Chg.step sS11 ch30 trivial
                            refine ⟨_, rfl, sS12, ?_⟩
                            refine Wk.dOp 15 (by kernel_rfl) ?_
                            refine Wk.oCall (some 121) 22 [.tmp 118, .tmp 120] #[41, 38] [.pointer (some ⟨qh1, 0, none⟩), .slice AA9 nn17 nn18] rfl rfl (by kernel_rfl) rfl (by kernel_rfl) (by kernel_rfl) ?_
                            refine (Hsum_any hc kc Hh Hk qh1 (Mur.rowL (Mur.belowL p L2)) AA9 nn17 nn18 W32 (Wk.Chg.hp ch30 (Wk.Chg.hp ch29 (Wk.Chg.hp ch28 (Wk.Chg.hp ch27 (Wk.Chg.hp ch20 (Wk.Chg.hp ch19 hqh1 trivial) trivial) trivial) trivial) trivial) trivial) ow32.byt (by omega) ow32.nil (by omega)).mono ?_
                            rintro _ W33 ⟨dd6, hd6, hdl6, rfl, ch31⟩
                            have zz34 := ch31.size
                            have sS13 := Wk.Chg.step sS12 ch31 trivial
                            refine ⟨_, rfl, sS13, ?_⟩
                            refine Wk.dVal 16 (some 122) (.bool true) rfl rfl (by kernel_rfl) (by kernel_rfl) (by kernel_rfl) (fun _ _ _ h => h) (by kernel_rfl) (fun w' hw' => (Mur.run_eql_yes digT dd5 dd6 hdl5 hdl6 (by rw [hd5.out, hd6.out, ← Mur.sumL_ok hpre1_, ← Mur.sumL_ok hpre1_, ← hd1.out, ← hd2.out]; exact hxy) _ (.tmp 117) (.tmp 121) 30 rfl (by kernel_rfl) (by kernel_rfl))) sS13 ?_
                            refine Wk.dVal 17 (some 123) (.bool true) rfl rfl (by kernel_rfl) (by kernel_rfl) (by kernel_rfl) (fun _ _ _ h => h) (by kernel_rfl) (fun w' hw' => by kernel_rfl) sS13 ?_
                            refine Wk.dVal 18 (some 124) (.bool true) rfl rfl (by kernel_rfl) (by kernel_rfl) (by kernel_rfl) (fun _ _ _ h => h) (by kernel_rfl) (fun w' hw' => by kernel_rfl) sS13 ?_
                            refine Wk.dOp 19 (by kernel_rfl) ?_
                            refine Wk.oCall (some 125) 13 [] #[] [] rfl rfl (by kernel_rfl) rfl (by kernel_rfl) (by kernel_rfl) ?_
                            have kk29 := Wk.Chg.step kk14 ch15 trivial
                            have kk30 := Wk.Chg.step kk29 ch16 trivial
                            have kk31 := Wk.Chg.step kk30 ch18 trivial
                            have kk32 := Wk.Chg.step kk31 ch19 trivial
                            have kk33 := Wk.Chg.step kk32 ch20 trivial
                            have kk34 := Wk.Chg.step kk33 ch27 trivial
                            have kk35 := Wk.Chg.step kk34 ch28 trivial
                            have kk36 := Wk.Chg.step kk35 ch29 trivial
                            have kk37 := Wk.Chg.step kk36 ch30 trivial
                            have kk38 := Wk.Chg.step kk37 ch31 trivial
                            refine (known20_any W33 (HV.out.below (Wk.Chg.below0 kk38))).mono ?_
                            rintro _ W34 ⟨rfl, ch32⟩
                            have zz35 := ch32.size
                            have sS14 := Wk.Chg.step sS13 ch32 trivial
                            refine ⟨_, rfl, sS14, ?_⟩
                            refine Wk.dVal 20 (some 126) (.bool true) rfl rfl (by kernel_rfl) (by kernel_rfl) (by kernel_rfl) (fun _ _ _ h => h) (by kernel_rfl) (fun w' hw' => by kernel_rfl) sS14 ?_
                            refine Wk.dVal 21 (some 6) (.bool true) rfl rfl (by kernel_rfl) (by kernel_rfl) (by kernel_rfl) (fun _ _ _ h => h) (by kernel_rfl) (fun w' hw' => by kernel_rfl) sS14 ?_
                            refine Wk.dEnd (by kernel_rfl) ?_
                            refine Wk.nxt ?_
                            refine wp_ret ?_
                            have kk39 := Wk.Chg.step kk38 ch32 trivial
                            refine Wk.ret (.bool true) rfl (by kernel_rfl) ?_
                            exact ⟨rfl, Wk.Chg.below0 kk39⟩
                          · refine Wk.oVal (some 111) (.string (Mur.str (Mur.rowL (Mur.belowL p L2)))) rfl rfl (by kernel_rfl) (Mur.run_str 38 9 (.tmp 110) 5 rfl Tryd.underlying38 Tryd.underlying5 Tryd.underlying9 AA7 nn13 nn14 (Mur.rowL (Mur.belowL p L2)) (by kernel_rfl) ow24.byt) ?_
                            refine ⟨sS9, ?_⟩
                            refine Wk.dOp 2 (by kernel_rfl) ?_
                            have ow33 := Mur.own8 (Wk.own_chg ow7.own ch27 (fun q e _ _ => trivial))
                            refine Wk.oVal (some 108) (.string (Mur.str (Mur.rowL (Mur.belowL p L1)))) rfl rfl (by kernel_rfl) (Mur.run_str 38 9 (.tmp 107) 5 rfl Tryd.underlying38 Tryd.underlying5 Tryd.underlying9 AA3 nn5 nn6 (Mur.rowL (Mur.belowL p L1)) (by kernel_rfl) ow33.byt) ?_
                            refine ⟨sS9, ?_⟩
                            refine Wk.dVal 6 (some 112) (.bool true) rfl rfl (by kernel_rfl) (by kernel_rfl) (by kernel_rfl) (fun _ _ _ h => h) (by kernel_rfl) (fun w' hw' => (Wk.boolT (b := decide ((Mur.rowL (Mur.belowL p L1)) ≠ (Mur.rowL (Mur.belowL p L2)))) (decide_eq_true (fun h_ => hsa1 (Mur.rowL_inj h_))) (Mur.strne 9 9 (.tmp 108) (.tmp 111) rfl (Mur.rowL (Mur.belowL p L1)) (Mur.rowL (Mur.belowL p L2)) (by kernel_rfl) (by kernel_rfl)))) sS9 ?_
                            refine Wk.dVal 7 (some 113) (.bool true) rfl rfl (by kernel_rfl) (by kernel_rfl) (by kernel_rfl) (fun _ _ _ h => h) (by kernel_rfl) (fun w' hw' => by kernel_rfl) sS9 ?_
                            refine Wk.dVal 8 (some 114) (.pointer (some ⟨qh1, 0, none⟩)) rfl rfl (by kernel_rfl) (by kernel_rfl) (by kernel_rfl) (fun _ _ _ h => h) (by kernel_rfl) (fun w' hw' => by kernel_rfl) sS9 ?_
                            refine Wk.dVal 9 (some 115) (.slice AA1 nn1 nn2) rfl rfl (by kernel_rfl) (by kernel_rfl) (by kernel_rfl) (fun _ _ _ h => h) (by kernel_rfl) (fun w' hw' => by kernel_rfl) sS9 ?_
                            refine Wk.dVal 12 (some 118) (.pointer (some ⟨qh1, 0, none⟩)) rfl rfl (by kernel_rfl) (by kernel_rfl) (by kernel_rfl) (fun _ _ _ h => h) (by kernel_rfl) (fun w' hw' => by kernel_rfl) sS9 ?_
                            refine Wk.dVal 13 (some 119) (.slice AA2 nn3 nn4) rfl rfl (by kernel_rfl) (by kernel_rfl) (by kernel_rfl) (fun _ _ _ h => h) (by kernel_rfl) (fun w' hw' => by kernel_rfl) sS9 ?_
                            refine Wk.dOp 10 (by kernel_rfl) ?_
                            refine Wk.oCall (some 116) 21 [.tmp 115] #[22] [.slice AA1 nn1 nn2] rfl rfl (by kernel_rfl) rfl (by kernel_rfl) (by kernel_rfl) ?_
                            have ow34 := Mur.OwnA.chg ow6 ch20 (fun q e _ _ => trivial)
                            have ow35 := Mur.OwnA.chg ow34 ch27 (fun q e _ _ => trivial)
                            refine (Row_any AA1 nn1 nn2 (Mur.belowL p L1) W29 ow35.sl (by omega)).mono ?_
                            rintro _ W35 ⟨AA10, nn19, nn20, rfl, ow36, ch33⟩
                            have zz36 := ch33.size
                            have hrl8 := ow36.byt.1
                            rw [Mur.rowL_length] at hrl8
                            have hq23 := ow36.nc
                            have hq24 := ow36.cm
                            have sS15 := Wk.Chg.step sS9 ch33 trivial
                            refine ⟨_, rfl, sS15, ?_⟩
                            refine Wk.dOp 11 (by kernel_rfl) ?_
                            refine Wk.oCall (some 117) 22 [.tmp 114, .tmp 116] #[41, 38] [.pointer (some ⟨qh1, 0, none⟩), .slice AA10 nn19 nn20] rfl rfl (by kernel_rfl) rfl (by kernel_rfl) (by kernel_rfl) ?_
                            refine (Hsum_any hc kc Hh Hk qh1 (Mur.rowL (Mur.belowL p L1)) AA10 nn19 nn20 W35 (Wk.Chg.hp ch33 (Wk.Chg.hp ch27 (Wk.Chg.hp ch20 (Wk.Chg.hp ch19 hqh1 trivial) trivial) trivial) trivial) ow36.byt (by omega) ow36.nil (by omega)).mono ?_
                            rintro _ W36 ⟨dd7, hd7, hdl7, rfl, ch34⟩
                            have zz37 := ch34.size
                            have sS16 := Wk.Chg.step sS15 ch34 trivial
                            refine ⟨_, rfl, sS16, ?_⟩
                            refine Wk.dOp 14 (by kernel_rfl) ?_
                            refine Wk.oCall (some 120) 21 [.tmp 119] #[22] [.slice AA2 nn3 nn4] rfl rfl (by kernel_rfl) rfl (by kernel_rfl) (by kernel_rfl) ?_
                            have ow37 := Mur.OwnA.chg ow23 ch27 (fun q e _ _ => trivial)
                            have ow38 := Mur.OwnA.chg ow37 ch33 (fun q e _ _ => trivial)
                            have ow39 := Mur.OwnA.chg ow38 ch34 (fun q e _ _ => trivial)
                            refine (Row_any AA2 nn3 nn4 (Mur.belowL p L2) W36 ow39.sl (by omega)).mono ?_
                            rintro _ W37 ⟨AA11, nn21, nn22, rfl, ow40, ch35⟩
                            have zz38 := ch35.size
                            have hrl9 := ow40.byt.1
                            rw [Mur.rowL_length] at hrl9
                            have hq25 := ow40.nc
                            have hq26 := ow40.cm
                            have sS17 := Wk.Chg.step sS16 ch35 trivial
                            refine ⟨_, rfl, sS17, ?_⟩
                            refine Wk.dOp 15 (by kernel_rfl) ?_
                            refine Wk.oCall (some 121) 22 [.tmp 118, .tmp 120] #[41, 38] [.pointer (some ⟨qh1, 0, none⟩), .slice AA11 nn21 nn22] rfl rfl (by kernel_rfl) rfl (by kernel_rfl) (by kernel_rfl) ?_
                            refine (Hsum_any hc kc Hh Hk qh1 (Mur.rowL (Mur.belowL p L2)) AA11 nn21 nn22 W37 (Wk.Chg.hp ch35 (Wk.Chg.hp ch34 (Wk.Chg.hp ch33 (Wk.Chg.hp ch27 (Wk.Chg.hp ch20 (Wk.Chg.hp ch19 hqh1 trivial) trivial) trivial) trivial) trivial) trivial) ow40.byt (by omega) ow40.nil (by omega)).mono ?_
                            rintro _ W38 ⟨dd8, hd8, hdl8, rfl, ch36⟩
                            have zz39 := ch36.size
                            have sS18 := Wk.Chg.step sS17 ch36 trivial
                            refine ⟨_, rfl, sS18, ?_⟩
                            refine Wk.dVal 16 (some 122) (.bool true) rfl rfl (by kernel_rfl) (by kernel_rfl) (by kernel_rfl) (fun _ _ _ h => h) (by kernel_rfl) (fun w' hw' => (Mur.run_eql_yes digT dd7 dd8 hdl7 hdl8 (by rw [hd7.out, hd8.out, ← Mur.sumL_ok hpre1_, ← Mur.sumL_ok hpre1_, ← hd1.out, ← hd2.out]; exact hxy) _ (.tmp 117) (.tmp 121) 30 rfl (by kernel_rfl) (by kernel_rfl))) sS18 ?_
                            refine Wk.dVal 17 (some 123) (.bool true) rfl rfl (by kernel_rfl) (by kernel_rfl) (by kernel_rfl) (fun _ _ _ h => h) (by kernel_rfl) (fun w' hw' => by kernel_rfl) sS18 ?_
                            refine Wk.dVal 18 (some 124) (.bool true) rfl rfl (by kernel_rfl) (by kernel_rfl) (by kernel_rfl) (fun _ _ _ h => h) (by kernel_rfl) (fun w' hw' => by kernel_rfl) sS18 ?_
                            refine Wk.dOp 19 (by kernel_rfl) ?_
                            refine Wk.oCall (some 125) 13 [] #[] [] rfl rfl (by kernel_rfl) rfl (by kernel_rfl) (by kernel_rfl) ?_
                            have kk40 := Wk.Chg.step kk14 ch15 trivial
                            have kk41 := Wk.Chg.step kk40 ch16 trivial
                            have kk42 := Wk.Chg.step kk41 ch18 trivial
                            have kk43 := Wk.Chg.step kk42 ch19 trivial
                            have kk44 := Wk.Chg.step kk43 ch20 trivial
                            have kk45 := Wk.Chg.step kk44 ch27 trivial
                            have kk46 := Wk.Chg.step kk45 ch33 trivial
                            have kk47 := Wk.Chg.step kk46 ch34 trivial
                            have kk48 := Wk.Chg.step kk47 ch35 trivial
                            have kk49 := Wk.Chg.step kk48 ch36 trivial
                            refine (known20_any W38 (HV.out.below (Wk.Chg.below0 kk49))).mono ?_
                            rintro _ W39 ⟨rfl, ch37⟩
                            have zz40 := ch37.size
                            have sS19 := Wk.Chg.step sS18 ch37 trivial
                            refine ⟨_, rfl, sS19, ?_⟩
                            refine Wk.dVal 20 (some 126) (.bool true) rfl rfl (by kernel_rfl) (by kernel_rfl) (by kernel_rfl) (fun _ _ _ h => h) (by kernel_rfl) (fun w' hw' => by kernel_rfl) sS19 ?_
                            refine Wk.dVal 21 (some 6) (.bool true) rfl rfl (by kernel_rfl) (by kernel_rfl) (by kernel_rfl) (fun _ _ _ h => h) (by kernel_rfl) (fun w' hw' => by kernel_rfl) sS19 ?_
                            refine Wk.dEnd (by kernel_rfl) ?_
                            refine Wk.nxt ?_
                            refine wp_ret ?_
                            have kk50 := Wk.Chg.step kk49 ch37 trivial
                            refine Wk.ret (.bool true) rfl (by kernel_rfl) ?_
                            exact ⟨rfl, Wk.Chg.below0 kk50⟩
                      · refine Wk.rPure 2 (some 103) (.bool true) rfl rfl (by kernel_rfl) (Mur.neq_yes digT dd1 dd2 hdl1 hdl2 hxy _ (.tmp 101) (.tmp 102) 30 rfl (by kernel_rfl) (by kernel_rfl)) ?_
                        refine Wk.rEnd 3 rfl ?_
                        refine Wk.nxt ?_
                        refine wp_cond_true (by kernel_rfl) ?_
                        refine wp_seq ?_
                        refine Wk.reg ?_
                        refine Wk.rCall 0 (some 104) 13 [] #[] [] rfl rfl (by kernel_rfl) rfl (by kernel_rfl) (by kernel_rfl) ?_
                        have kk51 := Wk.Chg.step kk14 ch15 trivial
                        have kk52 := Wk.Chg.step kk51 ch16 trivial
                        refine (known20_any W18 (HV.out.below (Wk.Chg.below0 kk52))).mono ?_
                        rintro _ W40 ⟨rfl, ch38⟩
                        have zz41 := ch38.size
                        refine ⟨_, rfl, ?_⟩
                        refine Wk.rPure 1 (some 6) (.bool true) rfl rfl (by kernel_rfl) (by kernel_rfl) ?_
                        refine Wk.rEnd 2 rfl ?_
                        refine Wk.nxt ?_
                        refine wp_ret ?_
                        refine Wk.thR ?_
                        have kk53 := Wk.Chg.step kk52 ch38 trivial
                        refine Wk.ret (.bool true) rfl (by kernel_rfl) ?_
                        exact ⟨rfl, Wk.Chg.below0 kk53⟩
end Go.Proofs.YtfhneademopciaaDoor
