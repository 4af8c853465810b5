/- HmacParts, walked. -/
import Derived.Test.YtljfjjofhclhiaaDoorHmD
import Derived.Test.YtljfjjofhclhiaaDoorHmZ
namespace Go.Proofs.YtljfjjofhclhiaaDoor
open Go.RowKit
open Mur (b8s Byt Own8 Seg Segs flat cutA)
set_option maxRecDepth 100000
set_option maxHeartbeats 4000000
def Parts_F1 (b : Array Value) (u0 : Value) (u1 : Value) (u2 : Value) (u7 : Value) (u22 : Value) (u23 : Value) : Act := ⟨#[u0, u1, u2, b.getD 3 undef, b.getD 4 undef, b.getD 5 undef, b.getD 6 undef, u7, b.getD 8 undef, b.getD 9 undef, b.getD 10 undef, b.getD 11 undef, b.getD 12 undef, b.getD 13 undef, b.getD 14 undef, b.getD 15 undef, b.getD 16 undef, b.getD 17 undef, b.getD 18 undef, b.getD 19 undef, b.getD 20 undef, b.getD 21 undef, u22, u23, b.getD 24 undef, b.getD 25 undef, b.getD 26 undef, b.getD 27 undef, b.getD 28 undef, b.getD 29 undef, b.getD 30 undef, b.getD 31 undef, b.getD 32 undef, b.getD 33 undef, b.getD 34 undef, b.getD 35 undef, b.getD 36 undef, b.getD 37 undef, b.getD 38 undef, b.getD 39 undef, b.getD 40 undef, b.getD 41 undef, b.getD 42 undef, b.getD 43 undef, b.getD 44 undef, b.getD 45 undef, b.getD 46 undef, b.getD 47 undef, b.getD 48 undef, b.getD 49 undef, b.getD 50 undef, b.getD 51 undef, b.getD 52 undef, b.getD 53 undef, b.getD 54 undef, b.getD 55 undef, b.getD 56 undef, b.getD 57 undef, b.getD 58 undef, b.getD 59 undef, b.getD 60 undef, b.getD 61 undef, b.getD 62 undef, b.getD 63 undef, b.getD 64 undef, b.getD 65 undef, b.getD 66 undef, b.getD 67 undef, b.getD 68 undef, b.getD 69 undef, b.getD 70 undef, b.getD 71 undef, b.getD 72 undef, b.getD 73 undef, b.getD 74 undef, b.getD 75 undef, b.getD 76 undef, b.getD 77 undef, b.getD 78 undef, b.getD 79 undef, b.getD 80 undef, b.getD 81 undef], []⟩
theorem parts_any (s : List UInt8) (A : Option Addr) (n c : Nat) (L : List Seg) (PA : Option Addr) (pn pc : Nat) (more : Int) (w : World) (hv : ShaVars w) (hb : Byt w A n s) (hnc : n ≤ c) (ha : A = none → c = 0) (hl : Segs w PA pn L) : Calls Tryd.prog 4 #[.slice A n c, .slice PA pn pc, .int .i64 more] w fun e w' => e = .returned (.bool true) ∧ Below w.heap.size w w' := by
  have HV := Go.Lib.hid hv
  clear hv
  have HBY := Go.Lib.hid hb
  clear hb
  have HA := Go.Lib.hid ha
  clear ha
  have HL := Go.Lib.hid hl
  clear hl
  refine calls_of_wp Tryd.func4 rfl ?_
  refine wp_seq ?_
  refine Wk.reg ?_
  refine Wk.rPure 0 (some 6) (.bool false) rfl rfl (by kernel_rfl) (by kernel_rfl) ?_
  refine Wk.rEnd 1 rfl ?_
  refine Wk.nxt ?_
  refine wp_seq ?_
  refine wp_seq ?_
  refine Wk.reg ?_
  refine Wk.rPure 0 (some 12) (.slice A n c) rfl rfl (by kernel_rfl) (by kernel_rfl) ?_
  refine Wk.rPure 1 (some 13) (.int .i64 ((n : Nat) : Int)) rfl rfl (by kernel_rfl) (by kernel_rfl) ?_
  by_cases hx1 : ((n : Nat) : Int) > (300 : Int)
  · refine Wk.rPure 2 (some 14) (.bool true) rfl rfl (by kernel_rfl) (Wk.boolT (b := decide (((n : Nat) : Int) > (300 : Int))) (decide_eq_true (by first | exact hx1 | omega)) (by kernel_rfl)) ?_
    refine Wk.rPure 3 (some 15) (.bool true) rfl rfl (by kernel_rfl) (by kernel_rfl) ?_
    refine Wk.rPass 4 (some 16) rfl rfl (by kernel_rfl) ?_
    refine Wk.rPass 5 (some 17) rfl rfl (by kernel_rfl) ?_
    refine Wk.rPass 6 (some 18) rfl rfl (by kernel_rfl) ?_
    refine Wk.rPure 7 (some 19) (.bool true) rfl rfl (by kernel_rfl) (by kernel_rfl) ?_
    refine Wk.rEnd 8 rfl ?_
    refine Wk.nxt ?_
    refine wp_cond_true (by kernel_rfl) ?_
    refine wp_seq ?_
    refine Wk.reg ?_
    refine Wk.rCall 0 (some 20) 12 [] #[] [] rfl rfl (by kernel_rfl) rfl (by kernel_rfl) (by kernel_rfl) ?_
    refine (known_any w HV.out).mono ?_
    rintro _ W1 ⟨rfl, ch1⟩
    have zz1 := ch1.size
    refine ⟨_, rfl, ?_⟩
    refine Wk.rPure 1 (some 6) (.bool true) rfl rfl (by kernel_rfl) (by kernel_rfl) ?_
    refine Wk.rEnd 2 rfl ?_
    refine Wk.nxt ?_
    refine wp_ret ?_
    refine Wk.thR ?_
    have kk1 : Wk.Chg [] w W1 := Wk.Chg.step ((Wk.Chg.refl _).more (by simp)) ch1 trivial
    refine Wk.ret (.bool true) rfl (by kernel_rfl) ?_
    exact ⟨rfl, Wk.Chg.below0 kk1⟩
  · refine Wk.rPure 2 (some 14) (.bool false) rfl rfl (by kernel_rfl) (Wk.boolF (b := decide (((n : Nat) : Int) > (300 : Int))) (decide_eq_false (by first | exact hx1 | omega)) (by kernel_rfl)) ?_
    refine Wk.rPure 3 (some 15) (.bool false) rfl rfl (by kernel_rfl) (by kernel_rfl) ?_
    refine Wk.rPure 4 (some 16) (.slice PA pn pc) rfl rfl (by kernel_rfl) (by kernel_rfl) ?_
    refine Wk.rPure 5 (some 17) (.int .i64 ((pn : Nat) : Int)) rfl rfl (by kernel_rfl) (by kernel_rfl) ?_
    by_cases hx2 : ((pn : Nat) : Int) > (30 : Int)
    · refine Wk.rPure 6 (some 18) (.bool true) rfl rfl (by kernel_rfl) (Wk.boolT (b := decide (((pn : Nat) : Int) > (30 : Int))) (decide_eq_true (by first | exact hx2 | omega)) (by kernel_rfl)) ?_
      refine Wk.rPure 7 (some 19) (.bool true) rfl rfl (by kernel_rfl) (by kernel_rfl) ?_
      refine Wk.rEnd 8 rfl ?_
      refine Wk.nxt ?_
      refine wp_cond_true (by kernel_rfl) ?_
      refine wp_seq ?_
      refine Wk.reg ?_
      refine Wk.rCall 0 (some 20) 12 [] #[] [] rfl rfl (by kernel_rfl) rfl (by kernel_rfl) (by kernel_rfl) ?_
      refine (known_any w HV.out).mono ?_
      rintro _ W2 ⟨rfl, ch2⟩
      have zz2 := ch2.size
      refine ⟨_, rfl, ?_⟩
      refine Wk.rPure 1 (some 6) (.bool true) rfl rfl (by kernel_rfl) (by kernel_rfl) ?_
      refine Wk.rEnd 2 rfl ?_
      refine Wk.nxt ?_
      refine wp_ret ?_
      refine Wk.thR ?_
      have kk2 : Wk.Chg [] w W2 := Wk.Chg.step ((Wk.Chg.refl _).more (by simp)) ch2 trivial
      refine Wk.ret (.bool true) rfl (by kernel_rfl) ?_
      exact ⟨rfl, Wk.Chg.below0 kk2⟩
    · refine Wk.rPure 6 (some 18) (.bool false) rfl rfl (by kernel_rfl) (Wk.boolF (b := decide (((pn : Nat) : Int) > (30 : Int))) (decide_eq_false (by first | exact hx2 | omega)) (by kernel_rfl)) ?_
      refine Wk.rPure 7 (some 19) (.bool false) rfl rfl (by kernel_rfl) (by kernel_rfl) ?_
      refine Wk.rEnd 8 rfl ?_
      refine Wk.nxt ?_
      refine wp_cond_false (by kernel_rfl) ?_
      refine wp_skip ?_
      refine Wk.nxt ?_
      refine wp_seq ?_
      refine Wk.reg ?_
      refine Wk.rPure 0 (some 7) (.slice none 0 0) rfl rfl (by kernel_rfl) (by kernel_rfl) ?_
      refine Wk.rEnd 1 rfl ?_
      refine Wk.nxt ?_
      refine wp_seq ?_
      refine wp_seq ?_
      refine Wk.reg ?_
      refine Wk.rPure 0 (some 21) (.slice PA pn pc) rfl rfl (by kernel_rfl) (by kernel_rfl) ?_
      refine Wk.rPure 1 (some 22) (.int .i64 ((pn : Nat) : Int)) rfl rfl (by kernel_rfl) (by kernel_rfl) ?_
      refine Wk.rPure 2 (some 23) (.int .i64 0) rfl rfl (by kernel_rfl) (by kernel_rfl) ?_
      refine Wk.rEnd 3 rfl ?_
      refine Wk.nxt ?_
      refine wp_block ?_
      refine Wk.loop (fun m_ a wr => ∃ (k : Nat) (A1 : Option Addr) (N : Nat) (c1 : Nat), m_ = pn - k ∧ a = Parts_F1 a.tmps (.slice A n c) (.slice PA pn pc) (.int .i64 more) (.slice A1 N c1) (.int .i64 ((pn : Nat) : Int)) (.int .i64 ((k : Nat) : Int)) ∧ k ≤ pn ∧ Own8 wr w.heap.size 5 A1 N c1 (flat (L.take k)) ∧ N ≤ 200 * k ∧ Wk.Chg [] w wr ∧ w.heap.size ≤ wr.heap.size) (pn - 0) ?_ ?_
      · refine ⟨0, none, 0, 0, rfl, by kernel_rfl, by omega, Mur.own8_nil w w.heap.size 5, by omega, (Wk.Chg.refl _), (by omega)⟩
      · rintro mm1 aa1 W3 ⟨k, A1, N, c1, hmm1, hF1, hi, hO, hNl, HB, hbs⟩
        generalize aa1.tmps = bb1 at hF1
        subst hF1
        have hqn := hO.nc
        have hqm := hO.cm
        unfold Go.maxLen at hqm
        have hol := hO.byt.1
        by_cases hlt : k < pn
        · obtain ⟨g, off, As, ns, cs, ls, rfl, hg, hcell, hby, hsn, hsc, hsnil, hfl, hfle⟩ := HL.out.at hlt
          refine wp_seq ?_
          refine Wk.reg ?_
          refine Wk.rPure 0 (some 24) (.bool true) rfl rfl (by kernel_rfl) (Wk.boolT (b := decide (((k : Nat) : Int) < ((pn : Nat) : Int))) (decide_eq_true (by omega)) (by kernel_rfl)) ?_
          refine Wk.rEnd 1 rfl ?_
          refine Wk.nxt ?_
          refine wp_seq ?_
          refine wp_cond_true (by kernel_rfl) ?_
          refine wp_skip ?_
          refine Wk.nxt ?_
          refine wp_seq ?_
          refine wp_block ?_
          refine wp_seq ?_
          refine Wk.reg ?_
          refine Wk.rPure 0 (some 25) (.int .i64 ((k : Nat) : Int)) rfl rfl (by kernel_rfl) (by kernel_rfl) ?_
          refine Wk.rPure 1 (some 8) (.int .i64 ((k : Nat) : Int)) rfl rfl (by kernel_rfl) (by kernel_rfl) ?_
          refine Wk.rEnd 2 rfl ?_
          refine Wk.nxt ?_
          refine wp_seq ?_
          refine wp_seq ?_
          refine Wk.reg ?_
          refine Wk.rPure 0 (some 26) (.slice (some ⟨g, off, none⟩) pn pc) rfl rfl (by kernel_rfl) (by kernel_rfl) ?_
          refine Wk.rPure 1 (some 27) (.int .i64 ((k : Nat) : Int)) rfl rfl (by kernel_rfl) (by kernel_rfl) ?_
          refine Wk.rPure 2 (some 28) (.pointer (some ⟨g, off + k * 1, none⟩)) rfl rfl (by kernel_rfl) (Wk.index_sl 29 22 (.tmp 26) (.tmp 27) rfl Tryd.underlying29 1 (by kernel_rfl) g off pn pc k .i64 (by kernel_rfl) (by kernel_rfl) (by omega)) ?_
          refine Wk.rPure 3 (some 29) (.slice As ns cs) rfl rfl (by kernel_rfl) (Wk.load1 22 (.tmp 28) rfl (by kernel_rfl) ⟨g, off + k * 1, none⟩ (by kernel_rfl) (.slice As ns cs) (Wk.Chg.cell HB hcell trivial)) ?_
          refine Wk.rPure 4 (some 30) (.int .i64 ((ns : Nat) : Int)) rfl rfl (by kernel_rfl) (by kernel_rfl) ?_
          by_cases hx3 : ((ns : Nat) : Int) > (200 : Int)
          · refine Wk.rPure 5 (some 31) (.bool true) rfl rfl (by kernel_rfl) (Wk.boolT (b := decide (((ns : Nat) : Int) > (200 : Int))) (decide_eq_true (by first | exact hx3 | omega)) (by kernel_rfl)) ?_
            refine Wk.rEnd 6 rfl ?_
            refine Wk.nxt ?_
            refine wp_cond_true (by kernel_rfl) ?_
            refine wp_seq ?_
            refine Wk.reg ?_
            refine Wk.rCall 0 (some 32) 12 [] #[] [] rfl rfl (by kernel_rfl) rfl (by kernel_rfl) (by kernel_rfl) ?_
            refine (known_any W3 (HV.out.below (Wk.Chg.below0 HB))).mono ?_
            rintro _ W4 ⟨rfl, ch3⟩
            have zz3 := ch3.size
            refine ⟨_, rfl, ?_⟩
            refine Wk.rPure 1 (some 6) (.bool true) rfl rfl (by kernel_rfl) (by kernel_rfl) ?_
            refine Wk.rEnd 2 rfl ?_
            refine Wk.nxt ?_
            refine wp_ret ?_
            refine Wk.thR ?_
            refine Wk.inR ?_
            refine Wk.thR ?_
            refine Wk.thR ?_
            refine Wk.inR ?_
            refine Wk.thR ?_
            have kk3 := Wk.Chg.step HB ch3 trivial
            refine Wk.ret (.bool true) rfl (by kernel_rfl) ?_
            exact ⟨rfl, Wk.Chg.below0 kk3⟩
          · refine Wk.rPure 5 (some 31) (.bool false) rfl rfl (by kernel_rfl) (Wk.boolF (b := decide (((ns : Nat) : Int) > (200 : Int))) (decide_eq_false (by first | exact hx3 | omega)) (by kernel_rfl)) ?_
            refine Wk.rEnd 6 rfl ?_
            refine Wk.nxt ?_
            refine wp_cond_false (by kernel_rfl) ?_
            refine wp_skip ?_
            refine Wk.nxt ?_
            refine Wk.reg ?_
            refine Wk.rPure 0 (some 33) (.slice A1 N c1) rfl rfl (by kernel_rfl) (by kernel_rfl) ?_
            refine Wk.rPure 1 (some 34) (.slice (some ⟨g, off, none⟩) pn pc) rfl rfl (by kernel_rfl) (by kernel_rfl) ?_
            refine Wk.rPure 2 (some 35) (.int .i64 ((k : Nat) : Int)) rfl rfl (by kernel_rfl) (by kernel_rfl) ?_
            refine Wk.rPure 3 (some 36) (.pointer (some ⟨g, off + k * 1, none⟩)) rfl rfl (by kernel_rfl) (Wk.index_sl 29 22 (.tmp 34) (.tmp 35) rfl Tryd.underlying29 1 (by kernel_rfl) g off pn pc k .i64 (by kernel_rfl) (by kernel_rfl) (by omega)) ?_
            refine Wk.rPure 4 (some 37) (.slice As ns cs) rfl rfl (by kernel_rfl) (Wk.load1 22 (.tmp 36) rfl (by kernel_rfl) ⟨g, off + k * 1, none⟩ (by kernel_rfl) (.slice As ns cs) (Wk.Chg.cell HB hcell trivial)) ?_
            refine Wk.rEx 5 (some 38) _ rfl rfl (by kernel_rfl) (Mur.append8 (.tmp 33) (.tmp 37) 22 5 rfl Tryd.underlying22 (by kernel_rfl) w.heap.size A1 N c1 (flat (L.take k)) As ns cs ls (by kernel_rfl) (by kernel_rfl) hO.own (Mur.byt_chg hby HB (fun g off e hl => trivial)) hsnil (by omega) (by omega) (N + ns) (by omega) ((flat (L.take k)) ++ ls) rfl) ?_
            rintro _ W5 ⟨AA1, nn1, rfl, ow1, ch4, ha1⟩
            have zz4 := ch4.size
            have hq1 := ow1.nc
            have hq2 := ow1.cm
            refine Wk.rPure 6 (some 7) (.slice AA1 (N + ns) nn1) rfl rfl (by kernel_rfl) (by kernel_rfl) ?_
            refine Wk.rEnd 7 rfl ?_
            refine Wk.inN ?_
            refine Wk.nxt ?_
            refine Wk.reg ?_
            refine Wk.rPure 0 (some 39) (.int .i64 ((k + 1 : Nat) : Int)) rfl rfl (by kernel_rfl) (Wk.int64 (n := ((k : Nat) : Int) + 1) (z := ((k + 1 : Nat) : Int)) (by omega) (by omega) (by omega) (by kernel_rfl)) ?_
            refine Wk.rPure 1 (some 23) (.int .i64 ((k + 1 : Nat) : Int)) rfl rfl (by kernel_rfl) (by kernel_rfl) ?_
            refine Wk.rEnd 2 rfl ?_
            refine Wk.nxt ?_
            have kk4 := Wk.Chg.step HB ch4 (Wk.newOr_blk (fun g hg => by have := hO.lt g hg; omega))
            refine ⟨_, ?_, k + 1, AA1, N + ns, nn1, rfl, by kernel_rfl, (by omega), (by rw [hfl]; exact ow1), (by omega), kk4, (by omega)⟩
            · omega
        · have hfa : flat (L.take k) = flat L := by rw [show k = pn by omega]; exact Mur.flat_all HL.out.len
          have hfl := congrArg List.length hfa
          refine wp_seq ?_
          refine Wk.reg ?_
          refine Wk.rPure 0 (some 24) (.bool false) rfl rfl (by kernel_rfl) (Wk.boolF (b := decide (((k : Nat) : Int) < ((pn : Nat) : Int))) (decide_eq_false (by omega)) (by kernel_rfl)) ?_
          refine Wk.rEnd 1 rfl ?_
          refine Wk.nxt ?_
          refine wp_seq ?_
          refine wp_cond_false (by kernel_rfl) ?_
          refine wp_exit ?_
          refine Wk.thX ?_
          refine Wk.thX ?_
          refine Wk.inX ?_
          refine Wk.nxt ?_
          refine wp_seq ?_
          refine Wk.reg ?_
          refine Wk.rPure 0 (some 40) (.slice A n c) rfl rfl (by kernel_rfl) (by kernel_rfl) ?_
          refine Wk.rPure 1 (some 41) (.slice PA pn pc) rfl rfl (by kernel_rfl) (by kernel_rfl) ?_
          refine Wk.rCall 2 (some 42) 13 [.tmp 40, .tmp 41] #[22, 29] [.slice A n c, .slice PA pn pc] rfl rfl (by kernel_rfl) rfl (by kernel_rfl) (by kernel_rfl) ?_
          refine (Tag_any s A n c L PA pn pc W3 (HV.out.below (Wk.Chg.below0 HB)) (Mur.byt_chg HBY.out HB (fun g off e hl => trivial)) (by omega) HA.out (by omega) (HL.out.chg HB) (by omega) (by omega)).mono ?_
          rintro _ W6 ⟨dd1, hd1, hdl1, rfl, ch5⟩
          have zz5 := ch5.size
          refine ⟨_, rfl, ?_⟩
          refine Wk.rEx 3 (some 9) _ rfl rfl (by kernel_rfl) (Wk.new_ex (.pointer (some ⟨W6.heap.size, 0, none⟩)) #[.int .u8 0, .int .u8 0, .int .u8 0, .int .u8 0, .int .u8 0, .int .u8 0, .int .u8 0, .int .u8 0, .int .u8 0, .int .u8 0, .int .u8 0, .int .u8 0, .int .u8 0, .int .u8 0, .int .u8 0, .int .u8 0, .int .u8 0, .int .u8 0, .int .u8 0, .int .u8 0, .int .u8 0, .int .u8 0, .int .u8 0, .int .u8 0, .int .u8 0, .int .u8 0, .int .u8 0, .int .u8 0, .int .u8 0, .int .u8 0, .int .u8 0, .int .u8 0] 25 (by kernel_rfl)) ?_
          rintro _ W7 ⟨rfl, hb1, ch6, sz1⟩
          have zz6 := ch6.size
          refine Wk.rExS 4 none _ rfl rfl (by kernel_rfl) (Mur.storeAll 25 (.tmp 9) (.tmp 42) rfl W6.heap.size (by kernel_rfl) dd1 32 hdl1 (by kernel_rfl) (by kernel_rfl) 25 #[.int .u8 0, .int .u8 0, .int .u8 0, .int .u8 0, .int .u8 0, .int .u8 0, .int .u8 0, .int .u8 0, .int .u8 0, .int .u8 0, .int .u8 0, .int .u8 0, .int .u8 0, .int .u8 0, .int .u8 0, .int .u8 0, .int .u8 0, .int .u8 0, .int .u8 0, .int .u8 0, .int .u8 0, .int .u8 0, .int .u8 0, .int .u8 0, .int .u8 0, .int .u8 0, .int .u8 0, .int .u8 0, .int .u8 0, .int .u8 0, .int .u8 0, .int .u8 0] hb1 rfl) ?_
          rintro W8 ⟨hb2, ch7⟩
          have zz7 := ch7.size
          refine Wk.rEnd 5 rfl ?_
          refine Wk.nxt ?_
          refine wp_seq ?_
          refine wp_seq ?_
          refine Wk.dReg ([]) (by kernel_rfl) ?_
          intro W9 ch8 sz2
          have zz8 := ch8.size
          have sS1 : Wk.Chg ([]) W9 W9 := (Wk.Chg.refl _).more (by simp)
          refine Wk.dVal 0 (some 43) (.agg ((b8s dd1).toArray)) rfl rfl (by kernel_rfl) (by kernel_rfl) (by kernel_rfl) (fun _ _ _ h => h) (by kernel_rfl) (fun w' hw' => (Mur.loadAll 25 (.tmp 9) rfl _ Tryd.underlying25 rfl W6.heap.size (by kernel_rfl) dd1 32 hdl1 (by kernel_rfl) 25 (0, 0) (Wk.Chg.hp hw' (Wk.Chg.hp ch8 hb2 trivial) trivial))) sS1 ?_
          refine Wk.dVal 1 (some 44) (.slice A n c) rfl rfl (by kernel_rfl) (by kernel_rfl) (by kernel_rfl) (fun _ _ _ h => h) (by kernel_rfl) (fun w' hw' => by kernel_rfl) sS1 ?_
          refine Wk.dVal 2 (some 45) (.slice A1 N c1) rfl rfl (by kernel_rfl) (by kernel_rfl) (by kernel_rfl) (fun _ _ _ h => h) (by kernel_rfl) (fun w' hw' => by kernel_rfl) sS1 ?_
          refine Wk.dOp 3 (by kernel_rfl) ?_
          refine Wk.oEx (some 46) _ rfl rfl (by kernel_rfl) (Wk.new_ex (.slice (some ⟨W9.heap.size, 0, none⟩) 1 1) #[.slice A1 N c1] 22 (by kernel_rfl)) ?_
          rintro _ W10 ⟨rfl, hb3, ch9, sz3⟩
          have zz9 := ch9.size
          have sS2 := Wk.Chg.step sS1 ch9 trivial
          refine ⟨sS2, ?_⟩
          refine Wk.dOp 4 (by kernel_rfl) ?_
          refine Wk.oCall (some 47) 13 [.tmp 44, .tmp 46] #[22, 29] [.slice A n c, .slice (some ⟨W9.heap.size, 0, none⟩) 1 1] rfl rfl (by kernel_rfl) rfl (by kernel_rfl) (by kernel_rfl) ?_
          have kk5 := Wk.Chg.step HB ch5 trivial
          have kk6 := Wk.Chg.step kk5 ch6 trivial
          have kk7 := Wk.Chg.step kk6 ch7 ⟨.inr (by omega), trivial⟩
          have kk8 := Wk.Chg.step kk7 ch8 trivial
          have kk9 := Wk.Chg.step kk8 ch9 trivial
          have ow2 := Mur.own8 (Wk.own_chg hO.own ch5 (fun q e _ _ => trivial))
          have ow3 := Mur.own8 (Wk.own_chg ow2.own ch6 (fun q e _ _ => trivial))
          have ow4 := Mur.own8 (Wk.own_chg ow3.own ch7 (fun q e _ _ => ⟨by have := hO.lt q e; omega, trivial⟩))
          have ow5 := Mur.own8 (Wk.own_chg ow4.own ch8 (fun q e _ _ => trivial))
          have ow6 := Mur.own8 (Wk.own_chg ow5.own ch9 (fun q e _ _ => trivial))
          have hby1 := ow6.byt
          refine (Tag_any s A n c ([⟨A1, N, c1, (flat (L.take k))⟩]) (some ⟨W9.heap.size, 0, none⟩) 1 1 W10 (HV.out.below (Wk.Chg.below0 kk9)) (Mur.byt_chg HBY.out kk9 (fun g off e hl => trivial)) (by omega) HA.out (by omega) (Mur.segs_lit [⟨A1, N, c1, (flat (L.take k))⟩] 1 hb3 (Mur.ok_cons ⟨(show N ≤ c1 by omega), ow6.nil, hby1, (show c1 ≤ Go.maxLen by first | omega | (unfold Go.maxLen; omega))⟩ Mur.ok_nil) rfl) (by omega) (by show ((flat (L.take k)) ++ []).length ≤ _; simp only [List.length_append, List.length_nil]; have hl0 := hby1.1; omega)).mono ?_
          rintro _ W11 ⟨dd2, hd2, hdl2, rfl, ch10⟩
          have zz10 := ch10.size
          have sS3 := Wk.Chg.step sS2 ch10 trivial
          refine ⟨_, rfl, sS3, ?_⟩
          refine Wk.dVal 5 (some 48) (.bool false) rfl rfl (by kernel_rfl) (by kernel_rfl) (by kernel_rfl) (fun _ _ _ h => h) (by kernel_rfl) (fun w' hw' => (Mur.run_neq_false digT dd1 dd2 hdl1 (by rw [hd1.out, hd2.out, Mur.flat_one, hfa]) w' (.tmp 43) (.tmp 47) 25 rfl (by kernel_rfl) (by kernel_rfl))) sS3 ?_
          refine Wk.dEnd (by kernel_rfl) ?_
          refine Wk.nxt ?_
          refine wp_cond_false (by kernel_rfl) ?_
          refine wp_skip ?_
          refine Wk.nxt ?_
          refine wp_seq ?_
          refine wp_seq ?_
          refine Wk.reg ?_
          refine Wk.rPure 0 (some 49) (.slice A n c) rfl rfl (by kernel_rfl) (by kernel_rfl) ?_
          refine Wk.rPure 1 (some 50) (.int .i64 ((n : Nat) : Int)) rfl rfl (by kernel_rfl) (by kernel_rfl) ?_
          by_cases hx4 : ((n : Nat) : Int) > (64 : Int)
          · refine Wk.rPure 2 (some 51) (.bool true) rfl rfl (by kernel_rfl) (Wk.boolT (b := decide (((n : Nat) : Int) > (64 : Int))) (decide_eq_true (by first | exact hx4 | omega)) (by kernel_rfl)) ?_
            refine Wk.rEnd 3 rfl ?_
            refine Wk.nxt ?_
            refine wp_cond_true (by kernel_rfl) ?_
            refine wp_seq ?_
            refine Wk.reg ?_
            refine Wk.rPure 0 (some 52) (.slice A n c) rfl rfl (by kernel_rfl) (by kernel_rfl) ?_
            refine Wk.rCall 1 (some 53) 15 [.tmp 52] #[22] [.slice A n c] rfl rfl (by kernel_rfl) rfl (by kernel_rfl) (by kernel_rfl) ?_
            have kk10 := Wk.Chg.step kk9 ch10 trivial
            refine (Sum_var s A n c W11 (HV.out.below (Wk.Chg.below0 kk10)) (Mur.byt_chg HBY.out kk10 (fun g off e hl => trivial)) (by omega) HA.out (by omega)).mono ?_
            rintro _ W12 ⟨dd3, hd3, hdl3, rfl, hB3⟩
            have ch11 := Wk.Chg.ofBelow hB3
            have zz11 := ch11.size
            refine ⟨_, rfl, ?_⟩
            refine Wk.rEx 2 (some 10) _ rfl rfl (by kernel_rfl) (Wk.new_ex (.pointer (some ⟨W12.heap.size, 0, none⟩)) #[.int .u8 0, .int .u8 0, .int .u8 0, .int .u8 0, .int .u8 0, .int .u8 0, .int .u8 0, .int .u8 0, .int .u8 0, .int .u8 0, .int .u8 0, .int .u8 0, .int .u8 0, .int .u8 0, .int .u8 0, .int .u8 0, .int .u8 0, .int .u8 0, .int .u8 0, .int .u8 0, .int .u8 0, .int .u8 0, .int .u8 0, .int .u8 0, .int .u8 0, .int .u8 0, .int .u8 0, .int .u8 0, .int .u8 0, .int .u8 0, .int .u8 0, .int .u8 0] 25 (by kernel_rfl)) ?_
            rintro _ W13 ⟨rfl, hb4, ch12, sz4⟩
            have zz12 := ch12.size
            refine Wk.rExS 3 none _ rfl rfl (by kernel_rfl) (Mur.storeAll 25 (.tmp 10) (.tmp 53) rfl W12.heap.size (by kernel_rfl) dd3 32 hdl3 (by kernel_rfl) (by kernel_rfl) 25 #[.int .u8 0, .int .u8 0, .int .u8 0, .int .u8 0, .int .u8 0, .int .u8 0, .int .u8 0, .int .u8 0, .int .u8 0, .int .u8 0, .int .u8 0, .int .u8 0, .int .u8 0, .int .u8 0, .int .u8 0, .int .u8 0, .int .u8 0, .int .u8 0, .int .u8 0, .int .u8 0, .int .u8 0, .int .u8 0, .int .u8 0, .int .u8 0, .int .u8 0, .int .u8 0, .int .u8 0, .int .u8 0, .int .u8 0, .int .u8 0, .int .u8 0, .int .u8 0] hb4 rfl) ?_
            rintro W14 ⟨hb5, ch13⟩
            have zz13 := ch13.size
            refine Wk.rEnd 4 rfl ?_
            refine Wk.nxt ?_
            refine wp_seq ?_
            refine Wk.dReg ([]) (by kernel_rfl) ?_
            intro W15 ch14 sz5
            have zz14 := ch14.size
            have sS4 : Wk.Chg ([]) W15 W15 := (Wk.Chg.refl _).more (by simp)
            refine Wk.dVal 0 (some 54) (.slice (some ⟨W12.heap.size, 0, none⟩) 32 32) rfl rfl (by kernel_rfl) (by kernel_rfl) (by kernel_rfl) (fun _ _ _ h => h) (by kernel_rfl) (fun w' hw' => (Mur.arr_slice 25 5 (.tmp 10) 32 rfl Tryd.underlying25 (by kernel_rfl) W12.heap.size (by kernel_rfl))) sS4 ?_
            refine Wk.dVal 1 (some 55) (.slice A1 N c1) rfl rfl (by kernel_rfl) (by kernel_rfl) (by kernel_rfl) (fun _ _ _ h => h) (by kernel_rfl) (fun w' hw' => by kernel_rfl) sS4 ?_
            refine Wk.dVal 4 (some 58) (.agg ((b8s dd1).toArray)) rfl rfl (by kernel_rfl) (by kernel_rfl) (by kernel_rfl) (fun _ _ _ h => h) (by kernel_rfl) (fun w' hw' => (Mur.loadAll 25 (.tmp 9) rfl _ Tryd.underlying25 rfl W6.heap.size (by kernel_rfl) dd1 32 hdl1 (by kernel_rfl) 25 (0, 0) (Wk.Chg.hp hw' (Wk.Chg.hp ch14 (Wk.Chg.hp ch13 (Wk.Chg.hp ch12 (Wk.Chg.hp ch11 (Wk.Chg.hp ch10 (Wk.Chg.hp ch9 (Wk.Chg.hp ch8 hb2 trivial) trivial) trivial) trivial) trivial) ⟨by omega, trivial⟩) trivial) trivial))) sS4 ?_
            refine Wk.dOp 2 (by kernel_rfl) ?_
            refine Wk.oEx (some 56) _ rfl rfl (by kernel_rfl) (Wk.new_ex (.slice (some ⟨W15.heap.size, 0, none⟩) 1 1) #[.slice A1 N c1] 22 (by kernel_rfl)) ?_
            rintro _ W16 ⟨rfl, hb6, ch15, sz6⟩
            have zz15 := ch15.size
            have sS5 := Wk.Chg.step sS4 ch15 trivial
            refine ⟨sS5, ?_⟩
            refine Wk.dOp 3 (by kernel_rfl) ?_
            refine Wk.oCall (some 57) 13 [.tmp 54, .tmp 56] #[22, 29] [.slice (some ⟨W12.heap.size, 0, none⟩) 32 32, .slice (some ⟨W15.heap.size, 0, none⟩) 1 1] rfl rfl (by kernel_rfl) rfl (by kernel_rfl) (by kernel_rfl) ?_
            have ow7 := Mur.own8 (Wk.own_chg ow6.own ch10 (fun q e _ _ => trivial))
            have ow8 := Mur.own8 (Wk.own_chg ow7.own ch11 (fun q e _ _ => trivial))
            have ow9 := Mur.own8 (Wk.own_chg ow8.own ch12 (fun q e _ _ => trivial))
            have ow10 := Mur.own8 (Wk.own_chg ow9.own ch13 (fun q e _ _ => ⟨by have := hO.lt q e; omega, trivial⟩))
            have ow11 := Mur.own8 (Wk.own_chg ow10.own ch14 (fun q e _ _ => trivial))
            have ow12 := Mur.own8 (Wk.own_chg ow11.own ch15 (fun q e _ _ => trivial))
            have hby2 := ow12.byt
            have kk11 := Wk.Chg.step kk10 ch11 trivial
            have kk12 := Wk.Chg.step kk11 ch12 trivial
            have kk13 := Wk.Chg.step kk12 ch13 ⟨.inr (by omega), trivial⟩
            have kk14 := Wk.Chg.step kk13 ch14 trivial
            have kk15 := Wk.Chg.step kk14 ch15 trivial
            refine (Tag_any dd3 (some ⟨W12.heap.size, 0, none⟩) 32 32 ([⟨A1, N, c1, (flat (L.take k))⟩]) (some ⟨W15.heap.size, 0, none⟩) 1 1 W16 (HV.out.below (Wk.Chg.below0 kk15)) (Mur.byt_blk dd3 hdl3 (Wk.Chg.hp ch15 (Wk.Chg.hp ch14 hb5 trivial) trivial)) (by omega) (fun h => by cases h) (by omega) (Mur.segs_lit [⟨A1, N, c1, (flat (L.take k))⟩] 1 hb6 (Mur.ok_cons ⟨(show N ≤ c1 by omega), ow12.nil, hby2, (show c1 ≤ Go.maxLen by first | omega | (unfold Go.maxLen; omega))⟩ Mur.ok_nil) rfl) (by omega) (by show ((flat (L.take k)) ++ []).length ≤ _; simp only [List.length_append, List.length_nil]; have hl0 := hby2.1; omega)).mono ?_
            rintro _ W17 ⟨dd4, hd4, hdl4, rfl, ch16⟩
            have zz16 := ch16.size
            have sS6 := Wk.Chg.step sS5 ch16 trivial
            refine ⟨_, rfl, sS6, ?_⟩
            refine Wk.dVal 5 (some 59) (.bool true) rfl rfl (by kernel_rfl) (by kernel_rfl) (by kernel_rfl) (fun _ _ _ h => h) (by kernel_rfl) (fun w' hw' => (Mur.run_eql_true digT dd4 dd1 hdl4 (by rw [hd4.out, hd1.out, Mur.flat_one, hfa, hd3.out]; exact Mur.hmac_big _ (by rw [HBY.out.1]; omega)) w' (.tmp 57) (.tmp 58) 25 rfl (by kernel_rfl) (by kernel_rfl))) sS6 ?_
            refine Wk.dVal 6 (some 60) (.bool true) rfl rfl (by kernel_rfl) (by kernel_rfl) (by kernel_rfl) (fun _ _ _ h => h) (by kernel_rfl) (fun w' hw' => by kernel_rfl) sS6 ?_
            refine Wk.dOp 7 (by kernel_rfl) ?_
            refine Wk.oCall (some 61) 12 [] #[] [] rfl rfl (by kernel_rfl) rfl (by kernel_rfl) (by kernel_rfl) ?_
            have kk16 := Wk.Chg.step kk15 ch16 trivial
            refine (known_any W17 (HV.out.below (Wk.Chg.below0 kk16))).mono ?_
            rintro _ W18 ⟨rfl, ch17⟩
            have zz17 := ch17.size
            have sS7 := Wk.Chg.step sS6 ch17 trivial
            refine ⟨_, rfl, sS7, ?_⟩
            refine Wk.dVal 8 (some 62) (.bool true) rfl rfl (by kernel_rfl) (by kernel_rfl) (by kernel_rfl) (fun _ _ _ h => h) (by kernel_rfl) (fun w' hw' => by kernel_rfl) sS7 ?_
            refine Wk.dVal 9 (some 6) (.bool true) rfl rfl (by kernel_rfl) (by kernel_rfl) (by kernel_rfl) (fun _ _ _ h => h) (by kernel_rfl) (fun w' hw' => by kernel_rfl) sS7 ?_
            refine Wk.dEnd (by kernel_rfl) ?_
            refine Wk.nxt ?_
            refine wp_ret ?_
            refine Wk.thR ?_
            have kk17 := Wk.Chg.step kk16 ch17 trivial
            refine Wk.ret (.bool true) rfl (by kernel_rfl) ?_
            exact ⟨rfl, Wk.Chg.below0 kk17⟩
          · refine Wk.rPure 2 (some 51) (.bool false) rfl rfl (by kernel_rfl) (Wk.boolF (b := decide (((n : Nat) : Int) > (64 : Int))) (decide_eq_false (by first | exact hx4 | omega)) (by kernel_rfl)) ?_
            refine Wk.rEnd 3 rfl ?_
            refine Wk.nxt ?_
            refine wp_cond_false (by kernel_rfl) ?_
            refine wp_skip ?_
            refine Wk.nxt ?_
            refine wp_seq ?_
            refine Wk.reg ?_
            refine Wk.rEx 0 (some 63) _ rfl rfl (by kernel_rfl) (Wk.new_ex (.slice (some ⟨W11.heap.size, 0, none⟩) 0 0) #[] 5 (by kernel_rfl)) ?_
            rintro _ W19 ⟨rfl, hb7, ch18, sz7⟩
            have zz18 := ch18.size
            refine Wk.rPure 1 (some 64) (.slice A n c) rfl rfl (by kernel_rfl) (by kernel_rfl) ?_
            have ow13 := Mur.own8_empty hb7 (Nat.le_refl _)
            have kk18 := Wk.Chg.step kk9 ch10 trivial
            have kk19 := Wk.Chg.step kk18 ch18 trivial
            refine Wk.rEx 2 (some 65) _ rfl rfl (by kernel_rfl) (Mur.append8 (.tmp 63) (.tmp 64) 22 5 rfl Tryd.underlying22 (by kernel_rfl) W11.heap.size (some ⟨W11.heap.size, 0, none⟩) 0 0 ([]) A n c s (by kernel_rfl) (by kernel_rfl) ow13.own (Mur.byt_chg HBY.out kk19 (fun g off e hl => trivial)) HA.out (by omega) (by omega) n (by omega) s rfl) ?_
            rintro _ W20 ⟨AA2, nn2, rfl, ow14, ch19, ha2⟩
            have zz19 := ch19.size
            have hq3 := ow14.nc
            have hq4 := ow14.cm
            refine Wk.rPure 3 (some 66) (.int .i64 more) rfl rfl (by kernel_rfl) (by kernel_rfl) ?_
            obtain ⟨mx, hmx⟩ : ∃ m : Int, (if (0 : Int) > more then (0 : Int) else more) = m := ⟨_, rfl⟩
            have hmx0 : 0 ≤ mx := by rw [← hmx]; split <;> omega
            refine Wk.rPure 4 (some 67) (.int .i64 mx) rfl rfl (by kernel_rfl) (Wk.val (congrArg (Value.int .i64) hmx) (by kernel_rfl)) ?_
            refine Wk.rPure 5 (some 68) (.slice A n c) rfl rfl (by kernel_rfl) (by kernel_rfl) ?_
            refine Wk.rPure 6 (some 69) (.int .i64 ((n : Nat) : Int)) rfl rfl (by kernel_rfl) (by kernel_rfl) ?_
            refine Wk.rPure 7 (some 70) (.int .i64 (64 - ((n : Nat) : Int))) rfl rfl (by kernel_rfl) (Wk.int64 (n := 64 - ((n : Nat) : Int)) (z := 64 - ((n : Nat) : Int)) (by omega) (by omega) (by omega) (by kernel_rfl)) ?_
            obtain ⟨z, hz⟩ : ∃ z : Nat, (if 64 - ((n : Nat) : Int) < mx then 64 - ((n : Nat) : Int) else mx) = ((z : Nat) : Int) := ⟨((if 64 - ((n : Nat) : Int) < mx then 64 - ((n : Nat) : Int) else mx)).toNat, by split <;> omega⟩
            have hz2 : n + z ≤ 64 := by split at hz <;> omega
            refine Wk.rPure 8 (some 71) (.int .i64 ((z : Nat) : Int)) rfl rfl (by kernel_rfl) (Wk.val (congrArg (Value.int .i64) hz) (by kernel_rfl)) ?_
            refine Wk.rEx 9 (some 72) _ rfl rfl (by kernel_rfl) (Mur.append_zeros8 (.tmp 65) (.tmp 71) 22 3 5 rfl Tryd.underlying22 .i64 Tryd.underlying3 (by kernel_rfl) W11.heap.size AA2 n nn2 s z (by kernel_rfl) (by kernel_rfl) ow14 (by omega) (by omega) (n + z) rfl (s ++ List.replicate z 0) rfl) ?_
            rintro _ W21 ⟨AA3, nn3, rfl, ow15, ch20, ha3⟩
            have zz20 := ch20.size
            have hq5 := ow15.nc
            have hq6 := ow15.cm
            refine Wk.rPure 10 (some 11) (.slice AA3 (n + z) nn3) rfl rfl (by kernel_rfl) (by kernel_rfl) ?_
            refine Wk.rEnd 11 rfl ?_
            refine Wk.nxt ?_
            refine wp_seq ?_
            refine Wk.dReg ([]) (by kernel_rfl) ?_
            intro W22 ch21 sz8
            have zz21 := ch21.size
            have sS8 : Wk.Chg ([]) W22 W22 := (Wk.Chg.refl _).more (by simp)
            refine Wk.dVal 0 (some 73) (.slice AA3 (n + z) nn3) rfl rfl (by kernel_rfl) (by kernel_rfl) (by kernel_rfl) (fun _ _ _ h => h) (by kernel_rfl) (fun w' hw' => by kernel_rfl) sS8 ?_
            refine Wk.dVal 1 (some 74) (.slice A1 N c1) rfl rfl (by kernel_rfl) (by kernel_rfl) (by kernel_rfl) (fun _ _ _ h => h) (by kernel_rfl) (fun w' hw' => by kernel_rfl) sS8 ?_
            refine Wk.dVal 4 (some 77) (.agg ((b8s dd1).toArray)) rfl rfl (by kernel_rfl) (by kernel_rfl) (by kernel_rfl) (fun _ _ _ h => h) (by kernel_rfl) (fun w' hw' => (Mur.loadAll 25 (.tmp 9) rfl _ Tryd.underlying25 rfl W6.heap.size (by kernel_rfl) dd1 32 hdl1 (by kernel_rfl) 25 (0, 0) (Wk.Chg.hp hw' (Wk.Chg.hp ch21 (Wk.Chg.hp ch20 (Wk.Chg.hp ch19 (Wk.Chg.hp ch18 (Wk.Chg.hp ch10 (Wk.Chg.hp ch9 (Wk.Chg.hp ch8 hb2 trivial) trivial) trivial) trivial) (Wk.off_blk (fun gz hgz => by have := ow13.lt gz hgz; omega))) (Wk.off_blk (fun gz hgz => by have := ow14.lt gz hgz; omega))) trivial) trivial))) sS8 ?_
            refine Wk.dOp 2 (by kernel_rfl) ?_
            refine Wk.oEx (some 75) _ rfl rfl (by kernel_rfl) (Wk.new_ex (.slice (some ⟨W22.heap.size, 0, none⟩) 1 1) #[.slice A1 N c1] 22 (by kernel_rfl)) ?_
            rintro _ W23 ⟨rfl, hb8, ch22, sz9⟩
            have zz22 := ch22.size
            have sS9 := Wk.Chg.step sS8 ch22 trivial
            refine ⟨sS9, ?_⟩
            refine Wk.dOp 3 (by kernel_rfl) ?_
            refine Wk.oCall (some 76) 13 [.tmp 73, .tmp 75] #[22, 29] [.slice AA3 (n + z) nn3, .slice (some ⟨W22.heap.size, 0, none⟩) 1 1] rfl rfl (by kernel_rfl) rfl (by kernel_rfl) (by kernel_rfl) ?_
            have ow16 := Mur.own8 (Wk.own_chg ow15.own ch21 (fun q e _ _ => trivial))
            have ow17 := Mur.own8 (Wk.own_chg ow16.own ch22 (fun q e _ _ => trivial))
            have ow18 := Mur.own8 (Wk.own_chg ow6.own ch10 (fun q e _ _ => trivial))
            have ow19 := Mur.own8 (Wk.own_chg ow18.own ch18 (fun q e _ _ => trivial))
            have ow20 := Mur.own8 (Wk.own_chg ow19.own ch19 (fun q e _ _ => (Wk.off_blk (fun gz hgz => by have := ow13.lt gz hgz; have := hO.lt q e; omega))))
            have ow21 := Mur.own8 (Wk.own_chg ow20.own ch20 (fun q e _ _ => (Wk.off_blk (fun gz hgz => by have := ow14.lt gz hgz; have := hO.lt q e; omega))))
            have ow22 := Mur.own8 (Wk.own_chg ow21.own ch21 (fun q e _ _ => trivial))
            have ow23 := Mur.own8 (Wk.own_chg ow22.own ch22 (fun q e _ _ => trivial))
            have hby3 := ow23.byt
            have kk20 := Wk.Chg.step kk19 ch19 (Wk.newOr_blk (fun g hg => by have := ow13.lt g hg; omega))
            have kk21 := Wk.Chg.step kk20 ch20 (Wk.newOr_blk (fun g hg => by have := ow14.lt g hg; omega))
            have kk22 := Wk.Chg.step kk21 ch21 trivial
            have kk23 := Wk.Chg.step kk22 ch22 trivial
            refine (Tag_any (s ++ List.replicate z 0) AA3 (n + z) nn3 ([⟨A1, N, c1, (flat (L.take k))⟩]) (some ⟨W22.heap.size, 0, none⟩) 1 1 W23 (HV.out.below (Wk.Chg.below0 kk23)) ow17.byt (by omega) ow17.nil (by omega) (Mur.segs_lit [⟨A1, N, c1, (flat (L.take k))⟩] 1 hb8 (Mur.ok_cons ⟨(show N ≤ c1 by omega), ow23.nil, hby3, (show c1 ≤ Go.maxLen by first | omega | (unfold Go.maxLen; omega))⟩ Mur.ok_nil) rfl) (by omega) (by show ((flat (L.take k)) ++ []).length ≤ _; simp only [List.length_append, List.length_nil]; have hl0 := hby3.1; omega)).mono ?_
            rintro _ W24 ⟨dd5, hd5, hdl5, rfl, ch23⟩
            have zz23 := ch23.size
            have sS10 := Wk.Chg.step sS9 ch23 trivial
            refine ⟨_, rfl, sS10, ?_⟩
            refine Wk.dVal 5 (some 78) (.bool true) rfl rfl (by kernel_rfl) (by kernel_rfl) (by kernel_rfl) (fun _ _ _ h => h) (by kernel_rfl) (fun w' hw' => (Mur.run_eql_true digT dd5 dd1 hdl5 (by rw [hd5.out, hd1.out, Mur.flat_one, hfa]; exact Mur.hmac_wide _ (by rw [HBY.out.1]; omega)) w' (.tmp 76) (.tmp 77) 25 rfl (by kernel_rfl) (by kernel_rfl))) sS10 ?_
            refine Wk.dVal 6 (some 79) (.bool true) rfl rfl (by kernel_rfl) (by kernel_rfl) (by kernel_rfl) (fun _ _ _ h => h) (by kernel_rfl) (fun w' hw' => by kernel_rfl) sS10 ?_
            refine Wk.dOp 7 (by kernel_rfl) ?_
            refine Wk.oCall (some 80) 12 [] #[] [] rfl rfl (by kernel_rfl) rfl (by kernel_rfl) (by kernel_rfl) ?_
            have kk24 := Wk.Chg.step kk23 ch23 trivial
            refine (known_any W24 (HV.out.below (Wk.Chg.below0 kk24))).mono ?_
            rintro _ W25 ⟨rfl, ch24⟩
            have zz24 := ch24.size
            have sS11 := Wk.Chg.step sS10 ch24 trivial
            refine ⟨_, rfl, sS11, ?_⟩
            refine Wk.dVal 8 (some 81) (.bool true) rfl rfl (by kernel_rfl) (by kernel_rfl) (by kernel_rfl) (fun _ _ _ h => h) (by kernel_rfl) (fun w' hw' => by kernel_rfl) sS11 ?_
            refine Wk.dVal 9 (some 6) (.bool true) rfl rfl (by kernel_rfl) (by kernel_rfl) (by kernel_rfl) (fun _ _ _ h => h) (by kernel_rfl) (fun w' hw' => by kernel_rfl) sS11 ?_
            refine Wk.dEnd (by kernel_rfl) ?_
            refine Wk.nxt ?_
            refine wp_ret ?_
            have kk25 := Wk.Chg.step kk24 ch24 trivial
            refine Wk.ret (.bool true) rfl (by kernel_rfl) ?_
            exact ⟨rfl, Wk.Chg.below0 kk25⟩
end Go.Proofs.YtljfjjofhclhiaaDoor
