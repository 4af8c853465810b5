/- HmacTags, walked. -/
import Derived.Test.YtljfjjofhclhiaaDoorHmD
namespace Go.Proofs.YtljfjjofhclhiaaDoor
open Go.RowKit
open Mur (b8s Byt Own8 Seg Segs flat cutA)
set_option maxRecDepth 100000
set_option maxHeartbeats 4000000
theorem tags_any (s : List UInt8) (A : Option Addr) (n c : Nat) (b : List UInt8) (B : Option Addr) (m d : Nat) (w : World) (hv : ShaVars w) (hb : Byt w A n s) (hnc : n ≤ c) (ha : A = none → c = 0) (hb2 : Byt w B m b) (ha2 : B = none → d = 0) : Calls Tryd.prog 3 #[.slice A n c, .slice B m d] w fun e w' => e = .returned (.bool true) ∧ Below w.heap.size w w' := by
  have HV := Go.Lib.hid hv
  clear hv
  have HBY := Go.Lib.hid hb
  clear hb
  have HA := Go.Lib.hid ha
  clear ha
  have HB2 := Go.Lib.hid hb2
  clear hb2
  have HA2 := Go.Lib.hid ha2
  clear ha2
  refine calls_of_wp Tryd.func3 rfl ?_
  refine wp_seq ?_
  refine Wk.reg ?_
  refine Wk.rPure 0 (some 4) (.bool false) rfl rfl (by kernel_rfl) (by kernel_rfl) ?_
  refine Wk.rEnd 1 rfl ?_
  refine Wk.nxt ?_
  refine wp_seq ?_
  refine wp_seq ?_
  refine Wk.reg ?_
  refine Wk.rPure 0 (some 7) (.slice A n c) rfl rfl (by kernel_rfl) (by kernel_rfl) ?_
  refine Wk.rPure 1 (some 8) (.int .i64 ((n : Nat) : Int)) rfl rfl (by kernel_rfl) (by kernel_rfl) ?_
  by_cases hx1 : ((n : Nat) : Int) > (300 : Int)
  · refine Wk.rPure 2 (some 9) (.bool true) rfl rfl (by kernel_rfl) (Wk.boolT (b := decide (((n : Nat) : Int) > (300 : Int))) (decide_eq_true (by first | exact hx1 | omega)) (by kernel_rfl)) ?_
    refine Wk.rPure 3 (some 10) (.bool true) rfl rfl (by kernel_rfl) (by kernel_rfl) ?_
    refine Wk.rPass 4 (some 11) rfl rfl (by kernel_rfl) ?_
    refine Wk.rPass 5 (some 12) rfl rfl (by kernel_rfl) ?_
    refine Wk.rPass 6 (some 13) rfl rfl (by kernel_rfl) ?_
    refine Wk.rPure 7 (some 14) (.bool true) rfl rfl (by kernel_rfl) (by kernel_rfl) ?_
    refine Wk.rEnd 8 rfl ?_
    refine Wk.nxt ?_
    refine wp_cond_true (by kernel_rfl) ?_
    refine wp_seq ?_
    refine Wk.reg ?_
    refine Wk.rCall 0 (some 15) 12 [] #[] [] rfl rfl (by kernel_rfl) rfl (by kernel_rfl) (by kernel_rfl) ?_
    refine (known_any w HV.out).mono ?_
    rintro _ W1 ⟨rfl, ch1⟩
    have zz1 := ch1.size
    refine ⟨_, rfl, ?_⟩
    refine Wk.rPure 1 (some 4) (.bool true) rfl rfl (by kernel_rfl) (by kernel_rfl) ?_
    refine Wk.rEnd 2 rfl ?_
    refine Wk.nxt ?_
    refine wp_ret ?_
    refine Wk.thR ?_
    have kk1 : Wk.Chg [] w W1 := Wk.Chg.step ((Wk.Chg.refl _).more (by simp)) ch1 trivial
    refine Wk.ret (.bool true) rfl (by kernel_rfl) ?_
    exact ⟨rfl, Wk.Chg.below0 kk1⟩
  · refine Wk.rPure 2 (some 9) (.bool false) rfl rfl (by kernel_rfl) (Wk.boolF (b := decide (((n : Nat) : Int) > (300 : Int))) (decide_eq_false (by first | exact hx1 | omega)) (by kernel_rfl)) ?_
    refine Wk.rPure 3 (some 10) (.bool false) rfl rfl (by kernel_rfl) (by kernel_rfl) ?_
    refine Wk.rPure 4 (some 11) (.slice B m d) rfl rfl (by kernel_rfl) (by kernel_rfl) ?_
    refine Wk.rPure 5 (some 12) (.int .i64 ((m : Nat) : Int)) rfl rfl (by kernel_rfl) (by kernel_rfl) ?_
    by_cases hx2 : ((m : Nat) : Int) > (300 : Int)
    · refine Wk.rPure 6 (some 13) (.bool true) rfl rfl (by kernel_rfl) (Wk.boolT (b := decide (((m : Nat) : Int) > (300 : Int))) (decide_eq_true (by first | exact hx2 | omega)) (by kernel_rfl)) ?_
      refine Wk.rPure 7 (some 14) (.bool true) rfl rfl (by kernel_rfl) (by kernel_rfl) ?_
      refine Wk.rEnd 8 rfl ?_
      refine Wk.nxt ?_
      refine wp_cond_true (by kernel_rfl) ?_
      refine wp_seq ?_
      refine Wk.reg ?_
      refine Wk.rCall 0 (some 15) 12 [] #[] [] rfl rfl (by kernel_rfl) rfl (by kernel_rfl) (by kernel_rfl) ?_
      refine (known_any w HV.out).mono ?_
      rintro _ W2 ⟨rfl, ch2⟩
      have zz2 := ch2.size
      refine ⟨_, rfl, ?_⟩
      refine Wk.rPure 1 (some 4) (.bool true) rfl rfl (by kernel_rfl) (by kernel_rfl) ?_
      refine Wk.rEnd 2 rfl ?_
      refine Wk.nxt ?_
      refine wp_ret ?_
      refine Wk.thR ?_
      have kk2 : Wk.Chg [] w W2 := Wk.Chg.step ((Wk.Chg.refl _).more (by simp)) ch2 trivial
      refine Wk.ret (.bool true) rfl (by kernel_rfl) ?_
      exact ⟨rfl, Wk.Chg.below0 kk2⟩
    · refine Wk.rPure 6 (some 13) (.bool false) rfl rfl (by kernel_rfl) (Wk.boolF (b := decide (((m : Nat) : Int) > (300 : Int))) (decide_eq_false (by first | exact hx2 | omega)) (by kernel_rfl)) ?_
      refine Wk.rPure 7 (some 14) (.bool false) rfl rfl (by kernel_rfl) (by kernel_rfl) ?_
      refine Wk.rEnd 8 rfl ?_
      refine Wk.nxt ?_
      refine wp_cond_false (by kernel_rfl) ?_
      refine wp_skip ?_
      refine Wk.nxt ?_
      refine wp_seq ?_
      refine Wk.reg ?_
      refine Wk.rEx 0 (some 16) _ rfl rfl (by kernel_rfl) (Wk.new_ex (.slice (some ⟨w.heap.size, 0, none⟩) 0 0) #[] 5 (by kernel_rfl)) ?_
      rintro _ W3 ⟨rfl, hb1, ch3, sz1⟩
      have zz3 := ch3.size
      refine Wk.rPure 1 (some 17) (.slice A n c) rfl rfl (by kernel_rfl) (by kernel_rfl) ?_
      have ow1 := Mur.own8_empty hb1 (Nat.le_refl _)
      have kk3 : Wk.Chg [] w W3 := Wk.Chg.step ((Wk.Chg.refl _).more (by simp)) ch3 trivial
      refine Wk.rEx 2 (some 18) _ rfl rfl (by kernel_rfl) (Mur.append8 (.tmp 16) (.tmp 17) 22 5 rfl Tryd.underlying22 (by kernel_rfl) w.heap.size (some ⟨w.heap.size, 0, none⟩) 0 0 ([]) A n c s (by kernel_rfl) (by kernel_rfl) ow1.own (Mur.byt_chg HBY.out kk3 (fun g off e hl => trivial)) HA.out (by omega) (by omega) n (by omega) s rfl) ?_
      rintro _ W4 ⟨AA1, nn1, rfl, ow2, ch4, ha1⟩
      have zz4 := ch4.size
      have hq1 := ow2.nc
      have hq2 := ow2.cm
      refine Wk.rEx 3 (some 19) _ rfl rfl (by kernel_rfl) (Wk.new_ex (.slice (some ⟨W4.heap.size, 0, none⟩) 0 0) #[] 5 (by kernel_rfl)) ?_
      rintro _ W5 ⟨rfl, hb2, ch5, sz2⟩
      have zz5 := ch5.size
      refine Wk.rPure 4 (some 20) (.slice B m d) rfl rfl (by kernel_rfl) (by kernel_rfl) ?_
      have ow3 := Mur.own8_empty hb2 (Nat.le_refl _)
      have kk4 := Wk.Chg.step kk3 ch4 (Wk.newOr_blk (fun g hg => by have := ow1.lt g hg; omega))
      have kk5 := Wk.Chg.step kk4 ch5 trivial
      refine Wk.rEx 5 (some 21) _ rfl rfl (by kernel_rfl) (Mur.append8 (.tmp 19) (.tmp 20) 22 5 rfl Tryd.underlying22 (by kernel_rfl) W4.heap.size (some ⟨W4.heap.size, 0, none⟩) 0 0 ([]) B m d b (by kernel_rfl) (by kernel_rfl) ow3.own (Mur.byt_chg HB2.out kk5 (fun g off e hl => trivial)) HA2.out (by omega) (by omega) m (by omega) b rfl) ?_
      rintro _ W6 ⟨AA2, nn2, rfl, ow4, ch6, ha2⟩
      have zz6 := ch6.size
      have hq3 := ow4.nc
      have hq4 := ow4.cm
      refine Wk.rPure 6 (some 5) (.slice AA1 n nn1) rfl rfl (by kernel_rfl) (by kernel_rfl) ?_
      refine Wk.rPure 7 (some 6) (.slice AA2 m nn2) rfl rfl (by kernel_rfl) (by kernel_rfl) ?_
      refine Wk.rEnd 8 rfl ?_
      refine Wk.nxt ?_
      refine wp_seq ?_
      refine Wk.reg ?_
      refine Wk.rPure 0 (some 22) (.slice AA1 n nn1) rfl rfl (by kernel_rfl) (by kernel_rfl) ?_
      refine Wk.rPure 1 (some 23) (.slice AA2 m nn2) rfl rfl (by kernel_rfl) (by kernel_rfl) ?_
      refine Wk.rEx 2 (some 24) _ rfl rfl (by kernel_rfl) (Wk.new_ex (.slice (some ⟨W6.heap.size, 0, none⟩) 1 1) #[.slice AA2 m nn2] 22 (by kernel_rfl)) ?_
      rintro _ W7 ⟨rfl, hb3, ch7, sz3⟩
      have zz7 := ch7.size
      refine Wk.rCall 3 (some 25) 13 [.tmp 22, .tmp 24] #[22, 29] [.slice AA1 n nn1, .slice (some ⟨W6.heap.size, 0, none⟩) 1 1] rfl rfl (by kernel_rfl) rfl (by kernel_rfl) (by kernel_rfl) ?_
      have ow5 := Mur.own8 (Wk.own_chg ow2.own ch5 (fun q e _ _ => trivial))
      have ow6 := Mur.own8 (Wk.own_chg ow5.own ch6 (fun q e _ _ => (Wk.off_blk (fun gz hgz => by have := ow3.lt gz hgz; have := ow2.lt q e; omega))))
      have ow7 := Mur.own8 (Wk.own_chg ow6.own ch7 (fun q e _ _ => trivial))
      have ow8 := Mur.own8 (Wk.own_chg ow4.own ch7 (fun q e _ _ => trivial))
      have hby1 := ow8.byt
      have kk6 := Wk.Chg.step kk5 ch6 (Wk.newOr_blk (fun g hg => by have := ow3.lt g hg; omega))
      have kk7 := Wk.Chg.step kk6 ch7 trivial
      refine (Tag_any s AA1 n nn1 ([⟨AA2, m, nn2, b⟩]) (some ⟨W6.heap.size, 0, none⟩) 1 1 W7 (HV.out.below (Wk.Chg.below0 kk7)) ow7.byt (by omega) ow7.nil (by omega) (Mur.segs_lit [⟨AA2, m, nn2, b⟩] 1 hb3 (Mur.ok_cons ⟨(show m ≤ nn2 by omega), ow8.nil, hby1, (show nn2 ≤ Go.maxLen by first | omega | (unfold Go.maxLen; omega))⟩ Mur.ok_nil) rfl) (by omega) (by show (b ++ []).length ≤ _; simp only [List.length_append, List.length_nil]; have hl0 := hby1.1; omega)).mono ?_
      rintro _ W8 ⟨dd1, hd1, hdl1, rfl, ch8⟩
      have zz8 := ch8.size
      refine ⟨_, rfl, ?_⟩
      refine Wk.rPure 4 (some 26) (.slice A n c) rfl rfl (by kernel_rfl) (by kernel_rfl) ?_
      refine Wk.rPure 5 (some 27) (.slice B m d) rfl rfl (by kernel_rfl) (by kernel_rfl) ?_
      refine Wk.rCall 6 (some 28) 14 [.tmp 26, .tmp 27] #[22, 22] [.slice A n c, .slice B m d] rfl rfl (by kernel_rfl) rfl (by kernel_rfl) (by kernel_rfl) ?_
      have kk8 := Wk.Chg.step kk7 ch8 trivial
      refine (Rtag_any s A n c b B m d W8 (Mur.byt_chg HBY.out kk8 (fun g off e hl => trivial)) (by omega) HA.out (by omega) (Mur.byt_chg HB2.out kk8 (fun g off e hl => trivial)) HA2.out (by omega)).mono ?_
      rintro _ W9 ⟨dd2, hd2, hdl2, rfl, ch9⟩
      have zz9 := ch9.size
      refine ⟨_, rfl, ?_⟩
      refine Wk.rPure 7 (some 29) (.bool true) rfl rfl (by kernel_rfl) (Mur.run_eql_true digT dd1 dd2 hdl1 (by rw [hd1.out, hd2.out, Mur.flat_one]) _ (.tmp 25) (.tmp 28) 25 rfl (by kernel_rfl) (by kernel_rfl)) ?_
      refine Wk.rPure 8 (some 30) (.bool true) rfl rfl (by kernel_rfl) (by kernel_rfl) ?_
      refine Wk.rPure 9 (some 31) (.slice AA1 n nn1) rfl rfl (by kernel_rfl) (by kernel_rfl) ?_
      have ow9 := Mur.own8 (Wk.own_chg ow7.own ch8 (fun q e _ _ => trivial))
      have ow10 := Mur.own8 (Wk.own_chg ow9.own ch9 (fun q e _ _ => trivial))
      refine Wk.rPure 10 (some 32) (.string (Mur.str s)) rfl rfl (by kernel_rfl) (Mur.run_str 22 9 (.tmp 31) 5 rfl Tryd.underlying22 Tryd.underlying5 Tryd.underlying9 AA1 n nn1 s (by kernel_rfl) ow10.byt) ?_
      refine Wk.rPure 11 (some 33) (.slice A n c) rfl rfl (by kernel_rfl) (by kernel_rfl) ?_
      have kk9 := Wk.Chg.step kk8 ch9 trivial
      refine Wk.rPure 12 (some 34) (.string (Mur.str s)) rfl rfl (by kernel_rfl) (Mur.run_str 22 9 (.tmp 33) 5 rfl Tryd.underlying22 Tryd.underlying5 Tryd.underlying9 A n c s (by kernel_rfl) (Mur.byt_chg HBY.out kk9 (fun g off e hl => trivial))) ?_
      refine Wk.rPure 13 (some 35) (.bool true) rfl rfl (by kernel_rfl) (Wk.boolT (b := decide (s = s)) (decide_eq_true (rfl)) (Mur.streq 9 9 (.tmp 32) (.tmp 34) rfl s s (by kernel_rfl) (by kernel_rfl))) ?_
      refine Wk.rPure 14 (some 36) (.bool true) rfl rfl (by kernel_rfl) (by kernel_rfl) ?_
      refine Wk.rPure 15 (some 37) (.bool true) rfl rfl (by kernel_rfl) (by kernel_rfl) ?_
      refine Wk.rPure 16 (some 38) (.slice AA2 m nn2) rfl rfl (by kernel_rfl) (by kernel_rfl) ?_
      have ow11 := Mur.own8 (Wk.own_chg ow8.own ch8 (fun q e _ _ => trivial))
      have ow12 := Mur.own8 (Wk.own_chg ow11.own ch9 (fun q e _ _ => trivial))
      refine Wk.rPure 17 (some 39) (.string (Mur.str b)) rfl rfl (by kernel_rfl) (Mur.run_str 22 9 (.tmp 38) 5 rfl Tryd.underlying22 Tryd.underlying5 Tryd.underlying9 AA2 m nn2 b (by kernel_rfl) ow12.byt) ?_
      refine Wk.rPure 18 (some 40) (.slice B m d) rfl rfl (by kernel_rfl) (by kernel_rfl) ?_
      refine Wk.rPure 19 (some 41) (.string (Mur.str b)) rfl rfl (by kernel_rfl) (Mur.run_str 22 9 (.tmp 40) 5 rfl Tryd.underlying22 Tryd.underlying5 Tryd.underlying9 B m d b (by kernel_rfl) (Mur.byt_chg HB2.out kk9 (fun g off e hl => trivial))) ?_
      refine Wk.rPure 20 (some 42) (.bool true) rfl rfl (by kernel_rfl) (Wk.boolT (b := decide (b = b)) (decide_eq_true (rfl)) (Mur.streq 9 9 (.tmp 39) (.tmp 41) rfl b b (by kernel_rfl) (by kernel_rfl))) ?_
      refine Wk.rPure 21 (some 43) (.bool true) rfl rfl (by kernel_rfl) (by kernel_rfl) ?_
      refine Wk.rPure 22 (some 44) (.bool true) rfl rfl (by kernel_rfl) (by kernel_rfl) ?_
      refine Wk.rCall 23 (some 45) 12 [] #[] [] rfl rfl (by kernel_rfl) rfl (by kernel_rfl) (by kernel_rfl) ?_
      refine (known_any W9 (HV.out.below (Wk.Chg.below0 kk9))).mono ?_
      rintro _ W10 ⟨rfl, ch10⟩
      have zz10 := ch10.size
      refine ⟨_, rfl, ?_⟩
      refine Wk.rPure 24 (some 46) (.bool true) rfl rfl (by kernel_rfl) (by kernel_rfl) ?_
      refine Wk.rPure 25 (some 4) (.bool true) rfl rfl (by kernel_rfl) (by kernel_rfl) ?_
      refine Wk.rEnd 26 rfl ?_
      refine Wk.nxt ?_
      refine wp_ret ?_
      have kk10 := Wk.Chg.step kk9 ch10 trivial
      refine Wk.ret (.bool true) rfl (by kernel_rfl) ?_
      exact ⟨rfl, Wk.Chg.below0 kk10⟩
end Go.Proofs.YtljfjjofhclhiaaDoor
