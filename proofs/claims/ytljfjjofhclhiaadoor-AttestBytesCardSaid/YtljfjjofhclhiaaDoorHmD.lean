/- A known tag, walked. -/
import Derived.Test.YtljfjjofhclhiaaDoorHmK
namespace Go.Proofs.YtljfjjofhclhiaaDoor
open Go.RowKit
open Mur (b8s Byt Own8 Seg Segs flat cutA)
set_option maxRecDepth 100000
set_option maxHeartbeats 4000000
def Known_T2_1 (b : Array Value) (u4 : Value) (u6 : Value) (u8 : Value) (u11 : Value) : Act := ⟨#[b.getD 0 undef, b.getD 1 undef, b.getD 2 undef, b.getD 3 undef, u4, b.getD 5 undef, u6, b.getD 7 undef, u8, b.getD 9 undef, b.getD 10 undef, u11, b.getD 12 undef], []⟩
def Known_T2_2 (b : Array Value) (u5 : Value) (u8 : Value) (u11 : Value) : Act := ⟨#[b.getD 0 undef, b.getD 1 undef, b.getD 2 undef, b.getD 3 undef, b.getD 4 undef, u5, b.getD 6 undef, b.getD 7 undef, u8, b.getD 9 undef, b.getD 10 undef, u11, b.getD 12 undef], []⟩
def Known_T2_3 (b : Array Value) (u6 : Value) (u7 : Value) (u11 : Value) : Act := ⟨#[b.getD 0 undef, b.getD 1 undef, b.getD 2 undef, b.getD 3 undef, b.getD 4 undef, b.getD 5 undef, u6, u7, b.getD 8 undef, b.getD 9 undef, b.getD 10 undef, u11, b.getD 12 undef], []⟩
def Known_T2_4 (b : Array Value) (u3 : Value) (u8 : Value) (u11 : Value) : Act := ⟨#[b.getD 0 undef, b.getD 1 undef, b.getD 2 undef, u3, b.getD 4 undef, b.getD 5 undef, b.getD 6 undef, b.getD 7 undef, u8, b.getD 9 undef, b.getD 10 undef, u11, b.getD 12 undef], []⟩
def Known_T2_5 (b : Array Value) (u3 : Value) (u5 : Value) (u7 : Value) (u11 : Value) : Act := ⟨#[b.getD 0 undef, b.getD 1 undef, b.getD 2 undef, u3, b.getD 4 undef, u5, b.getD 6 undef, u7, b.getD 8 undef, b.getD 9 undef, b.getD 10 undef, u11, b.getD 12 undef], []⟩
def Known_T2_6 (b : Array Value) (u3 : Value) (u6 : Value) (u11 : Value) : Act := ⟨#[b.getD 0 undef, b.getD 1 undef, b.getD 2 undef, u3, b.getD 4 undef, b.getD 5 undef, u6, b.getD 7 undef, b.getD 8 undef, b.getD 9 undef, b.getD 10 undef, u11, b.getD 12 undef], []⟩
def Known_T2_7 (b : Array Value) (u4 : Value) (u7 : Value) (u11 : Value) : Act := ⟨#[b.getD 0 undef, b.getD 1 undef, b.getD 2 undef, b.getD 3 undef, u4, b.getD 5 undef, b.getD 6 undef, u7, b.getD 8 undef, b.getD 9 undef, b.getD 10 undef, u11, b.getD 12 undef], []⟩
def Known_T2_8 (b : Array Value) (u4 : Value) (u5 : Value) (u11 : Value) : Act := ⟨#[b.getD 0 undef, b.getD 1 undef, b.getD 2 undef, b.getD 3 undef, u4, u5, b.getD 6 undef, b.getD 7 undef, b.getD 8 undef, b.getD 9 undef, b.getD 10 undef, u11, b.getD 12 undef], []⟩
theorem known_any (w : World) (hv : ShaVars w) : Calls Tryd.prog 12 #[] w fun e w' => e = .returned (.bool true) ∧ Wk.Chg [] w w' := by
  have HV := Go.Lib.hid hv
  clear hv
  refine calls_of_wp Tryd.func12 rfl ?_
  refine wp_seq ?_
  refine Wk.reg ?_
  refine Wk.rPure 0 (some 0) (.bool false) rfl rfl (by kernel_rfl) (by kernel_rfl) ?_
  refine Wk.rEnd 1 rfl ?_
  refine Wk.nxt ?_
  refine wp_seq ?_
  refine Wk.reg ?_
  refine Wk.rPure 0 (some 2) (.agg #[.int .u8 91, .int .u8 220, .int .u8 193, .int .u8 70, .int .u8 191, .int .u8 96, .int .u8 117, .int .u8 78, .int .u8 106, .int .u8 4, .int .u8 36, .int .u8 38, .int .u8 8, .int .u8 149, .int .u8 117, .int .u8 199, .int .u8 90, .int .u8 0, .int .u8 63, .int .u8 8, .int .u8 157, .int .u8 39, .int .u8 57, .int .u8 131, .int .u8 157, .int .u8 236, .int .u8 88, .int .u8 185, .int .u8 100, .int .u8 236, .int .u8 56, .int .u8 67]) rfl rfl (by kernel_rfl) (by kernel_rfl) ?_
  refine Wk.rEx 1 (some 1) _ rfl rfl (by kernel_rfl) (Wk.new_ex (.pointer (some ⟨w.heap.size, 0, none⟩)) #[.int .u8 0, .int .u8 0, .int .u8 0, .int .u8 0, .int .u8 0, .int .u8 0, .int .u8 0, .int .u8 0, .int .u8 0, .int .u8 0, .int .u8 0, .int .u8 0, .int .u8 0, .int .u8 0, .int .u8 0, .int .u8 0, .int .u8 0, .int .u8 0, .int .u8 0, .int .u8 0, .int .u8 0, .int .u8 0, .int .u8 0, .int .u8 0, .int .u8 0, .int .u8 0, .int .u8 0, .int .u8 0, .int .u8 0, .int .u8 0, .int .u8 0, .int .u8 0] 25 (by kernel_rfl)) ?_
  rintro _ W1 ⟨rfl, hb1, ch1, sz1⟩
  have zz1 := ch1.size
  refine Wk.rExS 2 none _ rfl rfl (by kernel_rfl) (Wk.storeR 25 (.tmp 1) (.tmp 2) rfl w.heap.size 0 (by kernel_rfl) ([.int .u8 91, .int .u8 220, .int .u8 193, .int .u8 70, .int .u8 191, .int .u8 96, .int .u8 117, .int .u8 78, .int .u8 106, .int .u8 4, .int .u8 36, .int .u8 38, .int .u8 8, .int .u8 149, .int .u8 117, .int .u8 199, .int .u8 90, .int .u8 0, .int .u8 63, .int .u8 8, .int .u8 157, .int .u8 39, .int .u8 57, .int .u8 131, .int .u8 157, .int .u8 236, .int .u8 88, .int .u8 185, .int .u8 100, .int .u8 236, .int .u8 56, .int .u8 67]) (by kernel_rfl) (by kernel_rfl) (by intro v hv; simp at hv; rcases hv with h | h | h | h | h | h | h | h | h | h | h | h | h | h | h | h | h | h | h | h | h | h | h | h | h | h | h | h | h | h | h | h <;> (subst h; rfl)) 25 ([.int .u8 0, .int .u8 0, .int .u8 0, .int .u8 0, .int .u8 0, .int .u8 0, .int .u8 0, .int .u8 0, .int .u8 0, .int .u8 0, .int .u8 0, .int .u8 0, .int .u8 0, .int .u8 0, .int .u8 0, .int .u8 0, .int .u8 0, .int .u8 0, .int .u8 0, .int .u8 0, .int .u8 0, .int .u8 0, .int .u8 0, .int .u8 0, .int .u8 0, .int .u8 0, .int .u8 0, .int .u8 0, .int .u8 0, .int .u8 0, .int .u8 0, .int .u8 0]) hb1 (by simp)) ?_
  rintro W2 ⟨hb2, ch2⟩
  replace hb2 : W2.heap[w.heap.size]? = some (.cells #[.int .u8 91, .int .u8 220, .int .u8 193, .int .u8 70, .int .u8 191, .int .u8 96, .int .u8 117, .int .u8 78, .int .u8 106, .int .u8 4, .int .u8 36, .int .u8 38, .int .u8 8, .int .u8 149, .int .u8 117, .int .u8 199, .int .u8 90, .int .u8 0, .int .u8 63, .int .u8 8, .int .u8 157, .int .u8 39, .int .u8 57, .int .u8 131, .int .u8 157, .int .u8 236, .int .u8 88, .int .u8 185, .int .u8 100, .int .u8 236, .int .u8 56, .int .u8 67] 25 (0, 0)) := hb2
  have zz2 := ch2.size
  refine Wk.rEnd 3 rfl ?_
  refine Wk.nxt ?_
  refine wp_seq ?_
  refine Wk.dReg ([]) (by kernel_rfl) ?_
  intro W3 ch3 sz2
  have zz3 := ch3.size
  have sS1 : Wk.Chg ([]) W3 W3 := (Wk.Chg.refl _).more (by simp)
  refine Wk.dTail 4 #[true, true, true, true, true, true, false, false, true, false, false] (fun a wt => ∃ (g4 : Nat) (g6 : Nat) (g8 : Nat), a = Known_T2_1 a.tmps (.slice (some ⟨g4, 0, none⟩) 4 4) (.slice (some ⟨g6, 0, none⟩) 16 16) (.slice (some ⟨g8, 0, none⟩) 12 12) (.agg #[.int .u8 91, .int .u8 220, .int .u8 193, .int .u8 70, .int .u8 191, .int .u8 96, .int .u8 117, .int .u8 78, .int .u8 106, .int .u8 4, .int .u8 36, .int .u8 38, .int .u8 8, .int .u8 149, .int .u8 117, .int .u8 199, .int .u8 90, .int .u8 0, .int .u8 63, .int .u8 8, .int .u8 157, .int .u8 39, .int .u8 57, .int .u8 131, .int .u8 157, .int .u8 236, .int .u8 88, .int .u8 185, .int .u8 100, .int .u8 236, .int .u8 56, .int .u8 67]) ∧ wt.heap[g4]? = some (.cells #[.int .u8 74, .int .u8 101, .int .u8 102, .int .u8 101] 5 (4, 5)) ∧ wt.heap[g6]? = some (.cells #[.int .u8 119, .int .u8 104, .int .u8 97, .int .u8 116, .int .u8 32, .int .u8 100, .int .u8 111, .int .u8 32, .int .u8 121, .int .u8 97, .int .u8 32, .int .u8 119, .int .u8 97, .int .u8 110, .int .u8 116, .int .u8 32] 5 (16, 17)) ∧ wt.heap[g8]? = some (.cells #[.int .u8 102, .int .u8 111, .int .u8 114, .int .u8 32, .int .u8 110, .int .u8 111, .int .u8 116, .int .u8 104, .int .u8 105, .int .u8 110, .int .u8 103, .int .u8 63] 5 (12, 13))) ?_ ?_
  · rintro _ aa1 W4 rfl ⟨g4, g6, g8, hF1, ht4, ht6, ht8⟩ sS2
    generalize aa1.tmps = bb1 at hF1
    subst hF1
    have zz4 := sS2.size
    have htl4 := (Array.getElem?_eq_some_iff.1 ht4).1
    have htl6 := (Array.getElem?_eq_some_iff.1 ht6).1
    have htl8 := (Array.getElem?_eq_some_iff.1 ht8).1
    refine Wk.dOp 6 (by kernel_rfl) ?_
    refine Wk.oEx (some 9) _ rfl rfl (by kernel_rfl) (Wk.new_ex (.slice (some ⟨W4.heap.size, 0, none⟩) 2 2) #[.slice (some ⟨g6, 0, none⟩) 16 16, .slice (some ⟨g8, 0, none⟩) 12 12] 22 (by kernel_rfl)) ?_
    rintro _ W5 ⟨rfl, hb3, ch4, sz3⟩
    have zz5 := ch4.size
    have sS3 := Wk.Chg.step sS2 ch4 trivial
    refine ⟨sS3, ?_⟩
    refine Wk.dOp 7 (by kernel_rfl) ?_
    refine Wk.oCall (some 10) 13 [.tmp 4, .tmp 9] #[22, 29] [.slice (some ⟨g4, 0, none⟩) 4 4, .slice (some ⟨W4.heap.size, 0, none⟩) 2 2] rfl rfl (by kernel_rfl) rfl (by kernel_rfl) (by kernel_rfl) ?_
    have hby1 := (Mur.byt_row [119, 104, 97, 116, 32, 100, 111, 32, 121, 97, 32, 119, 97, 110, 116, 32] (Wk.Chg.hp ch4 ht6 trivial))
    have hby2 := (Mur.byt_row [102, 111, 114, 32, 110, 111, 116, 104, 105, 110, 103, 63] (Wk.Chg.hp ch4 ht8 trivial))
    have kk1 : Wk.Chg [] w W1 := Wk.Chg.step ((Wk.Chg.refl _).more (by simp)) ch1 trivial
    have kk2 := Wk.Chg.step kk1 ch2 ⟨.inr (by omega), trivial⟩
    have kk3 := Wk.Chg.step kk2 ch3 trivial
    have kk4 := Wk.Chg.step kk3 sS2 trivial
    have kk5 := Wk.Chg.step kk4 ch4 trivial
    refine (Tag_any ([74, 101, 102, 101]) (some ⟨g4, 0, none⟩) 4 4 ([⟨(some ⟨g6, 0, none⟩), 16, 16, ([119, 104, 97, 116, 32, 100, 111, 32, 121, 97, 32, 119, 97, 110, 116, 32])⟩, ⟨(some ⟨g8, 0, none⟩), 12, 12, ([102, 111, 114, 32, 110, 111, 116, 104, 105, 110, 103, 63])⟩]) (some ⟨W4.heap.size, 0, none⟩) 2 2 W5 (HV.out.below (Wk.Chg.below0 kk5)) (Mur.byt_row [74, 101, 102, 101] (Wk.Chg.hp ch4 ht4 trivial)) (by omega) (fun h => by cases h) (by omega) (Mur.segs_lit [⟨(some ⟨g6, 0, none⟩), 16, 16, ([119, 104, 97, 116, 32, 100, 111, 32, 121, 97, 32, 119, 97, 110, 116, 32])⟩, ⟨(some ⟨g8, 0, none⟩), 12, 12, ([102, 111, 114, 32, 110, 111, 116, 104, 105, 110, 103, 63])⟩] 2 hb3 (Mur.ok_cons ⟨(show 16 ≤ 16 by omega), (fun h => by cases h), hby1, (show 16 ≤ Go.maxLen by first | omega | (unfold Go.maxLen; omega))⟩ (Mur.ok_cons ⟨(show 12 ≤ 12 by omega), (fun h => by cases h), hby2, (show 12 ≤ Go.maxLen by first | omega | (unfold Go.maxLen; omega))⟩ Mur.ok_nil)) rfl) (by omega) (by show (([119, 104, 97, 116, 32, 100, 111, 32, 121, 97, 32, 119, 97, 110, 116, 32]) ++ (([102, 111, 114, 32, 110, 111, 116, 104, 105, 110, 103, 63]) ++ [])).length ≤ _; simp only [List.length_append, List.length_nil, List.length_cons]; have hl0 := hby1.1; have hl1 := hby2.1; omega)).mono ?_
    rintro _ W6 ⟨dd1, hd1, hdl1, rfl, ch5⟩
    have zz6 := ch5.size
    have sS4 := Wk.Chg.step sS3 ch5 trivial
    refine ⟨_, rfl, sS4, ?_⟩
    refine Wk.dVal 9 (some 12) (.bool true) rfl rfl (by kernel_rfl) (by kernel_rfl) (by kernel_rfl) (fun _ _ _ h => h) (by kernel_rfl) (fun w' hw' => (Mur.run_eql_true digT dd1 Mur.jefe hdl1 ((hd1.out.trans Mur.hmac_jefe)) w' (.tmp 10) (.tmp 11) 25 rfl (by kernel_rfl) (by kernel_rfl))) sS4 ?_
    refine Wk.dVal 10 (some 0) (.bool true) rfl rfl (by kernel_rfl) (by kernel_rfl) (by kernel_rfl) (fun _ _ _ h => h) (by kernel_rfl) (fun w' hw' => by kernel_rfl) sS4 ?_
    refine Wk.dEnd (by kernel_rfl) ?_
    refine Wk.nxt ?_
    refine wp_ret ?_
    have kk6 := Wk.Chg.step kk5 ch5 trivial
    refine Wk.ret (.bool true) rfl (by kernel_rfl) ?_
    exact ⟨rfl, kk6⟩
  · intro tail1
    refine Wk.dTail 7 #[false, false, true, false, true, true, false, false, true, false, false] (fun a wt => ∃ (g6 : Nat) (g8 : Nat), a = Known_T2_2 a.tmps (.slice (some ⟨g6, 0, none⟩) 16 16) (.slice (some ⟨g8, 0, none⟩) 12 12) (.agg #[.int .u8 91, .int .u8 220, .int .u8 193, .int .u8 70, .int .u8 191, .int .u8 96, .int .u8 117, .int .u8 78, .int .u8 106, .int .u8 4, .int .u8 36, .int .u8 38, .int .u8 8, .int .u8 149, .int .u8 117, .int .u8 199, .int .u8 90, .int .u8 0, .int .u8 63, .int .u8 8, .int .u8 157, .int .u8 39, .int .u8 57, .int .u8 131, .int .u8 157, .int .u8 236, .int .u8 88, .int .u8 185, .int .u8 100, .int .u8 236, .int .u8 56, .int .u8 67]) ∧ wt.heap[g6]? = some (.cells #[.int .u8 119, .int .u8 104, .int .u8 97, .int .u8 116, .int .u8 32, .int .u8 100, .int .u8 111, .int .u8 32, .int .u8 121, .int .u8 97, .int .u8 32, .int .u8 119, .int .u8 97, .int .u8 110, .int .u8 116, .int .u8 32] 5 (0, 0)) ∧ wt.heap[g8]? = some (.cells #[.int .u8 102, .int .u8 111, .int .u8 114, .int .u8 32, .int .u8 110, .int .u8 111, .int .u8 116, .int .u8 104, .int .u8 105, .int .u8 110, .int .u8 103, .int .u8 63] 5 (12, 13)) ∧ W3.heap.size ≤ g6 ∧ W3.heap.size ≤ g8 ∧ g8 ≠ g6) ?_ ?_
    · rintro _ aa2 W7 rfl ⟨g6, g8, hF2, ht6, ht8, hkf⟩ sS5
      generalize aa2.tmps = bb2 at hF2
      subst hF2
      have zz7 := sS5.size
      have htl6 := (Array.getElem?_eq_some_iff.1 ht6).1
      have htl8 := (Array.getElem?_eq_some_iff.1 ht8).1
      refine Wk.dOp2 0 3 (by kernel_rfl) ?_ ?_
      · refine Wk.oEx (some 3) _ rfl rfl (by kernel_rfl) (Wk.new_ex (.slice (some ⟨W7.heap.size, 0, none⟩) 4 4) #[.int .u8 74, .int .u8 101, .int .u8 102, .int .u8 101] 5 (by kernel_rfl)) ?_
        rintro _ W8 ⟨rfl, hb4, ch6, sz4⟩
        have zz8 := ch6.size
        have sS6 := Wk.Chg.step sS5 ch6 trivial
        refine ⟨sS6, ?_⟩
        refine Wk.dOp2 1 3 (by kernel_rfl) ?_ ?_
        · refine Wk.oEx (some 4) _ rfl rfl (by kernel_rfl) (Mur.run_mark 22 (.tmp 3) 5 rfl Tryd.underlying22 Tryd.underlying5 W7.heap.size 4 4 #[.int .u8 74, .int .u8 101, .int .u8 102, .int .u8 101] (by kernel_rfl) hb4) ?_
          rintro _ W9 ⟨rfl, hb5, ch7⟩
          have zz9 := ch7.size
          have sS7 := Wk.Chg.step sS6 ch7 ⟨.inr (by omega), trivial⟩
          refine ⟨sS7, ?_⟩
          refine Wk.dOp 3 (by kernel_rfl) ?_
          refine Wk.oEx (some 6) _ rfl rfl (by kernel_rfl) (Mur.run_mark 22 (.tmp 5) 5 rfl Tryd.underlying22 Tryd.underlying5 g6 16 16 #[.int .u8 119, .int .u8 104, .int .u8 97, .int .u8 116, .int .u8 32, .int .u8 100, .int .u8 111, .int .u8 32, .int .u8 121, .int .u8 97, .int .u8 32, .int .u8 119, .int .u8 97, .int .u8 110, .int .u8 116, .int .u8 32] (by kernel_rfl) (Wk.Chg.hp ch7 (Wk.Chg.hp ch6 ht6 trivial) ⟨by omega, trivial⟩)) ?_
          rintro _ W10 ⟨rfl, hb6, ch8⟩
          have zz10 := ch8.size
          have sS8 := Wk.Chg.step sS7 ch8 ⟨.inr (by omega), trivial⟩
          refine ⟨sS8, ?_⟩
          exact tail1 _ _ _ (by kernel_rfl) ⟨W7.heap.size, g6, g8, by kernel_rfl, (Wk.Chg.hp ch8 hb5 ⟨by omega, trivial⟩), hb6, (Wk.Chg.hp ch8 (Wk.Chg.hp ch7 (Wk.Chg.hp ch6 ht8 trivial) ⟨by omega, trivial⟩) ⟨by omega, trivial⟩)⟩ sS8
        · refine Wk.oEx (some 6) _ rfl rfl (by kernel_rfl) (Mur.run_mark 22 (.tmp 5) 5 rfl Tryd.underlying22 Tryd.underlying5 g6 16 16 #[.int .u8 119, .int .u8 104, .int .u8 97, .int .u8 116, .int .u8 32, .int .u8 100, .int .u8 111, .int .u8 32, .int .u8 121, .int .u8 97, .int .u8 32, .int .u8 119, .int .u8 97, .int .u8 110, .int .u8 116, .int .u8 32] (by kernel_rfl) (Wk.Chg.hp ch6 ht6 trivial)) ?_
          rintro _ W11 ⟨rfl, hb7, ch9⟩
          have zz11 := ch9.size
          have sS9 := Wk.Chg.step sS6 ch9 ⟨.inr (by omega), trivial⟩
          refine ⟨sS9, ?_⟩
          refine Wk.dOp2 1 6 (by kernel_rfl) ?_ ?_
          · refine Wk.oEx (some 4) _ rfl rfl (by kernel_rfl) (Mur.run_mark 22 (.tmp 3) 5 rfl Tryd.underlying22 Tryd.underlying5 W7.heap.size 4 4 #[.int .u8 74, .int .u8 101, .int .u8 102, .int .u8 101] (by kernel_rfl) (Wk.Chg.hp ch9 hb4 ⟨by omega, trivial⟩)) ?_
            rintro _ W12 ⟨rfl, hb8, ch10⟩
            have zz12 := ch10.size
            have sS10 := Wk.Chg.step sS9 ch10 ⟨.inr (by omega), trivial⟩
            refine ⟨sS10, ?_⟩
            exact tail1 _ _ _ (by kernel_rfl) ⟨W7.heap.size, g6, g8, by kernel_rfl, hb8, (Wk.Chg.hp ch10 hb7 ⟨by omega, trivial⟩), (Wk.Chg.hp ch10 (Wk.Chg.hp ch9 (Wk.Chg.hp ch6 ht8 trivial) ⟨by omega, trivial⟩) ⟨by omega, trivial⟩)⟩ sS10
          · refine Wk.oEx (some 9) _ rfl rfl (by kernel_rfl) (Wk.new_ex (.slice (some ⟨W11.heap.size, 0, none⟩) 2 2) #[.slice (some ⟨g6, 0, none⟩) 16 16, .slice (some ⟨g8, 0, none⟩) 12 12] 22 (by kernel_rfl)) ?_
            rintro _ W13 ⟨rfl, hb9, ch11, sz5⟩
            have zz13 := ch11.size
            have sS11 := Wk.Chg.step sS9 ch11 trivial
            refine ⟨sS11, ?_⟩
            refine Wk.dOp 1 (by kernel_rfl) ?_
            refine Wk.oEx (some 4) _ rfl rfl (by kernel_rfl) (Mur.run_mark 22 (.tmp 3) 5 rfl Tryd.underlying22 Tryd.underlying5 W7.heap.size 4 4 #[.int .u8 74, .int .u8 101, .int .u8 102, .int .u8 101] (by kernel_rfl) (Wk.Chg.hp ch11 (Wk.Chg.hp ch9 hb4 ⟨by omega, trivial⟩) trivial)) ?_
            rintro _ W14 ⟨rfl, hb10, ch12⟩
            have zz14 := ch12.size
            have sS12 := Wk.Chg.step sS11 ch12 ⟨.inr (by omega), trivial⟩
            refine ⟨sS12, ?_⟩
            refine Wk.dOp 7 (by kernel_rfl) ?_
            refine Wk.oCall (some 10) 13 [.tmp 4, .tmp 9] #[22, 29] [.slice (some ⟨W7.heap.size, 0, none⟩) 4 4, .slice (some ⟨W11.heap.size, 0, none⟩) 2 2] rfl rfl (by kernel_rfl) rfl (by kernel_rfl) (by kernel_rfl) ?_
            have hby3 := (Mur.byt_row [119, 104, 97, 116, 32, 100, 111, 32, 121, 97, 32, 119, 97, 110, 116, 32] (Wk.Chg.hp ch12 (Wk.Chg.hp ch11 hb7 trivial) ⟨by omega, trivial⟩))
            have hby4 := (Mur.byt_row [102, 111, 114, 32, 110, 111, 116, 104, 105, 110, 103, 63] (Wk.Chg.hp ch12 (Wk.Chg.hp ch11 (Wk.Chg.hp ch9 (Wk.Chg.hp ch6 ht8 trivial) ⟨by omega, trivial⟩) trivial) ⟨by omega, trivial⟩))
            have kk7 : Wk.Chg [] w W1 := Wk.Chg.step ((Wk.Chg.refl _).more (by simp)) ch1 trivial
            have kk8 := Wk.Chg.step kk7 ch2 ⟨.inr (by omega), trivial⟩
            have kk9 := Wk.Chg.step kk8 ch3 trivial
            have kk10 := Wk.Chg.step kk9 sS5 trivial
            have kk11 := Wk.Chg.step kk10 ch6 trivial
            have kk12 := Wk.Chg.step kk11 ch9 ⟨.inr (by omega), trivial⟩
            have kk13 := Wk.Chg.step kk12 ch11 trivial
            have kk14 := Wk.Chg.step kk13 ch12 ⟨.inr (by omega), trivial⟩
            refine (Tag_any ([74, 101, 102, 101]) (some ⟨W7.heap.size, 0, none⟩) 4 4 ([⟨(some ⟨g6, 0, none⟩), 16, 16, ([119, 104, 97, 116, 32, 100, 111, 32, 121, 97, 32, 119, 97, 110, 116, 32])⟩, ⟨(some ⟨g8, 0, none⟩), 12, 12, ([102, 111, 114, 32, 110, 111, 116, 104, 105, 110, 103, 63])⟩]) (some ⟨W11.heap.size, 0, none⟩) 2 2 W14 (HV.out.below (Wk.Chg.below0 kk14)) (Mur.byt_row [74, 101, 102, 101] hb10) (by omega) (fun h => by cases h) (by omega) (Mur.segs_lit [⟨(some ⟨g6, 0, none⟩), 16, 16, ([119, 104, 97, 116, 32, 100, 111, 32, 121, 97, 32, 119, 97, 110, 116, 32])⟩, ⟨(some ⟨g8, 0, none⟩), 12, 12, ([102, 111, 114, 32, 110, 111, 116, 104, 105, 110, 103, 63])⟩] 2 (Wk.Chg.hp ch12 hb9 ⟨by omega, trivial⟩) (Mur.ok_cons ⟨(show 16 ≤ 16 by omega), (fun h => by cases h), hby3, (show 16 ≤ Go.maxLen by first | omega | (unfold Go.maxLen; omega))⟩ (Mur.ok_cons ⟨(show 12 ≤ 12 by omega), (fun h => by cases h), hby4, (show 12 ≤ Go.maxLen by first | omega | (unfold Go.maxLen; omega))⟩ Mur.ok_nil)) rfl) (by omega) (by show (([119, 104, 97, 116, 32, 100, 111, 32, 121, 97, 32, 119, 97, 110, 116, 32]) ++ (([102, 111, 114, 32, 110, 111, 116, 104, 105, 110, 103, 63]) ++ [])).length ≤ _; simp only [List.length_append, List.length_nil, List.length_cons]; have hl0 := hby3.1; have hl1 := hby4.1; omega)).mono ?_
            rintro _ W15 ⟨dd2, hd2, hdl2, rfl, ch13⟩
            have zz15 := ch13.size
            have sS13 := Wk.Chg.step sS12 ch13 trivial
            refine ⟨_, rfl, sS13, ?_⟩
            refine Wk.dVal 9 (some 12) (.bool true) rfl rfl (by kernel_rfl) (by kernel_rfl) (by kernel_rfl) (fun _ _ _ h => h) (by kernel_rfl) (fun w' hw' => (Mur.run_eql_true digT dd2 Mur.jefe hdl2 ((hd2.out.trans Mur.hmac_jefe)) w' (.tmp 10) (.tmp 11) 25 rfl (by kernel_rfl) (by kernel_rfl))) sS13 ?_
            refine Wk.dVal 10 (some 0) (.bool true) rfl rfl (by kernel_rfl) (by kernel_rfl) (by kernel_rfl) (fun _ _ _ h => h) (by kernel_rfl) (fun w' hw' => by kernel_rfl) sS13 ?_
            refine Wk.dEnd (by kernel_rfl) ?_
            refine Wk.nxt ?_
            refine wp_ret ?_
            have kk15 := Wk.Chg.step kk14 ch13 trivial
            refine Wk.ret (.bool true) rfl (by kernel_rfl) ?_
            exact ⟨rfl, kk15⟩
      · refine Wk.oEx (some 6) _ rfl rfl (by kernel_rfl) (Mur.run_mark 22 (.tmp 5) 5 rfl Tryd.underlying22 Tryd.underlying5 g6 16 16 #[.int .u8 119, .int .u8 104, .int .u8 97, .int .u8 116, .int .u8 32, .int .u8 100, .int .u8 111, .int .u8 32, .int .u8 121, .int .u8 97, .int .u8 32, .int .u8 119, .int .u8 97, .int .u8 110, .int .u8 116, .int .u8 32] (by kernel_rfl) ht6) ?_
        rintro _ W16 ⟨rfl, hb11, ch14⟩
        have zz16 := ch14.size
        have sS14 := Wk.Chg.step sS5 ch14 ⟨.inr (by omega), trivial⟩
        refine ⟨sS14, ?_⟩
        refine Wk.dOp2 0 6 (by kernel_rfl) ?_ ?_
        · refine Wk.oEx (some 3) _ rfl rfl (by kernel_rfl) (Wk.new_ex (.slice (some ⟨W16.heap.size, 0, none⟩) 4 4) #[.int .u8 74, .int .u8 101, .int .u8 102, .int .u8 101] 5 (by kernel_rfl)) ?_
          rintro _ W17 ⟨rfl, hb12, ch15, sz6⟩
          have zz17 := ch15.size
          have sS15 := Wk.Chg.step sS14 ch15 trivial
          refine ⟨sS15, ?_⟩
          refine Wk.dOp2 1 6 (by kernel_rfl) ?_ ?_
          · refine Wk.oEx (some 4) _ rfl rfl (by kernel_rfl) (Mur.run_mark 22 (.tmp 3) 5 rfl Tryd.underlying22 Tryd.underlying5 W16.heap.size 4 4 #[.int .u8 74, .int .u8 101, .int .u8 102, .int .u8 101] (by kernel_rfl) hb12) ?_
            rintro _ W18 ⟨rfl, hb13, ch16⟩
            have zz18 := ch16.size
            have sS16 := Wk.Chg.step sS15 ch16 ⟨.inr (by omega), trivial⟩
            refine ⟨sS16, ?_⟩
            exact tail1 _ _ _ (by kernel_rfl) ⟨W16.heap.size, g6, g8, by kernel_rfl, hb13, (Wk.Chg.hp ch16 (Wk.Chg.hp ch15 hb11 trivial) ⟨by omega, trivial⟩), (Wk.Chg.hp ch16 (Wk.Chg.hp ch15 (Wk.Chg.hp ch14 ht8 ⟨by omega, trivial⟩) trivial) ⟨by omega, trivial⟩)⟩ sS16
          · refine Wk.oEx (some 9) _ rfl rfl (by kernel_rfl) (Wk.new_ex (.slice (some ⟨W17.heap.size, 0, none⟩) 2 2) #[.slice (some ⟨g6, 0, none⟩) 16 16, .slice (some ⟨g8, 0, none⟩) 12 12] 22 (by kernel_rfl)) ?_
            rintro _ W19 ⟨rfl, hb14, ch17, sz7⟩
            have zz19 := ch17.size
            have sS17 := Wk.Chg.step sS15 ch17 trivial
            refine ⟨sS17, ?_⟩
            refine Wk.dOp 1 (by kernel_rfl) ?_
            refine Wk.oEx (some 4) _ rfl rfl (by kernel_rfl) (Mur.run_mark 22 (.tmp 3) 5 rfl Tryd.underlying22 Tryd.underlying5 W16.heap.size 4 4 #[.int .u8 74, .int .u8 101, .int .u8 102, .int .u8 101] (by kernel_rfl) (Wk.Chg.hp ch17 hb12 trivial)) ?_
            rintro _ W20 ⟨rfl, hb15, ch18⟩
            have zz20 := ch18.size
            have sS18 := Wk.Chg.step sS17 ch18 ⟨.inr (by omega), trivial⟩
            refine ⟨sS18, ?_⟩
            refine Wk.dOp 7 (by kernel_rfl) ?_
            refine Wk.oCall (some 10) 13 [.tmp 4, .tmp 9] #[22, 29] [.slice (some ⟨W16.heap.size, 0, none⟩) 4 4, .slice (some ⟨W17.heap.size, 0, none⟩) 2 2] rfl rfl (by kernel_rfl) rfl (by kernel_rfl) (by kernel_rfl) ?_
            have hby5 := (Mur.byt_row [119, 104, 97, 116, 32, 100, 111, 32, 121, 97, 32, 119, 97, 110, 116, 32] (Wk.Chg.hp ch18 (Wk.Chg.hp ch17 (Wk.Chg.hp ch15 hb11 trivial) trivial) ⟨by omega, trivial⟩))
            have hby6 := (Mur.byt_row [102, 111, 114, 32, 110, 111, 116, 104, 105, 110, 103, 63] (Wk.Chg.hp ch18 (Wk.Chg.hp ch17 (Wk.Chg.hp ch15 (Wk.Chg.hp ch14 ht8 ⟨by omega, trivial⟩) trivial) trivial) ⟨by omega, trivial⟩))
            have kk16 : Wk.Chg [] w W1 := Wk.Chg.step ((Wk.Chg.refl _).more (by simp)) ch1 trivial
            have kk17 := Wk.Chg.step kk16 ch2 ⟨.inr (by omega), trivial⟩
            have kk18 := Wk.Chg.step kk17 ch3 trivial
            have kk19 := Wk.Chg.step kk18 sS5 trivial
            have kk20 := Wk.Chg.step kk19 ch14 ⟨.inr (by omega), trivial⟩
            have kk21 := Wk.Chg.step kk20 ch15 trivial
            have kk22 := Wk.Chg.step kk21 ch17 trivial
            have kk23 := Wk.Chg.step kk22 ch18 ⟨.inr (by omega), trivial⟩
            refine (Tag_any ([74, 101, 102, 101]) (some ⟨W16.heap.size, 0, none⟩) 4 4 ([⟨(some ⟨g6, 0, none⟩), 16, 16, ([119, 104, 97, 116, 32, 100, 111, 32, 121, 97, 32, 119, 97, 110, 116, 32])⟩, ⟨(some ⟨g8, 0, none⟩), 12, 12, ([102, 111, 114, 32, 110, 111, 116, 104, 105, 110, 103, 63])⟩]) (some ⟨W17.heap.size, 0, none⟩) 2 2 W20 (HV.out.below (Wk.Chg.below0 kk23)) (Mur.byt_row [74, 101, 102, 101] hb15) (by omega) (fun h => by cases h) (by omega) (Mur.segs_lit [⟨(some ⟨g6, 0, none⟩), 16, 16, ([119, 104, 97, 116, 32, 100, 111, 32, 121, 97, 32, 119, 97, 110, 116, 32])⟩, ⟨(some ⟨g8, 0, none⟩), 12, 12, ([102, 111, 114, 32, 110, 111, 116, 104, 105, 110, 103, 63])⟩] 2 (Wk.Chg.hp ch18 hb14 ⟨by omega, trivial⟩) (Mur.ok_cons ⟨(show 16 ≤ 16 by omega), (fun h => by cases h), hby5, (show 16 ≤ Go.maxLen by first | omega | (unfold Go.maxLen; omega))⟩ (Mur.ok_cons ⟨(show 12 ≤ 12 by omega), (fun h => by cases h), hby6, (show 12 ≤ Go.maxLen by first | omega | (unfold Go.maxLen; omega))⟩ Mur.ok_nil)) rfl) (by omega) (by show (([119, 104, 97, 116, 32, 100, 111, 32, 121, 97, 32, 119, 97, 110, 116, 32]) ++ (([102, 111, 114, 32, 110, 111, 116, 104, 105, 110, 103, 63]) ++ [])).length ≤ _; simp only [List.length_append, List.length_nil, List.length_cons]; have hl0 := hby5.1; have hl1 := hby6.1; omega)).mono ?_
            rintro _ W21 ⟨dd3, hd3, hdl3, rfl, ch19⟩
            have zz21 := ch19.size
            have sS19 := Wk.Chg.step sS18 ch19 trivial
            refine ⟨_, rfl, sS19, ?_⟩
            refine Wk.dVal 9 (some 12) (.bool true) rfl rfl (by kernel_rfl) (by kernel_rfl) (by kernel_rfl) (fun _ _ _ h => h) (by kernel_rfl) (fun w' hw' => (Mur.run_eql_true digT dd3 Mur.jefe hdl3 ((hd3.out.trans Mur.hmac_jefe)) w' (.tmp 10) (.tmp 11) 25 rfl (by kernel_rfl) (by kernel_rfl))) sS19 ?_
            refine Wk.dVal 10 (some 0) (.bool true) rfl rfl (by kernel_rfl) (by kernel_rfl) (by kernel_rfl) (fun _ _ _ h => h) (by kernel_rfl) (fun w' hw' => by kernel_rfl) sS19 ?_
            refine Wk.dEnd (by kernel_rfl) ?_
            refine Wk.nxt ?_
            refine wp_ret ?_
            have kk24 := Wk.Chg.step kk23 ch19 trivial
            refine Wk.ret (.bool true) rfl (by kernel_rfl) ?_
            exact ⟨rfl, kk24⟩
        · refine Wk.oEx (some 9) _ rfl rfl (by kernel_rfl) (Wk.new_ex (.slice (some ⟨W16.heap.size, 0, none⟩) 2 2) #[.slice (some ⟨g6, 0, none⟩) 16 16, .slice (some ⟨g8, 0, none⟩) 12 12] 22 (by kernel_rfl)) ?_
          rintro _ W22 ⟨rfl, hb16, ch20, sz8⟩
          have zz22 := ch20.size
          have sS20 := Wk.Chg.step sS14 ch20 trivial
          refine ⟨sS20, ?_⟩
          refine Wk.dOp 0 (by kernel_rfl) ?_
          refine Wk.oEx (some 3) _ rfl rfl (by kernel_rfl) (Wk.new_ex (.slice (some ⟨W22.heap.size, 0, none⟩) 4 4) #[.int .u8 74, .int .u8 101, .int .u8 102, .int .u8 101] 5 (by kernel_rfl)) ?_
          rintro _ W23 ⟨rfl, hb17, ch21, sz9⟩
          have zz23 := ch21.size
          have sS21 := Wk.Chg.step sS20 ch21 trivial
          refine ⟨sS21, ?_⟩
          refine Wk.dOp 1 (by kernel_rfl) ?_
          refine Wk.oEx (some 4) _ rfl rfl (by kernel_rfl) (Mur.run_mark 22 (.tmp 3) 5 rfl Tryd.underlying22 Tryd.underlying5 W22.heap.size 4 4 #[.int .u8 74, .int .u8 101, .int .u8 102, .int .u8 101] (by kernel_rfl) hb17) ?_
          rintro _ W24 ⟨rfl, hb18, ch22⟩
          have zz24 := ch22.size
          have sS22 := Wk.Chg.step sS21 ch22 ⟨.inr (by omega), trivial⟩
          refine ⟨sS22, ?_⟩
          refine Wk.dOp 7 (by kernel_rfl) ?_
          refine Wk.oCall (some 10) 13 [.tmp 4, .tmp 9] #[22, 29] [.slice (some ⟨W22.heap.size, 0, none⟩) 4 4, .slice (some ⟨W16.heap.size, 0, none⟩) 2 2] rfl rfl (by kernel_rfl) rfl (by kernel_rfl) (by kernel_rfl) ?_
          have hby7 := (Mur.byt_row [119, 104, 97, 116, 32, 100, 111, 32, 121, 97, 32, 119, 97, 110, 116, 32] (Wk.Chg.hp ch22 (Wk.Chg.hp ch21 (Wk.Chg.hp ch20 hb11 trivial) trivial) ⟨by omega, trivial⟩))
          have hby8 := (Mur.byt_row [102, 111, 114, 32, 110, 111, 116, 104, 105, 110, 103, 63] (Wk.Chg.hp ch22 (Wk.Chg.hp ch21 (Wk.Chg.hp ch20 (Wk.Chg.hp ch14 ht8 ⟨by omega, trivial⟩) trivial) trivial) ⟨by omega, trivial⟩))
          have kk25 : Wk.Chg [] w W1 := Wk.Chg.step ((Wk.Chg.refl _).more (by simp)) ch1 trivial
          have kk26 := Wk.Chg.step kk25 ch2 ⟨.inr (by omega), trivial⟩
          have kk27 := Wk.Chg.step kk26 ch3 trivial
          have kk28 := Wk.Chg.step kk27 sS5 trivial
          have kk29 := Wk.Chg.step kk28 ch14 ⟨.inr (by omega), trivial⟩
          have kk30 := Wk.Chg.step kk29 ch20 trivial
          have kk31 := Wk.Chg.step kk30 ch21 trivial
          have kk32 := Wk.Chg.step kk31 ch22 ⟨.inr (by omega), trivial⟩
          refine (Tag_any ([74, 101, 102, 101]) (some ⟨W22.heap.size, 0, none⟩) 4 4 ([⟨(some ⟨g6, 0, none⟩), 16, 16, ([119, 104, 97, 116, 32, 100, 111, 32, 121, 97, 32, 119, 97, 110, 116, 32])⟩, ⟨(some ⟨g8, 0, none⟩), 12, 12, ([102, 111, 114, 32, 110, 111, 116, 104, 105, 110, 103, 63])⟩]) (some ⟨W16.heap.size, 0, none⟩) 2 2 W24 (HV.out.below (Wk.Chg.below0 kk32)) (Mur.byt_row [74, 101, 102, 101] hb18) (by omega) (fun h => by cases h) (by omega) (Mur.segs_lit [⟨(some ⟨g6, 0, none⟩), 16, 16, ([119, 104, 97, 116, 32, 100, 111, 32, 121, 97, 32, 119, 97, 110, 116, 32])⟩, ⟨(some ⟨g8, 0, none⟩), 12, 12, ([102, 111, 114, 32, 110, 111, 116, 104, 105, 110, 103, 63])⟩] 2 (Wk.Chg.hp ch22 (Wk.Chg.hp ch21 hb16 trivial) ⟨by omega, trivial⟩) (Mur.ok_cons ⟨(show 16 ≤ 16 by omega), (fun h => by cases h), hby7, (show 16 ≤ Go.maxLen by first | omega | (unfold Go.maxLen; omega))⟩ (Mur.ok_cons ⟨(show 12 ≤ 12 by omega), (fun h => by cases h), hby8, (show 12 ≤ Go.maxLen by first | omega | (unfold Go.maxLen; omega))⟩ Mur.ok_nil)) rfl) (by omega) (by show (([119, 104, 97, 116, 32, 100, 111, 32, 121, 97, 32, 119, 97, 110, 116, 32]) ++ (([102, 111, 114, 32, 110, 111, 116, 104, 105, 110, 103, 63]) ++ [])).length ≤ _; simp only [List.length_append, List.length_nil, List.length_cons]; have hl0 := hby7.1; have hl1 := hby8.1; omega)).mono ?_
          rintro _ W25 ⟨dd4, hd4, hdl4, rfl, ch23⟩
          have zz25 := ch23.size
          have sS23 := Wk.Chg.step sS22 ch23 trivial
          refine ⟨_, rfl, sS23, ?_⟩
          refine Wk.dVal 9 (some 12) (.bool true) rfl rfl (by kernel_rfl) (by kernel_rfl) (by kernel_rfl) (fun _ _ _ h => h) (by kernel_rfl) (fun w' hw' => (Mur.run_eql_true digT dd4 Mur.jefe hdl4 ((hd4.out.trans Mur.hmac_jefe)) w' (.tmp 10) (.tmp 11) 25 rfl (by kernel_rfl) (by kernel_rfl))) sS23 ?_
          refine Wk.dVal 10 (some 0) (.bool true) rfl rfl (by kernel_rfl) (by kernel_rfl) (by kernel_rfl) (fun _ _ _ h => h) (by kernel_rfl) (fun w' hw' => by kernel_rfl) sS23 ?_
          refine Wk.dEnd (by kernel_rfl) ?_
          refine Wk.nxt ?_
          refine wp_ret ?_
          have kk33 := Wk.Chg.step kk32 ch23 trivial
          refine Wk.ret (.bool true) rfl (by kernel_rfl) ?_
          exact ⟨rfl, kk33⟩
    · intro tail2
      refine Wk.dTail 7 #[false, false, true, true, true, false, false, false, true, false, false] (fun a wt => ∃ (g6 : Nat) (g8 : Nat), a = Known_T2_3 a.tmps (.slice (some ⟨g6, 0, none⟩) 16 16) (.slice (some ⟨g8, 0, none⟩) 12 12) (.agg #[.int .u8 91, .int .u8 220, .int .u8 193, .int .u8 70, .int .u8 191, .int .u8 96, .int .u8 117, .int .u8 78, .int .u8 106, .int .u8 4, .int .u8 36, .int .u8 38, .int .u8 8, .int .u8 149, .int .u8 117, .int .u8 199, .int .u8 90, .int .u8 0, .int .u8 63, .int .u8 8, .int .u8 157, .int .u8 39, .int .u8 57, .int .u8 131, .int .u8 157, .int .u8 236, .int .u8 88, .int .u8 185, .int .u8 100, .int .u8 236, .int .u8 56, .int .u8 67]) ∧ wt.heap[g6]? = some (.cells #[.int .u8 119, .int .u8 104, .int .u8 97, .int .u8 116, .int .u8 32, .int .u8 100, .int .u8 111, .int .u8 32, .int .u8 121, .int .u8 97, .int .u8 32, .int .u8 119, .int .u8 97, .int .u8 110, .int .u8 116, .int .u8 32] 5 (16, 17)) ∧ wt.heap[g8]? = some (.cells #[.int .u8 102, .int .u8 111, .int .u8 114, .int .u8 32, .int .u8 110, .int .u8 111, .int .u8 116, .int .u8 104, .int .u8 105, .int .u8 110, .int .u8 103, .int .u8 63] 5 (0, 0)) ∧ W3.heap.size ≤ g6 ∧ W3.heap.size ≤ g8 ∧ g8 ≠ g6) ?_ ?_
      · rintro _ aa3 W26 rfl ⟨g6, g8, hF3, ht6, ht8, hkf⟩ sS24
        generalize aa3.tmps = bb3 at hF3
        subst hF3
        have zz26 := sS24.size
        have htl6 := (Array.getElem?_eq_some_iff.1 ht6).1
        have htl8 := (Array.getElem?_eq_some_iff.1 ht8).1
        refine Wk.dOp2 0 5 (by kernel_rfl) ?_ ?_
        · refine Wk.oEx (some 3) _ rfl rfl (by kernel_rfl) (Wk.new_ex (.slice (some ⟨W26.heap.size, 0, none⟩) 4 4) #[.int .u8 74, .int .u8 101, .int .u8 102, .int .u8 101] 5 (by kernel_rfl)) ?_
          rintro _ W27 ⟨rfl, hb19, ch24, sz10⟩
          have zz27 := ch24.size
          have sS25 := Wk.Chg.step sS24 ch24 trivial
          refine ⟨sS25, ?_⟩
          refine Wk.dOp2 1 5 (by kernel_rfl) ?_ ?_
          · refine Wk.oEx (some 4) _ rfl rfl (by kernel_rfl) (Mur.run_mark 22 (.tmp 3) 5 rfl Tryd.underlying22 Tryd.underlying5 W26.heap.size 4 4 #[.int .u8 74, .int .u8 101, .int .u8 102, .int .u8 101] (by kernel_rfl) hb19) ?_
            rintro _ W28 ⟨rfl, hb20, ch25⟩
            have zz28 := ch25.size
            have sS26 := Wk.Chg.step sS25 ch25 ⟨.inr (by omega), trivial⟩
            refine ⟨sS26, ?_⟩
            refine Wk.dOp 5 (by kernel_rfl) ?_
            refine Wk.oEx (some 8) _ rfl rfl (by kernel_rfl) (Mur.run_mark 22 (.tmp 7) 5 rfl Tryd.underlying22 Tryd.underlying5 g8 12 12 #[.int .u8 102, .int .u8 111, .int .u8 114, .int .u8 32, .int .u8 110, .int .u8 111, .int .u8 116, .int .u8 104, .int .u8 105, .int .u8 110, .int .u8 103, .int .u8 63] (by kernel_rfl) (Wk.Chg.hp ch25 (Wk.Chg.hp ch24 ht8 trivial) ⟨by omega, trivial⟩)) ?_
            rintro _ W29 ⟨rfl, hb21, ch26⟩
            have zz29 := ch26.size
            have sS27 := Wk.Chg.step sS26 ch26 ⟨.inr (by omega), trivial⟩
            refine ⟨sS27, ?_⟩
            exact tail1 _ _ _ (by kernel_rfl) ⟨W26.heap.size, g6, g8, by kernel_rfl, (Wk.Chg.hp ch26 hb20 ⟨by omega, trivial⟩), (Wk.Chg.hp ch26 (Wk.Chg.hp ch25 (Wk.Chg.hp ch24 ht6 trivial) ⟨by omega, trivial⟩) ⟨by omega, trivial⟩), hb21⟩ sS27
          · refine Wk.oEx (some 8) _ rfl rfl (by kernel_rfl) (Mur.run_mark 22 (.tmp 7) 5 rfl Tryd.underlying22 Tryd.underlying5 g8 12 12 #[.int .u8 102, .int .u8 111, .int .u8 114, .int .u8 32, .int .u8 110, .int .u8 111, .int .u8 116, .int .u8 104, .int .u8 105, .int .u8 110, .int .u8 103, .int .u8 63] (by kernel_rfl) (Wk.Chg.hp ch24 ht8 trivial)) ?_
            rintro _ W30 ⟨rfl, hb22, ch27⟩
            have zz30 := ch27.size
            have sS28 := Wk.Chg.step sS25 ch27 ⟨.inr (by omega), trivial⟩
            refine ⟨sS28, ?_⟩
            refine Wk.dOp2 1 6 (by kernel_rfl) ?_ ?_
            · refine Wk.oEx (some 4) _ rfl rfl (by kernel_rfl) (Mur.run_mark 22 (.tmp 3) 5 rfl Tryd.underlying22 Tryd.underlying5 W26.heap.size 4 4 #[.int .u8 74, .int .u8 101, .int .u8 102, .int .u8 101] (by kernel_rfl) (Wk.Chg.hp ch27 hb19 ⟨by omega, trivial⟩)) ?_
              rintro _ W31 ⟨rfl, hb23, ch28⟩
              have zz31 := ch28.size
              have sS29 := Wk.Chg.step sS28 ch28 ⟨.inr (by omega), trivial⟩
              refine ⟨sS29, ?_⟩
              exact tail1 _ _ _ (by kernel_rfl) ⟨W26.heap.size, g6, g8, by kernel_rfl, hb23, (Wk.Chg.hp ch28 (Wk.Chg.hp ch27 (Wk.Chg.hp ch24 ht6 trivial) ⟨by omega, trivial⟩) ⟨by omega, trivial⟩), (Wk.Chg.hp ch28 hb22 ⟨by omega, trivial⟩)⟩ sS29
            · refine Wk.oEx (some 9) _ rfl rfl (by kernel_rfl) (Wk.new_ex (.slice (some ⟨W30.heap.size, 0, none⟩) 2 2) #[.slice (some ⟨g6, 0, none⟩) 16 16, .slice (some ⟨g8, 0, none⟩) 12 12] 22 (by kernel_rfl)) ?_
              rintro _ W32 ⟨rfl, hb24, ch29, sz11⟩
              have zz32 := ch29.size
              have sS30 := Wk.Chg.step sS28 ch29 trivial
              refine ⟨sS30, ?_⟩
              refine Wk.dOp 1 (by kernel_rfl) ?_
              refine Wk.oEx (some 4) _ rfl rfl (by kernel_rfl) (Mur.run_mark 22 (.tmp 3) 5 rfl Tryd.underlying22 Tryd.underlying5 W26.heap.size 4 4 #[.int .u8 74, .int .u8 101, .int .u8 102, .int .u8 101] (by kernel_rfl) (Wk.Chg.hp ch29 (Wk.Chg.hp ch27 hb19 ⟨by omega, trivial⟩) trivial)) ?_
              rintro _ W33 ⟨rfl, hb25, ch30⟩
              have zz33 := ch30.size
              have sS31 := Wk.Chg.step sS30 ch30 ⟨.inr (by omega), trivial⟩
              refine ⟨sS31, ?_⟩
              refine Wk.dOp 7 (by kernel_rfl) ?_
              refine Wk.oCall (some 10) 13 [.tmp 4, .tmp 9] #[22, 29] [.slice (some ⟨W26.heap.size, 0, none⟩) 4 4, .slice (some ⟨W30.heap.size, 0, none⟩) 2 2] rfl rfl (by kernel_rfl) rfl (by kernel_rfl) (by kernel_rfl) ?_
              have hby9 := (Mur.byt_row [119, 104, 97, 116, 32, 100, 111, 32, 121, 97, 32, 119, 97, 110, 116, 32] (Wk.Chg.hp ch30 (Wk.Chg.hp ch29 (Wk.Chg.hp ch27 (Wk.Chg.hp ch24 ht6 trivial) ⟨by omega, trivial⟩) trivial) ⟨by omega, trivial⟩))
              have hby10 := (Mur.byt_row [102, 111, 114, 32, 110, 111, 116, 104, 105, 110, 103, 63] (Wk.Chg.hp ch30 (Wk.Chg.hp ch29 hb22 trivial) ⟨by omega, trivial⟩))
              have kk34 : Wk.Chg [] w W1 := Wk.Chg.step ((Wk.Chg.refl _).more (by simp)) ch1 trivial
              have kk35 := Wk.Chg.step kk34 ch2 ⟨.inr (by omega), trivial⟩
              have kk36 := Wk.Chg.step kk35 ch3 trivial
              have kk37 := Wk.Chg.step kk36 sS24 trivial
              have kk38 := Wk.Chg.step kk37 ch24 trivial
              have kk39 := Wk.Chg.step kk38 ch27 ⟨.inr (by omega), trivial⟩
              have kk40 := Wk.Chg.step kk39 ch29 trivial
              have kk41 := Wk.Chg.step kk40 ch30 ⟨.inr (by omega), trivial⟩
              refine (Tag_any ([74, 101, 102, 101]) (some ⟨W26.heap.size, 0, none⟩) 4 4 ([⟨(some ⟨g6, 0, none⟩), 16, 16, ([119, 104, 97, 116, 32, 100, 111, 32, 121, 97, 32, 119, 97, 110, 116, 32])⟩, ⟨(some ⟨g8, 0, none⟩), 12, 12, ([102, 111, 114, 32, 110, 111, 116, 104, 105, 110, 103, 63])⟩]) (some ⟨W30.heap.size, 0, none⟩) 2 2 W33 (HV.out.below (Wk.Chg.below0 kk41)) (Mur.byt_row [74, 101, 102, 101] hb25) (by omega) (fun h => by cases h) (by omega) (Mur.segs_lit [⟨(some ⟨g6, 0, none⟩), 16, 16, ([119, 104, 97, 116, 32, 100, 111, 32, 121, 97, 32, 119, 97, 110, 116, 32])⟩, ⟨(some ⟨g8, 0, none⟩), 12, 12, ([102, 111, 114, 32, 110, 111, 116, 104, 105, 110, 103, 63])⟩] 2 (Wk.Chg.hp ch30 hb24 ⟨by omega, trivial⟩) (Mur.ok_cons ⟨(show 16 ≤ 16 by omega), (fun h => by cases h), hby9, (show 16 ≤ Go.maxLen by first | omega | (unfold Go.maxLen; omega))⟩ (Mur.ok_cons ⟨(show 12 ≤ 12 by omega), (fun h => by cases h), hby10, (show 12 ≤ Go.maxLen by first | omega | (unfold Go.maxLen; omega))⟩ Mur.ok_nil)) rfl) (by omega) (by show (([119, 104, 97, 116, 32, 100, 111, 32, 121, 97, 32, 119, 97, 110, 116, 32]) ++ (([102, 111, 114, 32, 110, 111, 116, 104, 105, 110, 103, 63]) ++ [])).length ≤ _; simp only [List.length_append, List.length_nil, List.length_cons]; have hl0 := hby9.1; have hl1 := hby10.1; omega)).mono ?_
              rintro _ W34 ⟨dd5, hd5, hdl5, rfl, ch31⟩
              have zz34 := ch31.size
              have sS32 := Wk.Chg.step sS31 ch31 trivial
              refine ⟨_, rfl, sS32, ?_⟩
              refine Wk.dVal 9 (some 12) (.bool true) rfl rfl (by kernel_rfl) (by kernel_rfl) (by kernel_rfl) (fun _ _ _ h => h) (by kernel_rfl) (fun w' hw' => (Mur.run_eql_true digT dd5 Mur.jefe hdl5 ((hd5.out.trans Mur.hmac_jefe)) w' (.tmp 10) (.tmp 11) 25 rfl (by kernel_rfl) (by kernel_rfl))) sS32 ?_
              refine Wk.dVal 10 (some 0) (.bool true) rfl rfl (by kernel_rfl) (by kernel_rfl) (by kernel_rfl) (fun _ _ _ h => h) (by kernel_rfl) (fun w' hw' => by kernel_rfl) sS32 ?_
              refine Wk.dEnd (by kernel_rfl) ?_
              refine Wk.nxt ?_
              refine wp_ret ?_
              have kk42 := Wk.Chg.step kk41 ch31 trivial
              refine Wk.ret (.bool true) rfl (by kernel_rfl) ?_
              exact ⟨rfl, kk42⟩
        · refine Wk.oEx (some 8) _ rfl rfl (by kernel_rfl) (Mur.run_mark 22 (.tmp 7) 5 rfl Tryd.underlying22 Tryd.underlying5 g8 12 12 #[.int .u8 102, .int .u8 111, .int .u8 114, .int .u8 32, .int .u8 110, .int .u8 111, .int .u8 116, .int .u8 104, .int .u8 105, .int .u8 110, .int .u8 103, .int .u8 63] (by kernel_rfl) ht8) ?_
          rintro _ W35 ⟨rfl, hb26, ch32⟩
          have zz35 := ch32.size
          have sS33 := Wk.Chg.step sS24 ch32 ⟨.inr (by omega), trivial⟩
          refine ⟨sS33, ?_⟩
          refine Wk.dOp2 0 6 (by kernel_rfl) ?_ ?_
          · refine Wk.oEx (some 3) _ rfl rfl (by kernel_rfl) (Wk.new_ex (.slice (some ⟨W35.heap.size, 0, none⟩) 4 4) #[.int .u8 74, .int .u8 101, .int .u8 102, .int .u8 101] 5 (by kernel_rfl)) ?_
            rintro _ W36 ⟨rfl, hb27, ch33, sz12⟩
            have zz36 := ch33.size
            have sS34 := Wk.Chg.step sS33 ch33 trivial
            refine ⟨sS34, ?_⟩
            refine Wk.dOp2 1 6 (by kernel_rfl) ?_ ?_
            · refine Wk.oEx (some 4) _ rfl rfl (by kernel_rfl) (Mur.run_mark 22 (.tmp 3) 5 rfl Tryd.underlying22 Tryd.underlying5 W35.heap.size 4 4 #[.int .u8 74, .int .u8 101, .int .u8 102, .int .u8 101] (by kernel_rfl) hb27) ?_
              rintro _ W37 ⟨rfl, hb28, ch34⟩
              have zz37 := ch34.size
              have sS35 := Wk.Chg.step sS34 ch34 ⟨.inr (by omega), trivial⟩
              refine ⟨sS35, ?_⟩
              exact tail1 _ _ _ (by kernel_rfl) ⟨W35.heap.size, g6, g8, by kernel_rfl, hb28, (Wk.Chg.hp ch34 (Wk.Chg.hp ch33 (Wk.Chg.hp ch32 ht6 ⟨by omega, trivial⟩) trivial) ⟨by omega, trivial⟩), (Wk.Chg.hp ch34 (Wk.Chg.hp ch33 hb26 trivial) ⟨by omega, trivial⟩)⟩ sS35
            · refine Wk.oEx (some 9) _ rfl rfl (by kernel_rfl) (Wk.new_ex (.slice (some ⟨W36.heap.size, 0, none⟩) 2 2) #[.slice (some ⟨g6, 0, none⟩) 16 16, .slice (some ⟨g8, 0, none⟩) 12 12] 22 (by kernel_rfl)) ?_
              rintro _ W38 ⟨rfl, hb29, ch35, sz13⟩
              have zz38 := ch35.size
              have sS36 := Wk.Chg.step sS34 ch35 trivial
              refine ⟨sS36, ?_⟩
              refine Wk.dOp 1 (by kernel_rfl) ?_
              refine Wk.oEx (some 4) _ rfl rfl (by kernel_rfl) (Mur.run_mark 22 (.tmp 3) 5 rfl Tryd.underlying22 Tryd.underlying5 W35.heap.size 4 4 #[.int .u8 74, .int .u8 101, .int .u8 102, .int .u8 101] (by kernel_rfl) (Wk.Chg.hp ch35 hb27 trivial)) ?_
              rintro _ W39 ⟨rfl, hb30, ch36⟩
              have zz39 := ch36.size
              have sS37 := Wk.Chg.step sS36 ch36 ⟨.inr (by omega), trivial⟩
              refine ⟨sS37, ?_⟩
              refine Wk.dOp 7 (by kernel_rfl) ?_
              refine Wk.oCall (some 10) 13 [.tmp 4, .tmp 9] #[22, 29] [.slice (some ⟨W35.heap.size, 0, none⟩) 4 4, .slice (some ⟨W36.heap.size, 0, none⟩) 2 2] rfl rfl (by kernel_rfl) rfl (by kernel_rfl) (by kernel_rfl) ?_
              have hby11 := (Mur.byt_row [119, 104, 97, 116, 32, 100, 111, 32, 121, 97, 32, 119, 97, 110, 116, 32] (Wk.Chg.hp ch36 (Wk.Chg.hp ch35 (Wk.Chg.hp ch33 (Wk.Chg.hp ch32 ht6 ⟨by omega, trivial⟩) trivial) trivial) ⟨by omega, trivial⟩))
              have hby12 := (Mur.byt_row [102, 111, 114, 32, 110, 111, 116, 104, 105, 110, 103, 63] (Wk.Chg.hp ch36 (Wk.Chg.hp ch35 (Wk.Chg.hp ch33 hb26 trivial) trivial) ⟨by omega, trivial⟩))
              have kk43 : Wk.Chg [] w W1 := Wk.Chg.step ((Wk.Chg.refl _).more (by simp)) ch1 trivial
              have kk44 := Wk.Chg.step kk43 ch2 ⟨.inr (by omega), trivial⟩
              have kk45 := Wk.Chg.step kk44 ch3 trivial
              have kk46 := Wk.Chg.step kk45 sS24 trivial
              have kk47 := Wk.Chg.step kk46 ch32 ⟨.inr (by omega), trivial⟩
              have kk48 := Wk.Chg.step kk47 ch33 trivial
              have kk49 := Wk.Chg.step kk48 ch35 trivial
              have kk50 := Wk.Chg.step kk49 ch36 ⟨.inr (by omega), trivial⟩
              refine (Tag_any ([74, 101, 102, 101]) (some ⟨W35.heap.size, 0, none⟩) 4 4 ([⟨(some ⟨g6, 0, none⟩), 16, 16, ([119, 104, 97, 116, 32, 100, 111, 32, 121, 97, 32, 119, 97, 110, 116, 32])⟩, ⟨(some ⟨g8, 0, none⟩), 12, 12, ([102, 111, 114, 32, 110, 111, 116, 104, 105, 110, 103, 63])⟩]) (some ⟨W36.heap.size, 0, none⟩) 2 2 W39 (HV.out.below (Wk.Chg.below0 kk50)) (Mur.byt_row [74, 101, 102, 101] hb30) (by omega) (fun h => by cases h) (by omega) (Mur.segs_lit [⟨(some ⟨g6, 0, none⟩), 16, 16, ([119, 104, 97, 116, 32, 100, 111, 32, 121, 97, 32, 119, 97, 110, 116, 32])⟩, ⟨(some ⟨g8, 0, none⟩), 12, 12, ([102, 111, 114, 32, 110, 111, 116, 104, 105, 110, 103, 63])⟩] 2 (Wk.Chg.hp ch36 hb29 ⟨by omega, trivial⟩) (Mur.ok_cons ⟨(show 16 ≤ 16 by omega), (fun h => by cases h), hby11, (show 16 ≤ Go.maxLen by first | omega | (unfold Go.maxLen; omega))⟩ (Mur.ok_cons ⟨(show 12 ≤ 12 by omega), (fun h => by cases h), hby12, (show 12 ≤ Go.maxLen by first | omega | (unfold Go.maxLen; omega))⟩ Mur.ok_nil)) rfl) (by omega) (by show (([119, 104, 97, 116, 32, 100, 111, 32, 121, 97, 32, 119, 97, 110, 116, 32]) ++ (([102, 111, 114, 32, 110, 111, 116, 104, 105, 110, 103, 63]) ++ [])).length ≤ _; simp only [List.length_append, List.length_nil, List.length_cons]; have hl0 := hby11.1; have hl1 := hby12.1; omega)).mono ?_
              rintro _ W40 ⟨dd6, hd6, hdl6, rfl, ch37⟩
              have zz40 := ch37.size
              have sS38 := Wk.Chg.step sS37 ch37 trivial
              refine ⟨_, rfl, sS38, ?_⟩
              refine Wk.dVal 9 (some 12) (.bool true) rfl rfl (by kernel_rfl) (by kernel_rfl) (by kernel_rfl) (fun _ _ _ h => h) (by kernel_rfl) (fun w' hw' => (Mur.run_eql_true digT dd6 Mur.jefe hdl6 ((hd6.out.trans Mur.hmac_jefe)) w' (.tmp 10) (.tmp 11) 25 rfl (by kernel_rfl) (by kernel_rfl))) sS38 ?_
              refine Wk.dVal 10 (some 0) (.bool true) rfl rfl (by kernel_rfl) (by kernel_rfl) (by kernel_rfl) (fun _ _ _ h => h) (by kernel_rfl) (fun w' hw' => by kernel_rfl) sS38 ?_
              refine Wk.dEnd (by kernel_rfl) ?_
              refine Wk.nxt ?_
              refine wp_ret ?_
              have kk51 := Wk.Chg.step kk50 ch37 trivial
              refine Wk.ret (.bool true) rfl (by kernel_rfl) ?_
              exact ⟨rfl, kk51⟩
          · refine Wk.oEx (some 9) _ rfl rfl (by kernel_rfl) (Wk.new_ex (.slice (some ⟨W35.heap.size, 0, none⟩) 2 2) #[.slice (some ⟨g6, 0, none⟩) 16 16, .slice (some ⟨g8, 0, none⟩) 12 12] 22 (by kernel_rfl)) ?_
            rintro _ W41 ⟨rfl, hb31, ch38, sz14⟩
            have zz41 := ch38.size
            have sS39 := Wk.Chg.step sS33 ch38 trivial
            refine ⟨sS39, ?_⟩
            refine Wk.dOp 0 (by kernel_rfl) ?_
            refine Wk.oEx (some 3) _ rfl rfl (by kernel_rfl) (Wk.new_ex (.slice (some ⟨W41.heap.size, 0, none⟩) 4 4) #[.int .u8 74, .int .u8 101, .int .u8 102, .int .u8 101] 5 (by kernel_rfl)) ?_
            rintro _ W42 ⟨rfl, hb32, ch39, sz15⟩
            have zz42 := ch39.size
            have sS40 := Wk.Chg.step sS39 ch39 trivial
            refine ⟨sS40, ?_⟩
            refine Wk.dOp 1 (by kernel_rfl) ?_
            refine Wk.oEx (some 4) _ rfl rfl (by kernel_rfl) (Mur.run_mark 22 (.tmp 3) 5 rfl Tryd.underlying22 Tryd.underlying5 W41.heap.size 4 4 #[.int .u8 74, .int .u8 101, .int .u8 102, .int .u8 101] (by kernel_rfl) hb32) ?_
            rintro _ W43 ⟨rfl, hb33, ch40⟩
            have zz43 := ch40.size
            have sS41 := Wk.Chg.step sS40 ch40 ⟨.inr (by omega), trivial⟩
            refine ⟨sS41, ?_⟩
            refine Wk.dOp 7 (by kernel_rfl) ?_
            refine Wk.oCall (some 10) 13 [.tmp 4, .tmp 9] #[22, 29] [.slice (some ⟨W41.heap.size, 0, none⟩) 4 4, .slice (some ⟨W35.heap.size, 0, none⟩) 2 2] rfl rfl (by kernel_rfl) rfl (by kernel_rfl) (by kernel_rfl) ?_
            have hby13 := (Mur.byt_row [119, 104, 97, 116, 32, 100, 111, 32, 121, 97, 32, 119, 97, 110, 116, 32] (Wk.Chg.hp ch40 (Wk.Chg.hp ch39 (Wk.Chg.hp ch38 (Wk.Chg.hp ch32 ht6 ⟨by omega, trivial⟩) trivial) trivial) ⟨by omega, trivial⟩))
            have hby14 := (Mur.byt_row [102, 111, 114, 32, 110, 111, 116, 104, 105, 110, 103, 63] (Wk.Chg.hp ch40 (Wk.Chg.hp ch39 (Wk.Chg.hp ch38 hb26 trivial) trivial) ⟨by omega, trivial⟩))
            have kk52 : Wk.Chg [] w W1 := Wk.Chg.step ((Wk.Chg.refl _).more (by simp)) ch1 trivial
            have kk53 := Wk.Chg.step kk52 ch2 ⟨.inr (by omega), trivial⟩
            have kk54 := Wk.Chg.step kk53 ch3 trivial
            have kk55 := Wk.Chg.step kk54 sS24 trivial
            have kk56 := Wk.Chg.step kk55 ch32 ⟨.inr (by omega), trivial⟩
            have kk57 := Wk.Chg.step kk56 ch38 trivial
            have kk58 := Wk.Chg.step kk57 ch39 trivial
            have kk59 := Wk.Chg.step kk58 ch40 ⟨.inr (by omega), trivial⟩
            refine (Tag_any ([74, 101, 102, 101]) (some ⟨W41.heap.size, 0, none⟩) 4 4 ([⟨(some ⟨g6, 0, none⟩), 16, 16, ([119, 104, 97, 116, 32, 100, 111, 32, 121, 97, 32, 119, 97, 110, 116, 32])⟩, ⟨(some ⟨g8, 0, none⟩), 12, 12, ([102, 111, 114, 32, 110, 111, 116, 104, 105, 110, 103, 63])⟩]) (some ⟨W35.heap.size, 0, none⟩) 2 2 W43 (HV.out.below (Wk.Chg.below0 kk59)) (Mur.byt_row [74, 101, 102, 101] hb33) (by omega) (fun h => by cases h) (by omega) (Mur.segs_lit [⟨(some ⟨g6, 0, none⟩), 16, 16, ([119, 104, 97, 116, 32, 100, 111, 32, 121, 97, 32, 119, 97, 110, 116, 32])⟩, ⟨(some ⟨g8, 0, none⟩), 12, 12, ([102, 111, 114, 32, 110, 111, 116, 104, 105, 110, 103, 63])⟩] 2 (Wk.Chg.hp ch40 (Wk.Chg.hp ch39 hb31 trivial) ⟨by omega, trivial⟩) (Mur.ok_cons ⟨(show 16 ≤ 16 by omega), (fun h => by cases h), hby13, (show 16 ≤ Go.maxLen by first | omega | (unfold Go.maxLen; omega))⟩ (Mur.ok_cons ⟨(show 12 ≤ 12 by omega), (fun h => by cases h), hby14, (show 12 ≤ Go.maxLen by first | omega | (unfold Go.maxLen; omega))⟩ Mur.ok_nil)) rfl) (by omega) (by show (([119, 104, 97, 116, 32, 100, 111, 32, 121, 97, 32, 119, 97, 110, 116, 32]) ++ (([102, 111, 114, 32, 110, 111, 116, 104, 105, 110, 103, 63]) ++ [])).length ≤ _; simp only [List.length_append, List.length_nil, List.length_cons]; have hl0 := hby13.1; have hl1 := hby14.1; omega)).mono ?_
            rintro _ W44 ⟨dd7, hd7, hdl7, rfl, ch41⟩
            have zz44 := ch41.size
            have sS42 := Wk.Chg.step sS41 ch41 trivial
            refine ⟨_, rfl, sS42, ?_⟩
            refine Wk.dVal 9 (some 12) (.bool true) rfl rfl (by kernel_rfl) (by kernel_rfl) (by kernel_rfl) (fun _ _ _ h => h) (by kernel_rfl) (fun w' hw' => (Mur.run_eql_true digT dd7 Mur.jefe hdl7 ((hd7.out.trans Mur.hmac_jefe)) w' (.tmp 10) (.tmp 11) 25 rfl (by kernel_rfl) (by kernel_rfl))) sS42 ?_
            refine Wk.dVal 10 (some 0) (.bool true) rfl rfl (by kernel_rfl) (by kernel_rfl) (by kernel_rfl) (fun _ _ _ h => h) (by kernel_rfl) (fun w' hw' => by kernel_rfl) sS42 ?_
            refine Wk.dEnd (by kernel_rfl) ?_
            refine Wk.nxt ?_
            refine wp_ret ?_
            have kk60 := Wk.Chg.step kk59 ch41 trivial
            refine Wk.ret (.bool true) rfl (by kernel_rfl) ?_
            exact ⟨rfl, kk60⟩
      · intro tail3
        refine Wk.dTail 7 #[true, false, false, false, true, true, false, false, true, false, false] (fun a wt => ∃ (g4 : Nat) (g8 : Nat), a = Known_T2_4 a.tmps (.slice (some ⟨g4, 0, none⟩) 4 4) (.slice (some ⟨g8, 0, none⟩) 12 12) (.agg #[.int .u8 91, .int .u8 220, .int .u8 193, .int .u8 70, .int .u8 191, .int .u8 96, .int .u8 117, .int .u8 78, .int .u8 106, .int .u8 4, .int .u8 36, .int .u8 38, .int .u8 8, .int .u8 149, .int .u8 117, .int .u8 199, .int .u8 90, .int .u8 0, .int .u8 63, .int .u8 8, .int .u8 157, .int .u8 39, .int .u8 57, .int .u8 131, .int .u8 157, .int .u8 236, .int .u8 88, .int .u8 185, .int .u8 100, .int .u8 236, .int .u8 56, .int .u8 67]) ∧ wt.heap[g4]? = some (.cells #[.int .u8 74, .int .u8 101, .int .u8 102, .int .u8 101] 5 (0, 0)) ∧ wt.heap[g8]? = some (.cells #[.int .u8 102, .int .u8 111, .int .u8 114, .int .u8 32, .int .u8 110, .int .u8 111, .int .u8 116, .int .u8 104, .int .u8 105, .int .u8 110, .int .u8 103, .int .u8 63] 5 (12, 13)) ∧ W3.heap.size ≤ g4 ∧ W3.heap.size ≤ g8 ∧ g8 ≠ g4) ?_ ?_
        · rintro _ aa4 W45 rfl ⟨g4, g8, hF4, ht4, ht8, hkf⟩ sS43
          generalize aa4.tmps = bb4 at hF4
          subst hF4
          have zz45 := sS43.size
          have htl4 := (Array.getElem?_eq_some_iff.1 ht4).1
          have htl8 := (Array.getElem?_eq_some_iff.1 ht8).1
          refine Wk.dOp2 1 2 (by kernel_rfl) ?_ ?_
          · refine Wk.oEx (some 4) _ rfl rfl (by kernel_rfl) (Mur.run_mark 22 (.tmp 3) 5 rfl Tryd.underlying22 Tryd.underlying5 g4 4 4 #[.int .u8 74, .int .u8 101, .int .u8 102, .int .u8 101] (by kernel_rfl) ht4) ?_
            rintro _ W46 ⟨rfl, hb34, ch42⟩
            have zz46 := ch42.size
            have sS44 := Wk.Chg.step sS43 ch42 ⟨.inr (by omega), trivial⟩
            refine ⟨sS44, ?_⟩
            refine Wk.dOp 2 (by kernel_rfl) ?_
            refine Wk.oEx (some 5) _ rfl rfl (by kernel_rfl) (Wk.new_ex (.slice (some ⟨W46.heap.size, 0, none⟩) 16 16) #[.int .u8 119, .int .u8 104, .int .u8 97, .int .u8 116, .int .u8 32, .int .u8 100, .int .u8 111, .int .u8 32, .int .u8 121, .int .u8 97, .int .u8 32, .int .u8 119, .int .u8 97, .int .u8 110, .int .u8 116, .int .u8 32] 5 (by kernel_rfl)) ?_
            rintro _ W47 ⟨rfl, hb35, ch43, sz16⟩
            have zz47 := ch43.size
            have sS45 := Wk.Chg.step sS44 ch43 trivial
            refine ⟨sS45, ?_⟩
            refine Wk.dOp 3 (by kernel_rfl) ?_
            refine Wk.oEx (some 6) _ rfl rfl (by kernel_rfl) (Mur.run_mark 22 (.tmp 5) 5 rfl Tryd.underlying22 Tryd.underlying5 W46.heap.size 16 16 #[.int .u8 119, .int .u8 104, .int .u8 97, .int .u8 116, .int .u8 32, .int .u8 100, .int .u8 111, .int .u8 32, .int .u8 121, .int .u8 97, .int .u8 32, .int .u8 119, .int .u8 97, .int .u8 110, .int .u8 116, .int .u8 32] (by kernel_rfl) hb35) ?_
            rintro _ W48 ⟨rfl, hb36, ch44⟩
            have zz48 := ch44.size
            have sS46 := Wk.Chg.step sS45 ch44 ⟨.inr (by omega), trivial⟩
            refine ⟨sS46, ?_⟩
            exact tail1 _ _ _ (by kernel_rfl) ⟨g4, W46.heap.size, g8, by kernel_rfl, (Wk.Chg.hp ch44 (Wk.Chg.hp ch43 hb34 trivial) ⟨by omega, trivial⟩), hb36, (Wk.Chg.hp ch44 (Wk.Chg.hp ch43 (Wk.Chg.hp ch42 ht8 ⟨by omega, trivial⟩) trivial) ⟨by omega, trivial⟩)⟩ sS46
          · refine Wk.oEx (some 5) _ rfl rfl (by kernel_rfl) (Wk.new_ex (.slice (some ⟨W45.heap.size, 0, none⟩) 16 16) #[.int .u8 119, .int .u8 104, .int .u8 97, .int .u8 116, .int .u8 32, .int .u8 100, .int .u8 111, .int .u8 32, .int .u8 121, .int .u8 97, .int .u8 32, .int .u8 119, .int .u8 97, .int .u8 110, .int .u8 116, .int .u8 32] 5 (by kernel_rfl)) ?_
            rintro _ W49 ⟨rfl, hb37, ch45, sz17⟩
            have zz49 := ch45.size
            have sS47 := Wk.Chg.step sS43 ch45 trivial
            refine ⟨sS47, ?_⟩
            refine Wk.dOp2 1 3 (by kernel_rfl) ?_ ?_
            · refine Wk.oEx (some 4) _ rfl rfl (by kernel_rfl) (Mur.run_mark 22 (.tmp 3) 5 rfl Tryd.underlying22 Tryd.underlying5 g4 4 4 #[.int .u8 74, .int .u8 101, .int .u8 102, .int .u8 101] (by kernel_rfl) (Wk.Chg.hp ch45 ht4 trivial)) ?_
              rintro _ W50 ⟨rfl, hb38, ch46⟩
              have zz50 := ch46.size
              have sS48 := Wk.Chg.step sS47 ch46 ⟨.inr (by omega), trivial⟩
              refine ⟨sS48, ?_⟩
              refine Wk.dOp 3 (by kernel_rfl) ?_
              refine Wk.oEx (some 6) _ rfl rfl (by kernel_rfl) (Mur.run_mark 22 (.tmp 5) 5 rfl Tryd.underlying22 Tryd.underlying5 W45.heap.size 16 16 #[.int .u8 119, .int .u8 104, .int .u8 97, .int .u8 116, .int .u8 32, .int .u8 100, .int .u8 111, .int .u8 32, .int .u8 121, .int .u8 97, .int .u8 32, .int .u8 119, .int .u8 97, .int .u8 110, .int .u8 116, .int .u8 32] (by kernel_rfl) (Wk.Chg.hp ch46 hb37 ⟨by omega, trivial⟩)) ?_
              rintro _ W51 ⟨rfl, hb39, ch47⟩
              have zz51 := ch47.size
              have sS49 := Wk.Chg.step sS48 ch47 ⟨.inr (by omega), trivial⟩
              refine ⟨sS49, ?_⟩
              exact tail1 _ _ _ (by kernel_rfl) ⟨g4, W45.heap.size, g8, by kernel_rfl, (Wk.Chg.hp ch47 hb38 ⟨by omega, trivial⟩), hb39, (Wk.Chg.hp ch47 (Wk.Chg.hp ch46 (Wk.Chg.hp ch45 ht8 trivial) ⟨by omega, trivial⟩) ⟨by omega, trivial⟩)⟩ sS49
            · refine Wk.oEx (some 6) _ rfl rfl (by kernel_rfl) (Mur.run_mark 22 (.tmp 5) 5 rfl Tryd.underlying22 Tryd.underlying5 W45.heap.size 16 16 #[.int .u8 119, .int .u8 104, .int .u8 97, .int .u8 116, .int .u8 32, .int .u8 100, .int .u8 111, .int .u8 32, .int .u8 121, .int .u8 97, .int .u8 32, .int .u8 119, .int .u8 97, .int .u8 110, .int .u8 116, .int .u8 32] (by kernel_rfl) hb37) ?_
              rintro _ W52 ⟨rfl, hb40, ch48⟩
              have zz52 := ch48.size
              have sS50 := Wk.Chg.step sS47 ch48 ⟨.inr (by omega), trivial⟩
              refine ⟨sS50, ?_⟩
              refine Wk.dOp2 1 6 (by kernel_rfl) ?_ ?_
              · refine Wk.oEx (some 4) _ rfl rfl (by kernel_rfl) (Mur.run_mark 22 (.tmp 3) 5 rfl Tryd.underlying22 Tryd.underlying5 g4 4 4 #[.int .u8 74, .int .u8 101, .int .u8 102, .int .u8 101] (by kernel_rfl) (Wk.Chg.hp ch48 (Wk.Chg.hp ch45 ht4 trivial) ⟨by omega, trivial⟩)) ?_
                rintro _ W53 ⟨rfl, hb41, ch49⟩
                have zz53 := ch49.size
                have sS51 := Wk.Chg.step sS50 ch49 ⟨.inr (by omega), trivial⟩
                refine ⟨sS51, ?_⟩
                exact tail1 _ _ _ (by kernel_rfl) ⟨g4, W45.heap.size, g8, by kernel_rfl, hb41, (Wk.Chg.hp ch49 hb40 ⟨by omega, trivial⟩), (Wk.Chg.hp ch49 (Wk.Chg.hp ch48 (Wk.Chg.hp ch45 ht8 trivial) ⟨by omega, trivial⟩) ⟨by omega, trivial⟩)⟩ sS51
              · refine Wk.oEx (some 9) _ rfl rfl (by kernel_rfl) (Wk.new_ex (.slice (some ⟨W52.heap.size, 0, none⟩) 2 2) #[.slice (some ⟨W45.heap.size, 0, none⟩) 16 16, .slice (some ⟨g8, 0, none⟩) 12 12] 22 (by kernel_rfl)) ?_
                rintro _ W54 ⟨rfl, hb42, ch50, sz18⟩
                have zz54 := ch50.size
                have sS52 := Wk.Chg.step sS50 ch50 trivial
                refine ⟨sS52, ?_⟩
                refine Wk.dOp 1 (by kernel_rfl) ?_
                refine Wk.oEx (some 4) _ rfl rfl (by kernel_rfl) (Mur.run_mark 22 (.tmp 3) 5 rfl Tryd.underlying22 Tryd.underlying5 g4 4 4 #[.int .u8 74, .int .u8 101, .int .u8 102, .int .u8 101] (by kernel_rfl) (Wk.Chg.hp ch50 (Wk.Chg.hp ch48 (Wk.Chg.hp ch45 ht4 trivial) ⟨by omega, trivial⟩) trivial)) ?_
                rintro _ W55 ⟨rfl, hb43, ch51⟩
                have zz55 := ch51.size
                have sS53 := Wk.Chg.step sS52 ch51 ⟨.inr (by omega), trivial⟩
                refine ⟨sS53, ?_⟩
                refine Wk.dOp 7 (by kernel_rfl) ?_
                refine Wk.oCall (some 10) 13 [.tmp 4, .tmp 9] #[22, 29] [.slice (some ⟨g4, 0, none⟩) 4 4, .slice (some ⟨W52.heap.size, 0, none⟩) 2 2] rfl rfl (by kernel_rfl) rfl (by kernel_rfl) (by kernel_rfl) ?_
                have hby15 := (Mur.byt_row [119, 104, 97, 116, 32, 100, 111, 32, 121, 97, 32, 119, 97, 110, 116, 32] (Wk.Chg.hp ch51 (Wk.Chg.hp ch50 hb40 trivial) ⟨by omega, trivial⟩))
                have hby16 := (Mur.byt_row [102, 111, 114, 32, 110, 111, 116, 104, 105, 110, 103, 63] (Wk.Chg.hp ch51 (Wk.Chg.hp ch50 (Wk.Chg.hp ch48 (Wk.Chg.hp ch45 ht8 trivial) ⟨by omega, trivial⟩) trivial) ⟨by omega, trivial⟩))
                have kk61 : Wk.Chg [] w W1 := Wk.Chg.step ((Wk.Chg.refl _).more (by simp)) ch1 trivial
                have kk62 := Wk.Chg.step kk61 ch2 ⟨.inr (by omega), trivial⟩
                have kk63 := Wk.Chg.step kk62 ch3 trivial
                have kk64 := Wk.Chg.step kk63 sS43 trivial
                have kk65 := Wk.Chg.step kk64 ch45 trivial
                have kk66 := Wk.Chg.step kk65 ch48 ⟨.inr (by omega), trivial⟩
                have kk67 := Wk.Chg.step kk66 ch50 trivial
                have kk68 := Wk.Chg.step kk67 ch51 ⟨.inr (by omega), trivial⟩
                refine (Tag_any ([74, 101, 102, 101]) (some ⟨g4, 0, none⟩) 4 4 ([⟨(some ⟨W45.heap.size, 0, none⟩), 16, 16, ([119, 104, 97, 116, 32, 100, 111, 32, 121, 97, 32, 119, 97, 110, 116, 32])⟩, ⟨(some ⟨g8, 0, none⟩), 12, 12, ([102, 111, 114, 32, 110, 111, 116, 104, 105, 110, 103, 63])⟩]) (some ⟨W52.heap.size, 0, none⟩) 2 2 W55 (HV.out.below (Wk.Chg.below0 kk68)) (Mur.byt_row [74, 101, 102, 101] hb43) (by omega) (fun h => by cases h) (by omega) (Mur.segs_lit [⟨(some ⟨W45.heap.size, 0, none⟩), 16, 16, ([119, 104, 97, 116, 32, 100, 111, 32, 121, 97, 32, 119, 97, 110, 116, 32])⟩, ⟨(some ⟨g8, 0, none⟩), 12, 12, ([102, 111, 114, 32, 110, 111, 116, 104, 105, 110, 103, 63])⟩] 2 (Wk.Chg.hp ch51 hb42 ⟨by omega, trivial⟩) (Mur.ok_cons ⟨(show 16 ≤ 16 by omega), (fun h => by cases h), hby15, (show 16 ≤ Go.maxLen by first | omega | (unfold Go.maxLen; omega))⟩ (Mur.ok_cons ⟨(show 12 ≤ 12 by omega), (fun h => by cases h), hby16, (show 12 ≤ Go.maxLen by first | omega | (unfold Go.maxLen; omega))⟩ Mur.ok_nil)) rfl) (by omega) (by show (([119, 104, 97, 116, 32, 100, 111, 32, 121, 97, 32, 119, 97, 110, 116, 32]) ++ (([102, 111, 114, 32, 110, 111, 116, 104, 105, 110, 103, 63]) ++ [])).length ≤ _; simp only [List.length_append, List.length_nil, List.length_cons]; have hl0 := hby15.1; have hl1 := hby16.1; omega)).mono ?_
                rintro _ W56 ⟨dd8, hd8, hdl8, rfl, ch52⟩
                have zz56 := ch52.size
                have sS54 := Wk.Chg.step sS53 ch52 trivial
                refine ⟨_, rfl, sS54, ?_⟩
                refine Wk.dVal 9 (some 12) (.bool true) rfl rfl (by kernel_rfl) (by kernel_rfl) (by kernel_rfl) (fun _ _ _ h => h) (by kernel_rfl) (fun w' hw' => (Mur.run_eql_true digT dd8 Mur.jefe hdl8 ((hd8.out.trans Mur.hmac_jefe)) w' (.tmp 10) (.tmp 11) 25 rfl (by kernel_rfl) (by kernel_rfl))) sS54 ?_
                refine Wk.dVal 10 (some 0) (.bool true) rfl rfl (by kernel_rfl) (by kernel_rfl) (by kernel_rfl) (fun _ _ _ h => h) (by kernel_rfl) (fun w' hw' => by kernel_rfl) sS54 ?_
                refine Wk.dEnd (by kernel_rfl) ?_
                refine Wk.nxt ?_
                refine wp_ret ?_
                have kk69 := Wk.Chg.step kk68 ch52 trivial
                refine Wk.ret (.bool true) rfl (by kernel_rfl) ?_
                exact ⟨rfl, kk69⟩
        · intro tail4
          refine Wk.dTail 7 #[true, false, true, false, true, false, false, false, true, false, false] (fun a wt => ∃ (g4 : Nat) (g6 : Nat) (g8 : Nat), a = Known_T2_5 a.tmps (.slice (some ⟨g4, 0, none⟩) 4 4) (.slice (some ⟨g6, 0, none⟩) 16 16) (.slice (some ⟨g8, 0, none⟩) 12 12) (.agg #[.int .u8 91, .int .u8 220, .int .u8 193, .int .u8 70, .int .u8 191, .int .u8 96, .int .u8 117, .int .u8 78, .int .u8 106, .int .u8 4, .int .u8 36, .int .u8 38, .int .u8 8, .int .u8 149, .int .u8 117, .int .u8 199, .int .u8 90, .int .u8 0, .int .u8 63, .int .u8 8, .int .u8 157, .int .u8 39, .int .u8 57, .int .u8 131, .int .u8 157, .int .u8 236, .int .u8 88, .int .u8 185, .int .u8 100, .int .u8 236, .int .u8 56, .int .u8 67]) ∧ wt.heap[g4]? = some (.cells #[.int .u8 74, .int .u8 101, .int .u8 102, .int .u8 101] 5 (0, 0)) ∧ wt.heap[g6]? = some (.cells #[.int .u8 119, .int .u8 104, .int .u8 97, .int .u8 116, .int .u8 32, .int .u8 100, .int .u8 111, .int .u8 32, .int .u8 121, .int .u8 97, .int .u8 32, .int .u8 119, .int .u8 97, .int .u8 110, .int .u8 116, .int .u8 32] 5 (0, 0)) ∧ wt.heap[g8]? = some (.cells #[.int .u8 102, .int .u8 111, .int .u8 114, .int .u8 32, .int .u8 110, .int .u8 111, .int .u8 116, .int .u8 104, .int .u8 105, .int .u8 110, .int .u8 103, .int .u8 63] 5 (0, 0)) ∧ W3.heap.size ≤ g4 ∧ W3.heap.size ≤ g6 ∧ W3.heap.size ≤ g8 ∧ g6 ≠ g4 ∧ g8 ≠ g4 ∧ g8 ≠ g6) ?_ ?_
          · rintro _ aa5 W57 rfl ⟨g4, g6, g8, hF5, ht4, ht6, ht8, hkf⟩ sS55
            generalize aa5.tmps = bb5 at hF5
            subst hF5
            have zz57 := sS55.size
            have htl4 := (Array.getElem?_eq_some_iff.1 ht4).1
            have htl6 := (Array.getElem?_eq_some_iff.1 ht6).1
            have htl8 := (Array.getElem?_eq_some_iff.1 ht8).1
            refine Wk.dOp3 1 3 5 (by kernel_rfl) ?_ ?_ ?_
            · refine Wk.oEx (some 4) _ rfl rfl (by kernel_rfl) (Mur.run_mark 22 (.tmp 3) 5 rfl Tryd.underlying22 Tryd.underlying5 g4 4 4 #[.int .u8 74, .int .u8 101, .int .u8 102, .int .u8 101] (by kernel_rfl) ht4) ?_
              rintro _ W58 ⟨rfl, hb44, ch53⟩
              have zz58 := ch53.size
              have sS56 := Wk.Chg.step sS55 ch53 ⟨.inr (by omega), trivial⟩
              refine ⟨sS56, ?_⟩
              refine Wk.dOp2 3 5 (by kernel_rfl) ?_ ?_
              · refine Wk.oEx (some 6) _ rfl rfl (by kernel_rfl) (Mur.run_mark 22 (.tmp 5) 5 rfl Tryd.underlying22 Tryd.underlying5 g6 16 16 #[.int .u8 119, .int .u8 104, .int .u8 97, .int .u8 116, .int .u8 32, .int .u8 100, .int .u8 111, .int .u8 32, .int .u8 121, .int .u8 97, .int .u8 32, .int .u8 119, .int .u8 97, .int .u8 110, .int .u8 116, .int .u8 32] (by kernel_rfl) (Wk.Chg.hp ch53 ht6 ⟨by omega, trivial⟩)) ?_
                rintro _ W59 ⟨rfl, hb45, ch54⟩
                have zz59 := ch54.size
                have sS57 := Wk.Chg.step sS56 ch54 ⟨.inr (by omega), trivial⟩
                refine ⟨sS57, ?_⟩
                refine Wk.dOp 5 (by kernel_rfl) ?_
                refine Wk.oEx (some 8) _ rfl rfl (by kernel_rfl) (Mur.run_mark 22 (.tmp 7) 5 rfl Tryd.underlying22 Tryd.underlying5 g8 12 12 #[.int .u8 102, .int .u8 111, .int .u8 114, .int .u8 32, .int .u8 110, .int .u8 111, .int .u8 116, .int .u8 104, .int .u8 105, .int .u8 110, .int .u8 103, .int .u8 63] (by kernel_rfl) (Wk.Chg.hp ch54 (Wk.Chg.hp ch53 ht8 ⟨by omega, trivial⟩) ⟨by omega, trivial⟩)) ?_
                rintro _ W60 ⟨rfl, hb46, ch55⟩
                have zz60 := ch55.size
                have sS58 := Wk.Chg.step sS57 ch55 ⟨.inr (by omega), trivial⟩
                refine ⟨sS58, ?_⟩
                exact tail1 _ _ _ (by kernel_rfl) ⟨g4, g6, g8, by kernel_rfl, (Wk.Chg.hp ch55 (Wk.Chg.hp ch54 hb44 ⟨by omega, trivial⟩) ⟨by omega, trivial⟩), (Wk.Chg.hp ch55 hb45 ⟨by omega, trivial⟩), hb46⟩ sS58
              · refine Wk.oEx (some 8) _ rfl rfl (by kernel_rfl) (Mur.run_mark 22 (.tmp 7) 5 rfl Tryd.underlying22 Tryd.underlying5 g8 12 12 #[.int .u8 102, .int .u8 111, .int .u8 114, .int .u8 32, .int .u8 110, .int .u8 111, .int .u8 116, .int .u8 104, .int .u8 105, .int .u8 110, .int .u8 103, .int .u8 63] (by kernel_rfl) (Wk.Chg.hp ch53 ht8 ⟨by omega, trivial⟩)) ?_
                rintro _ W61 ⟨rfl, hb47, ch56⟩
                have zz61 := ch56.size
                have sS59 := Wk.Chg.step sS56 ch56 ⟨.inr (by omega), trivial⟩
                refine ⟨sS59, ?_⟩
                refine Wk.dOp 3 (by kernel_rfl) ?_
                refine Wk.oEx (some 6) _ rfl rfl (by kernel_rfl) (Mur.run_mark 22 (.tmp 5) 5 rfl Tryd.underlying22 Tryd.underlying5 g6 16 16 #[.int .u8 119, .int .u8 104, .int .u8 97, .int .u8 116, .int .u8 32, .int .u8 100, .int .u8 111, .int .u8 32, .int .u8 121, .int .u8 97, .int .u8 32, .int .u8 119, .int .u8 97, .int .u8 110, .int .u8 116, .int .u8 32] (by kernel_rfl) (Wk.Chg.hp ch56 (Wk.Chg.hp ch53 ht6 ⟨by omega, trivial⟩) ⟨by omega, trivial⟩)) ?_
                rintro _ W62 ⟨rfl, hb48, ch57⟩
                have zz62 := ch57.size
                have sS60 := Wk.Chg.step sS59 ch57 ⟨.inr (by omega), trivial⟩
                refine ⟨sS60, ?_⟩
                exact tail1 _ _ _ (by kernel_rfl) ⟨g4, g6, g8, by kernel_rfl, (Wk.Chg.hp ch57 (Wk.Chg.hp ch56 hb44 ⟨by omega, trivial⟩) ⟨by omega, trivial⟩), hb48, (Wk.Chg.hp ch57 hb47 ⟨by omega, trivial⟩)⟩ sS60
            · refine Wk.oEx (some 6) _ rfl rfl (by kernel_rfl) (Mur.run_mark 22 (.tmp 5) 5 rfl Tryd.underlying22 Tryd.underlying5 g6 16 16 #[.int .u8 119, .int .u8 104, .int .u8 97, .int .u8 116, .int .u8 32, .int .u8 100, .int .u8 111, .int .u8 32, .int .u8 121, .int .u8 97, .int .u8 32, .int .u8 119, .int .u8 97, .int .u8 110, .int .u8 116, .int .u8 32] (by kernel_rfl) ht6) ?_
              rintro _ W63 ⟨rfl, hb49, ch58⟩
              have zz63 := ch58.size
              have sS61 := Wk.Chg.step sS55 ch58 ⟨.inr (by omega), trivial⟩
              refine ⟨sS61, ?_⟩
              refine Wk.dOp2 1 5 (by kernel_rfl) ?_ ?_
              · refine Wk.oEx (some 4) _ rfl rfl (by kernel_rfl) (Mur.run_mark 22 (.tmp 3) 5 rfl Tryd.underlying22 Tryd.underlying5 g4 4 4 #[.int .u8 74, .int .u8 101, .int .u8 102, .int .u8 101] (by kernel_rfl) (Wk.Chg.hp ch58 ht4 ⟨by omega, trivial⟩)) ?_
                rintro _ W64 ⟨rfl, hb50, ch59⟩
                have zz64 := ch59.size
                have sS62 := Wk.Chg.step sS61 ch59 ⟨.inr (by omega), trivial⟩
                refine ⟨sS62, ?_⟩
                refine Wk.dOp 5 (by kernel_rfl) ?_
                refine Wk.oEx (some 8) _ rfl rfl (by kernel_rfl) (Mur.run_mark 22 (.tmp 7) 5 rfl Tryd.underlying22 Tryd.underlying5 g8 12 12 #[.int .u8 102, .int .u8 111, .int .u8 114, .int .u8 32, .int .u8 110, .int .u8 111, .int .u8 116, .int .u8 104, .int .u8 105, .int .u8 110, .int .u8 103, .int .u8 63] (by kernel_rfl) (Wk.Chg.hp ch59 (Wk.Chg.hp ch58 ht8 ⟨by omega, trivial⟩) ⟨by omega, trivial⟩)) ?_
                rintro _ W65 ⟨rfl, hb51, ch60⟩
                have zz65 := ch60.size
                have sS63 := Wk.Chg.step sS62 ch60 ⟨.inr (by omega), trivial⟩
                refine ⟨sS63, ?_⟩
                exact tail1 _ _ _ (by kernel_rfl) ⟨g4, g6, g8, by kernel_rfl, (Wk.Chg.hp ch60 hb50 ⟨by omega, trivial⟩), (Wk.Chg.hp ch60 (Wk.Chg.hp ch59 hb49 ⟨by omega, trivial⟩) ⟨by omega, trivial⟩), hb51⟩ sS63
              · refine Wk.oEx (some 8) _ rfl rfl (by kernel_rfl) (Mur.run_mark 22 (.tmp 7) 5 rfl Tryd.underlying22 Tryd.underlying5 g8 12 12 #[.int .u8 102, .int .u8 111, .int .u8 114, .int .u8 32, .int .u8 110, .int .u8 111, .int .u8 116, .int .u8 104, .int .u8 105, .int .u8 110, .int .u8 103, .int .u8 63] (by kernel_rfl) (Wk.Chg.hp ch58 ht8 ⟨by omega, trivial⟩)) ?_
                rintro _ W66 ⟨rfl, hb52, ch61⟩
                have zz66 := ch61.size
                have sS64 := Wk.Chg.step sS61 ch61 ⟨.inr (by omega), trivial⟩
                refine ⟨sS64, ?_⟩
                refine Wk.dOp2 1 6 (by kernel_rfl) ?_ ?_
                · refine Wk.oEx (some 4) _ rfl rfl (by kernel_rfl) (Mur.run_mark 22 (.tmp 3) 5 rfl Tryd.underlying22 Tryd.underlying5 g4 4 4 #[.int .u8 74, .int .u8 101, .int .u8 102, .int .u8 101] (by kernel_rfl) (Wk.Chg.hp ch61 (Wk.Chg.hp ch58 ht4 ⟨by omega, trivial⟩) ⟨by omega, trivial⟩)) ?_
                  rintro _ W67 ⟨rfl, hb53, ch62⟩
                  have zz67 := ch62.size
                  have sS65 := Wk.Chg.step sS64 ch62 ⟨.inr (by omega), trivial⟩
                  refine ⟨sS65, ?_⟩
                  exact tail1 _ _ _ (by kernel_rfl) ⟨g4, g6, g8, by kernel_rfl, hb53, (Wk.Chg.hp ch62 (Wk.Chg.hp ch61 hb49 ⟨by omega, trivial⟩) ⟨by omega, trivial⟩), (Wk.Chg.hp ch62 hb52 ⟨by omega, trivial⟩)⟩ sS65
                · refine Wk.oEx (some 9) _ rfl rfl (by kernel_rfl) (Wk.new_ex (.slice (some ⟨W66.heap.size, 0, none⟩) 2 2) #[.slice (some ⟨g6, 0, none⟩) 16 16, .slice (some ⟨g8, 0, none⟩) 12 12] 22 (by kernel_rfl)) ?_
                  rintro _ W68 ⟨rfl, hb54, ch63, sz19⟩
                  have zz68 := ch63.size
                  have sS66 := Wk.Chg.step sS64 ch63 trivial
                  refine ⟨sS66, ?_⟩
                  refine Wk.dOp 1 (by kernel_rfl) ?_
                  refine Wk.oEx (some 4) _ rfl rfl (by kernel_rfl) (Mur.run_mark 22 (.tmp 3) 5 rfl Tryd.underlying22 Tryd.underlying5 g4 4 4 #[.int .u8 74, .int .u8 101, .int .u8 102, .int .u8 101] (by kernel_rfl) (Wk.Chg.hp ch63 (Wk.Chg.hp ch61 (Wk.Chg.hp ch58 ht4 ⟨by omega, trivial⟩) ⟨by omega, trivial⟩) trivial)) ?_
                  rintro _ W69 ⟨rfl, hb55, ch64⟩
                  have zz69 := ch64.size
                  have sS67 := Wk.Chg.step sS66 ch64 ⟨.inr (by omega), trivial⟩
                  refine ⟨sS67, ?_⟩
                  refine Wk.dOp 7 (by kernel_rfl) ?_
                  refine Wk.oCall (some 10) 13 [.tmp 4, .tmp 9] #[22, 29] [.slice (some ⟨g4, 0, none⟩) 4 4, .slice (some ⟨W66.heap.size, 0, none⟩) 2 2] rfl rfl (by kernel_rfl) rfl (by kernel_rfl) (by kernel_rfl) ?_
                  have hby17 := (Mur.byt_row [119, 104, 97, 116, 32, 100, 111, 32, 121, 97, 32, 119, 97, 110, 116, 32] (Wk.Chg.hp ch64 (Wk.Chg.hp ch63 (Wk.Chg.hp ch61 hb49 ⟨by omega, trivial⟩) trivial) ⟨by omega, trivial⟩))
                  have hby18 := (Mur.byt_row [102, 111, 114, 32, 110, 111, 116, 104, 105, 110, 103, 63] (Wk.Chg.hp ch64 (Wk.Chg.hp ch63 hb52 trivial) ⟨by omega, trivial⟩))
                  have kk70 : Wk.Chg [] w W1 := Wk.Chg.step ((Wk.Chg.refl _).more (by simp)) ch1 trivial
                  have kk71 := Wk.Chg.step kk70 ch2 ⟨.inr (by omega), trivial⟩
                  have kk72 := Wk.Chg.step kk71 ch3 trivial
                  have kk73 := Wk.Chg.step kk72 sS55 trivial
                  have kk74 := Wk.Chg.step kk73 ch58 ⟨.inr (by omega), trivial⟩
                  have kk75 := Wk.Chg.step kk74 ch61 ⟨.inr (by omega), trivial⟩
                  have kk76 := Wk.Chg.step kk75 ch63 trivial
                  have kk77 := Wk.Chg.step kk76 ch64 ⟨.inr (by omega), trivial⟩
                  refine (Tag_any ([74, 101, 102, 101]) (some ⟨g4, 0, none⟩) 4 4 ([⟨(some ⟨g6, 0, none⟩), 16, 16, ([119, 104, 97, 116, 32, 100, 111, 32, 121, 97, 32, 119, 97, 110, 116, 32])⟩, ⟨(some ⟨g8, 0, none⟩), 12, 12, ([102, 111, 114, 32, 110, 111, 116, 104, 105, 110, 103, 63])⟩]) (some ⟨W66.heap.size, 0, none⟩) 2 2 W69 (HV.out.below (Wk.Chg.below0 kk77)) (Mur.byt_row [74, 101, 102, 101] hb55) (by omega) (fun h => by cases h) (by omega) (Mur.segs_lit [⟨(some ⟨g6, 0, none⟩), 16, 16, ([119, 104, 97, 116, 32, 100, 111, 32, 121, 97, 32, 119, 97, 110, 116, 32])⟩, ⟨(some ⟨g8, 0, none⟩), 12, 12, ([102, 111, 114, 32, 110, 111, 116, 104, 105, 110, 103, 63])⟩] 2 (Wk.Chg.hp ch64 hb54 ⟨by omega, trivial⟩) (Mur.ok_cons ⟨(show 16 ≤ 16 by omega), (fun h => by cases h), hby17, (show 16 ≤ Go.maxLen by first | omega | (unfold Go.maxLen; omega))⟩ (Mur.ok_cons ⟨(show 12 ≤ 12 by omega), (fun h => by cases h), hby18, (show 12 ≤ Go.maxLen by first | omega | (unfold Go.maxLen; omega))⟩ Mur.ok_nil)) rfl) (by omega) (by show (([119, 104, 97, 116, 32, 100, 111, 32, 121, 97, 32, 119, 97, 110, 116, 32]) ++ (([102, 111, 114, 32, 110, 111, 116, 104, 105, 110, 103, 63]) ++ [])).length ≤ _; simp only [List.length_append, List.length_nil, List.length_cons]; have hl0 := hby17.1; have hl1 := hby18.1; omega)).mono ?_
                  rintro _ W70 ⟨dd9, hd9, hdl9, rfl, ch65⟩
                  have zz70 := ch65.size
                  have sS68 := Wk.Chg.step sS67 ch65 trivial
                  refine ⟨_, rfl, sS68, ?_⟩
                  refine Wk.dVal 9 (some 12) (.bool true) rfl rfl (by kernel_rfl) (by kernel_rfl) (by kernel_rfl) (fun _ _ _ h => h) (by kernel_rfl) (fun w' hw' => (Mur.run_eql_true digT dd9 Mur.jefe hdl9 ((hd9.out.trans Mur.hmac_jefe)) w' (.tmp 10) (.tmp 11) 25 rfl (by kernel_rfl) (by kernel_rfl))) sS68 ?_
                  refine Wk.dVal 10 (some 0) (.bool true) rfl rfl (by kernel_rfl) (by kernel_rfl) (by kernel_rfl) (fun _ _ _ h => h) (by kernel_rfl) (fun w' hw' => by kernel_rfl) sS68 ?_
                  refine Wk.dEnd (by kernel_rfl) ?_
                  refine Wk.nxt ?_
                  refine wp_ret ?_
                  have kk78 := Wk.Chg.step kk77 ch65 trivial
                  refine Wk.ret (.bool true) rfl (by kernel_rfl) ?_
                  exact ⟨rfl, kk78⟩
            · refine Wk.oEx (some 8) _ rfl rfl (by kernel_rfl) (Mur.run_mark 22 (.tmp 7) 5 rfl Tryd.underlying22 Tryd.underlying5 g8 12 12 #[.int .u8 102, .int .u8 111, .int .u8 114, .int .u8 32, .int .u8 110, .int .u8 111, .int .u8 116, .int .u8 104, .int .u8 105, .int .u8 110, .int .u8 103, .int .u8 63] (by kernel_rfl) ht8) ?_
              rintro _ W71 ⟨rfl, hb56, ch66⟩
              have zz71 := ch66.size
              have sS69 := Wk.Chg.step sS55 ch66 ⟨.inr (by omega), trivial⟩
              refine ⟨sS69, ?_⟩
              refine Wk.dOp2 1 3 (by kernel_rfl) ?_ ?_
              · refine Wk.oEx (some 4) _ rfl rfl (by kernel_rfl) (Mur.run_mark 22 (.tmp 3) 5 rfl Tryd.underlying22 Tryd.underlying5 g4 4 4 #[.int .u8 74, .int .u8 101, .int .u8 102, .int .u8 101] (by kernel_rfl) (Wk.Chg.hp ch66 ht4 ⟨by omega, trivial⟩)) ?_
                rintro _ W72 ⟨rfl, hb57, ch67⟩
                have zz72 := ch67.size
                have sS70 := Wk.Chg.step sS69 ch67 ⟨.inr (by omega), trivial⟩
                refine ⟨sS70, ?_⟩
                refine Wk.dOp 3 (by kernel_rfl) ?_
                refine Wk.oEx (some 6) _ rfl rfl (by kernel_rfl) (Mur.run_mark 22 (.tmp 5) 5 rfl Tryd.underlying22 Tryd.underlying5 g6 16 16 #[.int .u8 119, .int .u8 104, .int .u8 97, .int .u8 116, .int .u8 32, .int .u8 100, .int .u8 111, .int .u8 32, .int .u8 121, .int .u8 97, .int .u8 32, .int .u8 119, .int .u8 97, .int .u8 110, .int .u8 116, .int .u8 32] (by kernel_rfl) (Wk.Chg.hp ch67 (Wk.Chg.hp ch66 ht6 ⟨by omega, trivial⟩) ⟨by omega, trivial⟩)) ?_
                rintro _ W73 ⟨rfl, hb58, ch68⟩
                have zz73 := ch68.size
                have sS71 := Wk.Chg.step sS70 ch68 ⟨.inr (by omega), trivial⟩
                refine ⟨sS71, ?_⟩
                exact tail1 _ _ _ (by kernel_rfl) ⟨g4, g6, g8, by kernel_rfl, (Wk.Chg.hp ch68 hb57 ⟨by omega, trivial⟩), hb58, (Wk.Chg.hp ch68 (Wk.Chg.hp ch67 hb56 ⟨by omega, trivial⟩) ⟨by omega, trivial⟩)⟩ sS71
              · refine Wk.oEx (some 6) _ rfl rfl (by kernel_rfl) (Mur.run_mark 22 (.tmp 5) 5 rfl Tryd.underlying22 Tryd.underlying5 g6 16 16 #[.int .u8 119, .int .u8 104, .int .u8 97, .int .u8 116, .int .u8 32, .int .u8 100, .int .u8 111, .int .u8 32, .int .u8 121, .int .u8 97, .int .u8 32, .int .u8 119, .int .u8 97, .int .u8 110, .int .u8 116, .int .u8 32] (by kernel_rfl) (Wk.Chg.hp ch66 ht6 ⟨by omega, trivial⟩)) ?_
                rintro _ W74 ⟨rfl, hb59, ch69⟩
                have zz74 := ch69.size
                have sS72 := Wk.Chg.step sS69 ch69 ⟨.inr (by omega), trivial⟩
                refine ⟨sS72, ?_⟩
                refine Wk.dOp2 1 6 (by kernel_rfl) ?_ ?_
                · refine Wk.oEx (some 4) _ rfl rfl (by kernel_rfl) (Mur.run_mark 22 (.tmp 3) 5 rfl Tryd.underlying22 Tryd.underlying5 g4 4 4 #[.int .u8 74, .int .u8 101, .int .u8 102, .int .u8 101] (by kernel_rfl) (Wk.Chg.hp ch69 (Wk.Chg.hp ch66 ht4 ⟨by omega, trivial⟩) ⟨by omega, trivial⟩)) ?_
                  rintro _ W75 ⟨rfl, hb60, ch70⟩
                  have zz75 := ch70.size
                  have sS73 := Wk.Chg.step sS72 ch70 ⟨.inr (by omega), trivial⟩
                  refine ⟨sS73, ?_⟩
                  exact tail1 _ _ _ (by kernel_rfl) ⟨g4, g6, g8, by kernel_rfl, hb60, (Wk.Chg.hp ch70 hb59 ⟨by omega, trivial⟩), (Wk.Chg.hp ch70 (Wk.Chg.hp ch69 hb56 ⟨by omega, trivial⟩) ⟨by omega, trivial⟩)⟩ sS73
                · refine Wk.oEx (some 9) _ rfl rfl (by kernel_rfl) (Wk.new_ex (.slice (some ⟨W74.heap.size, 0, none⟩) 2 2) #[.slice (some ⟨g6, 0, none⟩) 16 16, .slice (some ⟨g8, 0, none⟩) 12 12] 22 (by kernel_rfl)) ?_
                  rintro _ W76 ⟨rfl, hb61, ch71, sz20⟩
                  have zz76 := ch71.size
                  have sS74 := Wk.Chg.step sS72 ch71 trivial
                  refine ⟨sS74, ?_⟩
                  refine Wk.dOp 1 (by kernel_rfl) ?_
                  refine Wk.oEx (some 4) _ rfl rfl (by kernel_rfl) (Mur.run_mark 22 (.tmp 3) 5 rfl Tryd.underlying22 Tryd.underlying5 g4 4 4 #[.int .u8 74, .int .u8 101, .int .u8 102, .int .u8 101] (by kernel_rfl) (Wk.Chg.hp ch71 (Wk.Chg.hp ch69 (Wk.Chg.hp ch66 ht4 ⟨by omega, trivial⟩) ⟨by omega, trivial⟩) trivial)) ?_
                  rintro _ W77 ⟨rfl, hb62, ch72⟩
                  have zz77 := ch72.size
                  have sS75 := Wk.Chg.step sS74 ch72 ⟨.inr (by omega), trivial⟩
                  refine ⟨sS75, ?_⟩
                  refine Wk.dOp 7 (by kernel_rfl) ?_
                  refine Wk.oCall (some 10) 13 [.tmp 4, .tmp 9] #[22, 29] [.slice (some ⟨g4, 0, none⟩) 4 4, .slice (some ⟨W74.heap.size, 0, none⟩) 2 2] rfl rfl (by kernel_rfl) rfl (by kernel_rfl) (by kernel_rfl) ?_
                  have hby19 := (Mur.byt_row [119, 104, 97, 116, 32, 100, 111, 32, 121, 97, 32, 119, 97, 110, 116, 32] (Wk.Chg.hp ch72 (Wk.Chg.hp ch71 hb59 trivial) ⟨by omega, trivial⟩))
                  have hby20 := (Mur.byt_row [102, 111, 114, 32, 110, 111, 116, 104, 105, 110, 103, 63] (Wk.Chg.hp ch72 (Wk.Chg.hp ch71 (Wk.Chg.hp ch69 hb56 ⟨by omega, trivial⟩) trivial) ⟨by omega, trivial⟩))
                  have kk79 : Wk.Chg [] w W1 := Wk.Chg.step ((Wk.Chg.refl _).more (by simp)) ch1 trivial
                  have kk80 := Wk.Chg.step kk79 ch2 ⟨.inr (by omega), trivial⟩
                  have kk81 := Wk.Chg.step kk80 ch3 trivial
                  have kk82 := Wk.Chg.step kk81 sS55 trivial
                  have kk83 := Wk.Chg.step kk82 ch66 ⟨.inr (by omega), trivial⟩
                  have kk84 := Wk.Chg.step kk83 ch69 ⟨.inr (by omega), trivial⟩
                  have kk85 := Wk.Chg.step kk84 ch71 trivial
                  have kk86 := Wk.Chg.step kk85 ch72 ⟨.inr (by omega), trivial⟩
                  refine (Tag_any ([74, 101, 102, 101]) (some ⟨g4, 0, none⟩) 4 4 ([⟨(some ⟨g6, 0, none⟩), 16, 16, ([119, 104, 97, 116, 32, 100, 111, 32, 121, 97, 32, 119, 97, 110, 116, 32])⟩, ⟨(some ⟨g8, 0, none⟩), 12, 12, ([102, 111, 114, 32, 110, 111, 116, 104, 105, 110, 103, 63])⟩]) (some ⟨W74.heap.size, 0, none⟩) 2 2 W77 (HV.out.below (Wk.Chg.below0 kk86)) (Mur.byt_row [74, 101, 102, 101] hb62) (by omega) (fun h => by cases h) (by omega) (Mur.segs_lit [⟨(some ⟨g6, 0, none⟩), 16, 16, ([119, 104, 97, 116, 32, 100, 111, 32, 121, 97, 32, 119, 97, 110, 116, 32])⟩, ⟨(some ⟨g8, 0, none⟩), 12, 12, ([102, 111, 114, 32, 110, 111, 116, 104, 105, 110, 103, 63])⟩] 2 (Wk.Chg.hp ch72 hb61 ⟨by omega, trivial⟩) (Mur.ok_cons ⟨(show 16 ≤ 16 by omega), (fun h => by cases h), hby19, (show 16 ≤ Go.maxLen by first | omega | (unfold Go.maxLen; omega))⟩ (Mur.ok_cons ⟨(show 12 ≤ 12 by omega), (fun h => by cases h), hby20, (show 12 ≤ Go.maxLen by first | omega | (unfold Go.maxLen; omega))⟩ Mur.ok_nil)) rfl) (by omega) (by show (([119, 104, 97, 116, 32, 100, 111, 32, 121, 97, 32, 119, 97, 110, 116, 32]) ++ (([102, 111, 114, 32, 110, 111, 116, 104, 105, 110, 103, 63]) ++ [])).length ≤ _; simp only [List.length_append, List.length_nil, List.length_cons]; have hl0 := hby19.1; have hl1 := hby20.1; omega)).mono ?_
                  rintro _ W78 ⟨dd10, hd10, hdl10, rfl, ch73⟩
                  have zz78 := ch73.size
                  have sS76 := Wk.Chg.step sS75 ch73 trivial
                  refine ⟨_, rfl, sS76, ?_⟩
                  refine Wk.dVal 9 (some 12) (.bool true) rfl rfl (by kernel_rfl) (by kernel_rfl) (by kernel_rfl) (fun _ _ _ h => h) (by kernel_rfl) (fun w' hw' => (Mur.run_eql_true digT dd10 Mur.jefe hdl10 ((hd10.out.trans Mur.hmac_jefe)) w' (.tmp 10) (.tmp 11) 25 rfl (by kernel_rfl) (by kernel_rfl))) sS76 ?_
                  refine Wk.dVal 10 (some 0) (.bool true) rfl rfl (by kernel_rfl) (by kernel_rfl) (by kernel_rfl) (fun _ _ _ h => h) (by kernel_rfl) (fun w' hw' => by kernel_rfl) sS76 ?_
                  refine Wk.dEnd (by kernel_rfl) ?_
                  refine Wk.nxt ?_
                  refine wp_ret ?_
                  have kk87 := Wk.Chg.step kk86 ch73 trivial
                  refine Wk.ret (.bool true) rfl (by kernel_rfl) ?_
                  exact ⟨rfl, kk87⟩
          · intro tail5
            refine Wk.dTail 7 #[true, false, true, true, false, false, false, false, true, false, false] (fun a wt => ∃ (g4 : Nat) (g6 : Nat), a = Known_T2_6 a.tmps (.slice (some ⟨g4, 0, none⟩) 4 4) (.slice (some ⟨g6, 0, none⟩) 16 16) (.agg #[.int .u8 91, .int .u8 220, .int .u8 193, .int .u8 70, .int .u8 191, .int .u8 96, .int .u8 117, .int .u8 78, .int .u8 106, .int .u8 4, .int .u8 36, .int .u8 38, .int .u8 8, .int .u8 149, .int .u8 117, .int .u8 199, .int .u8 90, .int .u8 0, .int .u8 63, .int .u8 8, .int .u8 157, .int .u8 39, .int .u8 57, .int .u8 131, .int .u8 157, .int .u8 236, .int .u8 88, .int .u8 185, .int .u8 100, .int .u8 236, .int .u8 56, .int .u8 67]) ∧ wt.heap[g4]? = some (.cells #[.int .u8 74, .int .u8 101, .int .u8 102, .int .u8 101] 5 (0, 0)) ∧ wt.heap[g6]? = some (.cells #[.int .u8 119, .int .u8 104, .int .u8 97, .int .u8 116, .int .u8 32, .int .u8 100, .int .u8 111, .int .u8 32, .int .u8 121, .int .u8 97, .int .u8 32, .int .u8 119, .int .u8 97, .int .u8 110, .int .u8 116, .int .u8 32] 5 (16, 17)) ∧ W3.heap.size ≤ g4 ∧ W3.heap.size ≤ g6 ∧ g6 ≠ g4) ?_ ?_
            · rintro _ aa6 W79 rfl ⟨g4, g6, hF6, ht4, ht6, hkf⟩ sS77
              generalize aa6.tmps = bb6 at hF6
              subst hF6
              have zz79 := sS77.size
              have htl4 := (Array.getElem?_eq_some_iff.1 ht4).1
              have htl6 := (Array.getElem?_eq_some_iff.1 ht6).1
              refine Wk.dOp2 1 4 (by kernel_rfl) ?_ ?_
              · refine Wk.oEx (some 4) _ rfl rfl (by kernel_rfl) (Mur.run_mark 22 (.tmp 3) 5 rfl Tryd.underlying22 Tryd.underlying5 g4 4 4 #[.int .u8 74, .int .u8 101, .int .u8 102, .int .u8 101] (by kernel_rfl) ht4) ?_
                rintro _ W80 ⟨rfl, hb63, ch74⟩
                have zz80 := ch74.size
                have sS78 := Wk.Chg.step sS77 ch74 ⟨.inr (by omega), trivial⟩
                refine ⟨sS78, ?_⟩
                refine Wk.dOp 4 (by kernel_rfl) ?_
                refine Wk.oEx (some 7) _ rfl rfl (by kernel_rfl) (Wk.new_ex (.slice (some ⟨W80.heap.size, 0, none⟩) 12 12) #[.int .u8 102, .int .u8 111, .int .u8 114, .int .u8 32, .int .u8 110, .int .u8 111, .int .u8 116, .int .u8 104, .int .u8 105, .int .u8 110, .int .u8 103, .int .u8 63] 5 (by kernel_rfl)) ?_
                rintro _ W81 ⟨rfl, hb64, ch75, sz21⟩
                have zz81 := ch75.size
                have sS79 := Wk.Chg.step sS78 ch75 trivial
                refine ⟨sS79, ?_⟩
                refine Wk.dOp 5 (by kernel_rfl) ?_
                refine Wk.oEx (some 8) _ rfl rfl (by kernel_rfl) (Mur.run_mark 22 (.tmp 7) 5 rfl Tryd.underlying22 Tryd.underlying5 W80.heap.size 12 12 #[.int .u8 102, .int .u8 111, .int .u8 114, .int .u8 32, .int .u8 110, .int .u8 111, .int .u8 116, .int .u8 104, .int .u8 105, .int .u8 110, .int .u8 103, .int .u8 63] (by kernel_rfl) hb64) ?_
                rintro _ W82 ⟨rfl, hb65, ch76⟩
                have zz82 := ch76.size
                have sS80 := Wk.Chg.step sS79 ch76 ⟨.inr (by omega), trivial⟩
                refine ⟨sS80, ?_⟩
                exact tail1 _ _ _ (by kernel_rfl) ⟨g4, g6, W80.heap.size, by kernel_rfl, (Wk.Chg.hp ch76 (Wk.Chg.hp ch75 hb63 trivial) ⟨by omega, trivial⟩), (Wk.Chg.hp ch76 (Wk.Chg.hp ch75 (Wk.Chg.hp ch74 ht6 ⟨by omega, trivial⟩) trivial) ⟨by omega, trivial⟩), hb65⟩ sS80
              · refine Wk.oEx (some 7) _ rfl rfl (by kernel_rfl) (Wk.new_ex (.slice (some ⟨W79.heap.size, 0, none⟩) 12 12) #[.int .u8 102, .int .u8 111, .int .u8 114, .int .u8 32, .int .u8 110, .int .u8 111, .int .u8 116, .int .u8 104, .int .u8 105, .int .u8 110, .int .u8 103, .int .u8 63] 5 (by kernel_rfl)) ?_
                rintro _ W83 ⟨rfl, hb66, ch77, sz22⟩
                have zz83 := ch77.size
                have sS81 := Wk.Chg.step sS77 ch77 trivial
                refine ⟨sS81, ?_⟩
                refine Wk.dOp2 1 5 (by kernel_rfl) ?_ ?_
                · refine Wk.oEx (some 4) _ rfl rfl (by kernel_rfl) (Mur.run_mark 22 (.tmp 3) 5 rfl Tryd.underlying22 Tryd.underlying5 g4 4 4 #[.int .u8 74, .int .u8 101, .int .u8 102, .int .u8 101] (by kernel_rfl) (Wk.Chg.hp ch77 ht4 trivial)) ?_
                  rintro _ W84 ⟨rfl, hb67, ch78⟩
                  have zz84 := ch78.size
                  have sS82 := Wk.Chg.step sS81 ch78 ⟨.inr (by omega), trivial⟩
                  refine ⟨sS82, ?_⟩
                  refine Wk.dOp 5 (by kernel_rfl) ?_
                  refine Wk.oEx (some 8) _ rfl rfl (by kernel_rfl) (Mur.run_mark 22 (.tmp 7) 5 rfl Tryd.underlying22 Tryd.underlying5 W79.heap.size 12 12 #[.int .u8 102, .int .u8 111, .int .u8 114, .int .u8 32, .int .u8 110, .int .u8 111, .int .u8 116, .int .u8 104, .int .u8 105, .int .u8 110, .int .u8 103, .int .u8 63] (by kernel_rfl) (Wk.Chg.hp ch78 hb66 ⟨by omega, trivial⟩)) ?_
                  rintro _ W85 ⟨rfl, hb68, ch79⟩
                  have zz85 := ch79.size
                  have sS83 := Wk.Chg.step sS82 ch79 ⟨.inr (by omega), trivial⟩
                  refine ⟨sS83, ?_⟩
                  exact tail1 _ _ _ (by kernel_rfl) ⟨g4, g6, W79.heap.size, by kernel_rfl, (Wk.Chg.hp ch79 hb67 ⟨by omega, trivial⟩), (Wk.Chg.hp ch79 (Wk.Chg.hp ch78 (Wk.Chg.hp ch77 ht6 trivial) ⟨by omega, trivial⟩) ⟨by omega, trivial⟩), hb68⟩ sS83
                · refine Wk.oEx (some 8) _ rfl rfl (by kernel_rfl) (Mur.run_mark 22 (.tmp 7) 5 rfl Tryd.underlying22 Tryd.underlying5 W79.heap.size 12 12 #[.int .u8 102, .int .u8 111, .int .u8 114, .int .u8 32, .int .u8 110, .int .u8 111, .int .u8 116, .int .u8 104, .int .u8 105, .int .u8 110, .int .u8 103, .int .u8 63] (by kernel_rfl) hb66) ?_
                  rintro _ W86 ⟨rfl, hb69, ch80⟩
                  have zz86 := ch80.size
                  have sS84 := Wk.Chg.step sS81 ch80 ⟨.inr (by omega), trivial⟩
                  refine ⟨sS84, ?_⟩
                  refine Wk.dOp2 1 6 (by kernel_rfl) ?_ ?_
                  · refine Wk.oEx (some 4) _ rfl rfl (by kernel_rfl) (Mur.run_mark 22 (.tmp 3) 5 rfl Tryd.underlying22 Tryd.underlying5 g4 4 4 #[.int .u8 74, .int .u8 101, .int .u8 102, .int .u8 101] (by kernel_rfl) (Wk.Chg.hp ch80 (Wk.Chg.hp ch77 ht4 trivial) ⟨by omega, trivial⟩)) ?_
                    rintro _ W87 ⟨rfl, hb70, ch81⟩
                    have zz87 := ch81.size
                    have sS85 := Wk.Chg.step sS84 ch81 ⟨.inr (by omega), trivial⟩
                    refine ⟨sS85, ?_⟩
                    exact tail1 _ _ _ (by kernel_rfl) ⟨g4, g6, W79.heap.size, by kernel_rfl, hb70, (Wk.Chg.hp ch81 (Wk.Chg.hp ch80 (Wk.Chg.hp ch77 ht6 trivial) ⟨by omega, trivial⟩) ⟨by omega, trivial⟩), (Wk.Chg.hp ch81 hb69 ⟨by omega, trivial⟩)⟩ sS85
                  · refine Wk.oEx (some 9) _ rfl rfl (by kernel_rfl) (Wk.new_ex (.slice (some ⟨W86.heap.size, 0, none⟩) 2 2) #[.slice (some ⟨g6, 0, none⟩) 16 16, .slice (some ⟨W79.heap.size, 0, none⟩) 12 12] 22 (by kernel_rfl)) ?_
                    rintro _ W88 ⟨rfl, hb71, ch82, sz23⟩
                    have zz88 := ch82.size
                    have sS86 := Wk.Chg.step sS84 ch82 trivial
                    refine ⟨sS86, ?_⟩
                    refine Wk.dOp 1 (by kernel_rfl) ?_
                    refine Wk.oEx (some 4) _ rfl rfl (by kernel_rfl) (Mur.run_mark 22 (.tmp 3) 5 rfl Tryd.underlying22 Tryd.underlying5 g4 4 4 #[.int .u8 74, .int .u8 101, .int .u8 102, .int .u8 101] (by kernel_rfl) (Wk.Chg.hp ch82 (Wk.Chg.hp ch80 (Wk.Chg.hp ch77 ht4 trivial) ⟨by omega, trivial⟩) trivial)) ?_
                    rintro _ W89 ⟨rfl, hb72, ch83⟩
                    have zz89 := ch83.size
                    have sS87 := Wk.Chg.step sS86 ch83 ⟨.inr (by omega), trivial⟩
                    refine ⟨sS87, ?_⟩
                    refine Wk.dOp 7 (by kernel_rfl) ?_
                    refine Wk.oCall (some 10) 13 [.tmp 4, .tmp 9] #[22, 29] [.slice (some ⟨g4, 0, none⟩) 4 4, .slice (some ⟨W86.heap.size, 0, none⟩) 2 2] rfl rfl (by kernel_rfl) rfl (by kernel_rfl) (by kernel_rfl) ?_
                    have hby21 := (Mur.byt_row [119, 104, 97, 116, 32, 100, 111, 32, 121, 97, 32, 119, 97, 110, 116, 32] (Wk.Chg.hp ch83 (Wk.Chg.hp ch82 (Wk.Chg.hp ch80 (Wk.Chg.hp ch77 ht6 trivial) ⟨by omega, trivial⟩) trivial) ⟨by omega, trivial⟩))
                    have hby22 := (Mur.byt_row [102, 111, 114, 32, 110, 111, 116, 104, 105, 110, 103, 63] (Wk.Chg.hp ch83 (Wk.Chg.hp ch82 hb69 trivial) ⟨by omega, trivial⟩))
                    have kk88 : Wk.Chg [] w W1 := Wk.Chg.step ((Wk.Chg.refl _).more (by simp)) ch1 trivial
                    have kk89 := Wk.Chg.step kk88 ch2 ⟨.inr (by omega), trivial⟩
                    have kk90 := Wk.Chg.step kk89 ch3 trivial
                    have kk91 := Wk.Chg.step kk90 sS77 trivial
                    have kk92 := Wk.Chg.step kk91 ch77 trivial
                    have kk93 := Wk.Chg.step kk92 ch80 ⟨.inr (by omega), trivial⟩
                    have kk94 := Wk.Chg.step kk93 ch82 trivial
                    have kk95 := Wk.Chg.step kk94 ch83 ⟨.inr (by omega), trivial⟩
                    refine (Tag_any ([74, 101, 102, 101]) (some ⟨g4, 0, none⟩) 4 4 ([⟨(some ⟨g6, 0, none⟩), 16, 16, ([119, 104, 97, 116, 32, 100, 111, 32, 121, 97, 32, 119, 97, 110, 116, 32])⟩, ⟨(some ⟨W79.heap.size, 0, none⟩), 12, 12, ([102, 111, 114, 32, 110, 111, 116, 104, 105, 110, 103, 63])⟩]) (some ⟨W86.heap.size, 0, none⟩) 2 2 W89 (HV.out.below (Wk.Chg.below0 kk95)) (Mur.byt_row [74, 101, 102, 101] hb72) (by omega) (fun h => by cases h) (by omega) (Mur.segs_lit [⟨(some ⟨g6, 0, none⟩), 16, 16, ([119, 104, 97, 116, 32, 100, 111, 32, 121, 97, 32, 119, 97, 110, 116, 32])⟩, ⟨(some ⟨W79.heap.size, 0, none⟩), 12, 12, ([102, 111, 114, 32, 110, 111, 116, 104, 105, 110, 103, 63])⟩] 2 (Wk.Chg.hp ch83 hb71 ⟨by omega, trivial⟩) (Mur.ok_cons ⟨(show 16 ≤ 16 by omega), (fun h => by cases h), hby21, (show 16 ≤ Go.maxLen by first | omega | (unfold Go.maxLen; omega))⟩ (Mur.ok_cons ⟨(show 12 ≤ 12 by omega), (fun h => by cases h), hby22, (show 12 ≤ Go.maxLen by first | omega | (unfold Go.maxLen; omega))⟩ Mur.ok_nil)) rfl) (by omega) (by show (([119, 104, 97, 116, 32, 100, 111, 32, 121, 97, 32, 119, 97, 110, 116, 32]) ++ (([102, 111, 114, 32, 110, 111, 116, 104, 105, 110, 103, 63]) ++ [])).length ≤ _; simp only [List.length_append, List.length_nil, List.length_cons]; have hl0 := hby21.1; have hl1 := hby22.1; omega)).mono ?_
                    rintro _ W90 ⟨dd11, hd11, hdl11, rfl, ch84⟩
                    have zz90 := ch84.size
                    have sS88 := Wk.Chg.step sS87 ch84 trivial
                    refine ⟨_, rfl, sS88, ?_⟩
                    refine Wk.dVal 9 (some 12) (.bool true) rfl rfl (by kernel_rfl) (by kernel_rfl) (by kernel_rfl) (fun _ _ _ h => h) (by kernel_rfl) (fun w' hw' => (Mur.run_eql_true digT dd11 Mur.jefe hdl11 ((hd11.out.trans Mur.hmac_jefe)) w' (.tmp 10) (.tmp 11) 25 rfl (by kernel_rfl) (by kernel_rfl))) sS88 ?_
                    refine Wk.dVal 10 (some 0) (.bool true) rfl rfl (by kernel_rfl) (by kernel_rfl) (by kernel_rfl) (fun _ _ _ h => h) (by kernel_rfl) (fun w' hw' => by kernel_rfl) sS88 ?_
                    refine Wk.dEnd (by kernel_rfl) ?_
                    refine Wk.nxt ?_
                    refine wp_ret ?_
                    have kk96 := Wk.Chg.step kk95 ch84 trivial
                    refine Wk.ret (.bool true) rfl (by kernel_rfl) ?_
                    exact ⟨rfl, kk96⟩
            · intro tail6
              refine Wk.dTail 7 #[true, true, false, false, true, false, false, false, true, false, false] (fun a wt => ∃ (g4 : Nat) (g8 : Nat), a = Known_T2_7 a.tmps (.slice (some ⟨g4, 0, none⟩) 4 4) (.slice (some ⟨g8, 0, none⟩) 12 12) (.agg #[.int .u8 91, .int .u8 220, .int .u8 193, .int .u8 70, .int .u8 191, .int .u8 96, .int .u8 117, .int .u8 78, .int .u8 106, .int .u8 4, .int .u8 36, .int .u8 38, .int .u8 8, .int .u8 149, .int .u8 117, .int .u8 199, .int .u8 90, .int .u8 0, .int .u8 63, .int .u8 8, .int .u8 157, .int .u8 39, .int .u8 57, .int .u8 131, .int .u8 157, .int .u8 236, .int .u8 88, .int .u8 185, .int .u8 100, .int .u8 236, .int .u8 56, .int .u8 67]) ∧ wt.heap[g4]? = some (.cells #[.int .u8 74, .int .u8 101, .int .u8 102, .int .u8 101] 5 (4, 5)) ∧ wt.heap[g8]? = some (.cells #[.int .u8 102, .int .u8 111, .int .u8 114, .int .u8 32, .int .u8 110, .int .u8 111, .int .u8 116, .int .u8 104, .int .u8 105, .int .u8 110, .int .u8 103, .int .u8 63] 5 (0, 0)) ∧ W3.heap.size ≤ g4 ∧ W3.heap.size ≤ g8 ∧ g8 ≠ g4) ?_ ?_
              · rintro _ aa7 W91 rfl ⟨g4, g8, hF7, ht4, ht8, hkf⟩ sS89
                generalize aa7.tmps = bb7 at hF7
                subst hF7
                have zz91 := sS89.size
                have htl4 := (Array.getElem?_eq_some_iff.1 ht4).1
                have htl8 := (Array.getElem?_eq_some_iff.1 ht8).1
                refine Wk.dOp2 2 5 (by kernel_rfl) ?_ ?_
                · refine Wk.oEx (some 5) _ rfl rfl (by kernel_rfl) (Wk.new_ex (.slice (some ⟨W91.heap.size, 0, none⟩) 16 16) #[.int .u8 119, .int .u8 104, .int .u8 97, .int .u8 116, .int .u8 32, .int .u8 100, .int .u8 111, .int .u8 32, .int .u8 121, .int .u8 97, .int .u8 32, .int .u8 119, .int .u8 97, .int .u8 110, .int .u8 116, .int .u8 32] 5 (by kernel_rfl)) ?_
                  rintro _ W92 ⟨rfl, hb73, ch85, sz24⟩
                  have zz92 := ch85.size
                  have sS90 := Wk.Chg.step sS89 ch85 trivial
                  refine ⟨sS90, ?_⟩
                  refine Wk.dOp2 3 5 (by kernel_rfl) ?_ ?_
                  · refine Wk.oEx (some 6) _ rfl rfl (by kernel_rfl) (Mur.run_mark 22 (.tmp 5) 5 rfl Tryd.underlying22 Tryd.underlying5 W91.heap.size 16 16 #[.int .u8 119, .int .u8 104, .int .u8 97, .int .u8 116, .int .u8 32, .int .u8 100, .int .u8 111, .int .u8 32, .int .u8 121, .int .u8 97, .int .u8 32, .int .u8 119, .int .u8 97, .int .u8 110, .int .u8 116, .int .u8 32] (by kernel_rfl) hb73) ?_
                    rintro _ W93 ⟨rfl, hb74, ch86⟩
                    have zz93 := ch86.size
                    have sS91 := Wk.Chg.step sS90 ch86 ⟨.inr (by omega), trivial⟩
                    refine ⟨sS91, ?_⟩
                    refine Wk.dOp 5 (by kernel_rfl) ?_
                    refine Wk.oEx (some 8) _ rfl rfl (by kernel_rfl) (Mur.run_mark 22 (.tmp 7) 5 rfl Tryd.underlying22 Tryd.underlying5 g8 12 12 #[.int .u8 102, .int .u8 111, .int .u8 114, .int .u8 32, .int .u8 110, .int .u8 111, .int .u8 116, .int .u8 104, .int .u8 105, .int .u8 110, .int .u8 103, .int .u8 63] (by kernel_rfl) (Wk.Chg.hp ch86 (Wk.Chg.hp ch85 ht8 trivial) ⟨by omega, trivial⟩)) ?_
                    rintro _ W94 ⟨rfl, hb75, ch87⟩
                    have zz94 := ch87.size
                    have sS92 := Wk.Chg.step sS91 ch87 ⟨.inr (by omega), trivial⟩
                    refine ⟨sS92, ?_⟩
                    exact tail1 _ _ _ (by kernel_rfl) ⟨g4, W91.heap.size, g8, by kernel_rfl, (Wk.Chg.hp ch87 (Wk.Chg.hp ch86 (Wk.Chg.hp ch85 ht4 trivial) ⟨by omega, trivial⟩) ⟨by omega, trivial⟩), (Wk.Chg.hp ch87 hb74 ⟨by omega, trivial⟩), hb75⟩ sS92
                  · refine Wk.oEx (some 8) _ rfl rfl (by kernel_rfl) (Mur.run_mark 22 (.tmp 7) 5 rfl Tryd.underlying22 Tryd.underlying5 g8 12 12 #[.int .u8 102, .int .u8 111, .int .u8 114, .int .u8 32, .int .u8 110, .int .u8 111, .int .u8 116, .int .u8 104, .int .u8 105, .int .u8 110, .int .u8 103, .int .u8 63] (by kernel_rfl) (Wk.Chg.hp ch85 ht8 trivial)) ?_
                    rintro _ W95 ⟨rfl, hb76, ch88⟩
                    have zz95 := ch88.size
                    have sS93 := Wk.Chg.step sS90 ch88 ⟨.inr (by omega), trivial⟩
                    refine ⟨sS93, ?_⟩
                    refine Wk.dOp 3 (by kernel_rfl) ?_
                    refine Wk.oEx (some 6) _ rfl rfl (by kernel_rfl) (Mur.run_mark 22 (.tmp 5) 5 rfl Tryd.underlying22 Tryd.underlying5 W91.heap.size 16 16 #[.int .u8 119, .int .u8 104, .int .u8 97, .int .u8 116, .int .u8 32, .int .u8 100, .int .u8 111, .int .u8 32, .int .u8 121, .int .u8 97, .int .u8 32, .int .u8 119, .int .u8 97, .int .u8 110, .int .u8 116, .int .u8 32] (by kernel_rfl) (Wk.Chg.hp ch88 hb73 ⟨by omega, trivial⟩)) ?_
                    rintro _ W96 ⟨rfl, hb77, ch89⟩
                    have zz96 := ch89.size
                    have sS94 := Wk.Chg.step sS93 ch89 ⟨.inr (by omega), trivial⟩
                    refine ⟨sS94, ?_⟩
                    exact tail1 _ _ _ (by kernel_rfl) ⟨g4, W91.heap.size, g8, by kernel_rfl, (Wk.Chg.hp ch89 (Wk.Chg.hp ch88 (Wk.Chg.hp ch85 ht4 trivial) ⟨by omega, trivial⟩) ⟨by omega, trivial⟩), hb77, (Wk.Chg.hp ch89 hb76 ⟨by omega, trivial⟩)⟩ sS94
                · refine Wk.oEx (some 8) _ rfl rfl (by kernel_rfl) (Mur.run_mark 22 (.tmp 7) 5 rfl Tryd.underlying22 Tryd.underlying5 g8 12 12 #[.int .u8 102, .int .u8 111, .int .u8 114, .int .u8 32, .int .u8 110, .int .u8 111, .int .u8 116, .int .u8 104, .int .u8 105, .int .u8 110, .int .u8 103, .int .u8 63] (by kernel_rfl) ht8) ?_
                  rintro _ W97 ⟨rfl, hb78, ch90⟩
                  have zz97 := ch90.size
                  have sS95 := Wk.Chg.step sS89 ch90 ⟨.inr (by omega), trivial⟩
                  refine ⟨sS95, ?_⟩
                  refine Wk.dOp 2 (by kernel_rfl) ?_
                  refine Wk.oEx (some 5) _ rfl rfl (by kernel_rfl) (Wk.new_ex (.slice (some ⟨W97.heap.size, 0, none⟩) 16 16) #[.int .u8 119, .int .u8 104, .int .u8 97, .int .u8 116, .int .u8 32, .int .u8 100, .int .u8 111, .int .u8 32, .int .u8 121, .int .u8 97, .int .u8 32, .int .u8 119, .int .u8 97, .int .u8 110, .int .u8 116, .int .u8 32] 5 (by kernel_rfl)) ?_
                  rintro _ W98 ⟨rfl, hb79, ch91, sz25⟩
                  have zz98 := ch91.size
                  have sS96 := Wk.Chg.step sS95 ch91 trivial
                  refine ⟨sS96, ?_⟩
                  refine Wk.dOp 3 (by kernel_rfl) ?_
                  refine Wk.oEx (some 6) _ rfl rfl (by kernel_rfl) (Mur.run_mark 22 (.tmp 5) 5 rfl Tryd.underlying22 Tryd.underlying5 W97.heap.size 16 16 #[.int .u8 119, .int .u8 104, .int .u8 97, .int .u8 116, .int .u8 32, .int .u8 100, .int .u8 111, .int .u8 32, .int .u8 121, .int .u8 97, .int .u8 32, .int .u8 119, .int .u8 97, .int .u8 110, .int .u8 116, .int .u8 32] (by kernel_rfl) hb79) ?_
                  rintro _ W99 ⟨rfl, hb80, ch92⟩
                  have zz99 := ch92.size
                  have sS97 := Wk.Chg.step sS96 ch92 ⟨.inr (by omega), trivial⟩
                  refine ⟨sS97, ?_⟩
                  exact tail1 _ _ _ (by kernel_rfl) ⟨g4, W97.heap.size, g8, by kernel_rfl, (Wk.Chg.hp ch92 (Wk.Chg.hp ch91 (Wk.Chg.hp ch90 ht4 ⟨by omega, trivial⟩) trivial) ⟨by omega, trivial⟩), hb80, (Wk.Chg.hp ch92 (Wk.Chg.hp ch91 hb78 trivial) ⟨by omega, trivial⟩)⟩ sS97
              · intro tail7
                refine Wk.dTail 7 #[true, true, true, false, false, false, false, false, true, false, false] (fun a wt => ∃ (g4 : Nat) (g6 : Nat), a = Known_T2_8 a.tmps (.slice (some ⟨g4, 0, none⟩) 4 4) (.slice (some ⟨g6, 0, none⟩) 16 16) (.agg #[.int .u8 91, .int .u8 220, .int .u8 193, .int .u8 70, .int .u8 191, .int .u8 96, .int .u8 117, .int .u8 78, .int .u8 106, .int .u8 4, .int .u8 36, .int .u8 38, .int .u8 8, .int .u8 149, .int .u8 117, .int .u8 199, .int .u8 90, .int .u8 0, .int .u8 63, .int .u8 8, .int .u8 157, .int .u8 39, .int .u8 57, .int .u8 131, .int .u8 157, .int .u8 236, .int .u8 88, .int .u8 185, .int .u8 100, .int .u8 236, .int .u8 56, .int .u8 67]) ∧ wt.heap[g4]? = some (.cells #[.int .u8 74, .int .u8 101, .int .u8 102, .int .u8 101] 5 (4, 5)) ∧ wt.heap[g6]? = some (.cells #[.int .u8 119, .int .u8 104, .int .u8 97, .int .u8 116, .int .u8 32, .int .u8 100, .int .u8 111, .int .u8 32, .int .u8 121, .int .u8 97, .int .u8 32, .int .u8 119, .int .u8 97, .int .u8 110, .int .u8 116, .int .u8 32] 5 (0, 0)) ∧ W3.heap.size ≤ g4 ∧ W3.heap.size ≤ g6 ∧ g6 ≠ g4) ?_ ?_
                · rintro _ aa8 W100 rfl ⟨g4, g6, hF8, ht4, ht6, hkf⟩ sS98
                  generalize aa8.tmps = bb8 at hF8
                  subst hF8
                  have zz100 := sS98.size
                  have htl4 := (Array.getElem?_eq_some_iff.1 ht4).1
                  have htl6 := (Array.getElem?_eq_some_iff.1 ht6).1
                  refine Wk.dOp2 3 4 (by kernel_rfl) ?_ ?_
                  · refine Wk.oEx (some 6) _ rfl rfl (by kernel_rfl) (Mur.run_mark 22 (.tmp 5) 5 rfl Tryd.underlying22 Tryd.underlying5 g6 16 16 #[.int .u8 119, .int .u8 104, .int .u8 97, .int .u8 116, .int .u8 32, .int .u8 100, .int .u8 111, .int .u8 32, .int .u8 121, .int .u8 97, .int .u8 32, .int .u8 119, .int .u8 97, .int .u8 110, .int .u8 116, .int .u8 32] (by kernel_rfl) ht6) ?_
                    rintro _ W101 ⟨rfl, hb81, ch93⟩
                    have zz101 := ch93.size
                    have sS99 := Wk.Chg.step sS98 ch93 ⟨.inr (by omega), trivial⟩
                    refine ⟨sS99, ?_⟩
                    refine Wk.dOp 4 (by kernel_rfl) ?_
                    refine Wk.oEx (some 7) _ rfl rfl (by kernel_rfl) (Wk.new_ex (.slice (some ⟨W101.heap.size, 0, none⟩) 12 12) #[.int .u8 102, .int .u8 111, .int .u8 114, .int .u8 32, .int .u8 110, .int .u8 111, .int .u8 116, .int .u8 104, .int .u8 105, .int .u8 110, .int .u8 103, .int .u8 63] 5 (by kernel_rfl)) ?_
                    rintro _ W102 ⟨rfl, hb82, ch94, sz26⟩
                    have zz102 := ch94.size
                    have sS100 := Wk.Chg.step sS99 ch94 trivial
                    refine ⟨sS100, ?_⟩
                    refine Wk.dOp 5 (by kernel_rfl) ?_
                    refine Wk.oEx (some 8) _ rfl rfl (by kernel_rfl) (Mur.run_mark 22 (.tmp 7) 5 rfl Tryd.underlying22 Tryd.underlying5 W101.heap.size 12 12 #[.int .u8 102, .int .u8 111, .int .u8 114, .int .u8 32, .int .u8 110, .int .u8 111, .int .u8 116, .int .u8 104, .int .u8 105, .int .u8 110, .int .u8 103, .int .u8 63] (by kernel_rfl) hb82) ?_
                    rintro _ W103 ⟨rfl, hb83, ch95⟩
                    have zz103 := ch95.size
                    have sS101 := Wk.Chg.step sS100 ch95 ⟨.inr (by omega), trivial⟩
                    refine ⟨sS101, ?_⟩
                    exact tail1 _ _ _ (by kernel_rfl) ⟨g4, g6, W101.heap.size, by kernel_rfl, (Wk.Chg.hp ch95 (Wk.Chg.hp ch94 (Wk.Chg.hp ch93 ht4 ⟨by omega, trivial⟩) trivial) ⟨by omega, trivial⟩), (Wk.Chg.hp ch95 (Wk.Chg.hp ch94 hb81 trivial) ⟨by omega, trivial⟩), hb83⟩ sS101
                  · refine Wk.oEx (some 7) _ rfl rfl (by kernel_rfl) (Wk.new_ex (.slice (some ⟨W100.heap.size, 0, none⟩) 12 12) #[.int .u8 102, .int .u8 111, .int .u8 114, .int .u8 32, .int .u8 110, .int .u8 111, .int .u8 116, .int .u8 104, .int .u8 105, .int .u8 110, .int .u8 103, .int .u8 63] 5 (by kernel_rfl)) ?_
                    rintro _ W104 ⟨rfl, hb84, ch96, sz27⟩
                    have zz104 := ch96.size
                    have sS102 := Wk.Chg.step sS98 ch96 trivial
                    refine ⟨sS102, ?_⟩
                    refine Wk.dOp2 3 5 (by kernel_rfl) ?_ ?_
                    · refine Wk.oEx (some 6) _ rfl rfl (by kernel_rfl) (Mur.run_mark 22 (.tmp 5) 5 rfl Tryd.underlying22 Tryd.underlying5 g6 16 16 #[.int .u8 119, .int .u8 104, .int .u8 97, .int .u8 116, .int .u8 32, .int .u8 100, .int .u8 111, .int .u8 32, .int .u8 121, .int .u8 97, .int .u8 32, .int .u8 119, .int .u8 97, .int .u8 110, .int .u8 116, .int .u8 32] (by kernel_rfl) (Wk.Chg.hp ch96 ht6 trivial)) ?_
                      rintro _ W105 ⟨rfl, hb85, ch97⟩
                      have zz105 := ch97.size
                      have sS103 := Wk.Chg.step sS102 ch97 ⟨.inr (by omega), trivial⟩
                      refine ⟨sS103, ?_⟩
                      refine Wk.dOp 5 (by kernel_rfl) ?_
                      refine Wk.oEx (some 8) _ rfl rfl (by kernel_rfl) (Mur.run_mark 22 (.tmp 7) 5 rfl Tryd.underlying22 Tryd.underlying5 W100.heap.size 12 12 #[.int .u8 102, .int .u8 111, .int .u8 114, .int .u8 32, .int .u8 110, .int .u8 111, .int .u8 116, .int .u8 104, .int .u8 105, .int .u8 110, .int .u8 103, .int .u8 63] (by kernel_rfl) (Wk.Chg.hp ch97 hb84 ⟨by omega, trivial⟩)) ?_
                      rintro _ W106 ⟨rfl, hb86, ch98⟩
                      have zz106 := ch98.size
                      have sS104 := Wk.Chg.step sS103 ch98 ⟨.inr (by omega), trivial⟩
                      refine ⟨sS104, ?_⟩
                      exact tail1 _ _ _ (by kernel_rfl) ⟨g4, g6, W100.heap.size, by kernel_rfl, (Wk.Chg.hp ch98 (Wk.Chg.hp ch97 (Wk.Chg.hp ch96 ht4 trivial) ⟨by omega, trivial⟩) ⟨by omega, trivial⟩), (Wk.Chg.hp ch98 hb85 ⟨by omega, trivial⟩), hb86⟩ sS104
                    · refine Wk.oEx (some 8) _ rfl rfl (by kernel_rfl) (Mur.run_mark 22 (.tmp 7) 5 rfl Tryd.underlying22 Tryd.underlying5 W100.heap.size 12 12 #[.int .u8 102, .int .u8 111, .int .u8 114, .int .u8 32, .int .u8 110, .int .u8 111, .int .u8 116, .int .u8 104, .int .u8 105, .int .u8 110, .int .u8 103, .int .u8 63] (by kernel_rfl) hb84) ?_
                      rintro _ W107 ⟨rfl, hb87, ch99⟩
                      have zz107 := ch99.size
                      have sS105 := Wk.Chg.step sS102 ch99 ⟨.inr (by omega), trivial⟩
                      refine ⟨sS105, ?_⟩
                      refine Wk.dOp 3 (by kernel_rfl) ?_
                      refine Wk.oEx (some 6) _ rfl rfl (by kernel_rfl) (Mur.run_mark 22 (.tmp 5) 5 rfl Tryd.underlying22 Tryd.underlying5 g6 16 16 #[.int .u8 119, .int .u8 104, .int .u8 97, .int .u8 116, .int .u8 32, .int .u8 100, .int .u8 111, .int .u8 32, .int .u8 121, .int .u8 97, .int .u8 32, .int .u8 119, .int .u8 97, .int .u8 110, .int .u8 116, .int .u8 32] (by kernel_rfl) (Wk.Chg.hp ch99 (Wk.Chg.hp ch96 ht6 trivial) ⟨by omega, trivial⟩)) ?_
                      rintro _ W108 ⟨rfl, hb88, ch100⟩
                      have zz108 := ch100.size
                      have sS106 := Wk.Chg.step sS105 ch100 ⟨.inr (by omega), trivial⟩
                      refine ⟨sS106, ?_⟩
                      exact tail1 _ _ _ (by kernel_rfl) ⟨g4, g6, W100.heap.size, by kernel_rfl, (Wk.Chg.hp ch100 (Wk.Chg.hp ch99 (Wk.Chg.hp ch96 ht4 trivial) ⟨by omega, trivial⟩) ⟨by omega, trivial⟩), hb88, (Wk.Chg.hp ch100 hb87 ⟨by omega, trivial⟩)⟩ sS106
                · intro tail8
                  refine Wk.dVal 8 (some 11) (.agg #[.int .u8 91, .int .u8 220, .int .u8 193, .int .u8 70, .int .u8 191, .int .u8 96, .int .u8 117, .int .u8 78, .int .u8 106, .int .u8 4, .int .u8 36, .int .u8 38, .int .u8 8, .int .u8 149, .int .u8 117, .int .u8 199, .int .u8 90, .int .u8 0, .int .u8 63, .int .u8 8, .int .u8 157, .int .u8 39, .int .u8 57, .int .u8 131, .int .u8 157, .int .u8 236, .int .u8 88, .int .u8 185, .int .u8 100, .int .u8 236, .int .u8 56, .int .u8 67]) rfl rfl (by kernel_rfl) (by kernel_rfl) (by kernel_rfl) (fun _ _ _ h => h) (by kernel_rfl) (fun w' hw' => (Wk.loadR 25 (.tmp 1) rfl _ Tryd.underlying25 rfl w.heap.size 0 (by kernel_rfl) ([.int .u8 91, .int .u8 220, .int .u8 193, .int .u8 70, .int .u8 191, .int .u8 96, .int .u8 117, .int .u8 78, .int .u8 106, .int .u8 4, .int .u8 36, .int .u8 38, .int .u8 8, .int .u8 149, .int .u8 117, .int .u8 199, .int .u8 90, .int .u8 0, .int .u8 63, .int .u8 8, .int .u8 157, .int .u8 39, .int .u8 57, .int .u8 131, .int .u8 157, .int .u8 236, .int .u8 88, .int .u8 185, .int .u8 100, .int .u8 236, .int .u8 56, .int .u8 67]) (by kernel_rfl) (Wk.range_row (Wk.Chg.hp hw' (Wk.Chg.hp ch3 hb2 trivial) trivial)))) sS1 ?_
                  refine Wk.dOp3 0 2 4 (by kernel_rfl) ?_ ?_ ?_
                  · refine Wk.oEx (some 3) _ rfl rfl (by kernel_rfl) (Wk.new_ex (.slice (some ⟨W3.heap.size, 0, none⟩) 4 4) #[.int .u8 74, .int .u8 101, .int .u8 102, .int .u8 101] 5 (by kernel_rfl)) ?_
                    rintro _ W109 ⟨rfl, hb89, ch101, sz28⟩
                    have zz109 := ch101.size
                    have sS107 := Wk.Chg.step sS1 ch101 trivial
                    refine ⟨sS107, ?_⟩
                    refine Wk.dOp3 1 2 4 (by kernel_rfl) ?_ ?_ ?_
                    · refine Wk.oEx (some 4) _ rfl rfl (by kernel_rfl) (Mur.run_mark 22 (.tmp 3) 5 rfl Tryd.underlying22 Tryd.underlying5 W3.heap.size 4 4 #[.int .u8 74, .int .u8 101, .int .u8 102, .int .u8 101] (by kernel_rfl) hb89) ?_
                      rintro _ W110 ⟨rfl, hb90, ch102⟩
                      have zz110 := ch102.size
                      have sS108 := Wk.Chg.step sS107 ch102 ⟨.inr (by omega), trivial⟩
                      refine ⟨sS108, ?_⟩
                      refine Wk.dOp2 2 4 (by kernel_rfl) ?_ ?_
                      · refine Wk.oEx (some 5) _ rfl rfl (by kernel_rfl) (Wk.new_ex (.slice (some ⟨W110.heap.size, 0, none⟩) 16 16) #[.int .u8 119, .int .u8 104, .int .u8 97, .int .u8 116, .int .u8 32, .int .u8 100, .int .u8 111, .int .u8 32, .int .u8 121, .int .u8 97, .int .u8 32, .int .u8 119, .int .u8 97, .int .u8 110, .int .u8 116, .int .u8 32] 5 (by kernel_rfl)) ?_
                        rintro _ W111 ⟨rfl, hb91, ch103, sz29⟩
                        have zz111 := ch103.size
                        have sS109 := Wk.Chg.step sS108 ch103 trivial
                        refine ⟨sS109, ?_⟩
                        exact tail8 _ _ _ (by kernel_rfl) ⟨W3.heap.size, W110.heap.size, by kernel_rfl, (Wk.Chg.hp ch103 hb90 trivial), hb91, (by omega)⟩ sS109
                      · refine Wk.oEx (some 7) _ rfl rfl (by kernel_rfl) (Wk.new_ex (.slice (some ⟨W110.heap.size, 0, none⟩) 12 12) #[.int .u8 102, .int .u8 111, .int .u8 114, .int .u8 32, .int .u8 110, .int .u8 111, .int .u8 116, .int .u8 104, .int .u8 105, .int .u8 110, .int .u8 103, .int .u8 63] 5 (by kernel_rfl)) ?_
                        rintro _ W112 ⟨rfl, hb92, ch104, sz30⟩
                        have zz112 := ch104.size
                        have sS110 := Wk.Chg.step sS108 ch104 trivial
                        refine ⟨sS110, ?_⟩
                        exact tail7 _ _ _ (by kernel_rfl) ⟨W3.heap.size, W110.heap.size, by kernel_rfl, (Wk.Chg.hp ch104 hb90 trivial), hb92, (by omega)⟩ sS110
                    · refine Wk.oEx (some 5) _ rfl rfl (by kernel_rfl) (Wk.new_ex (.slice (some ⟨W109.heap.size, 0, none⟩) 16 16) #[.int .u8 119, .int .u8 104, .int .u8 97, .int .u8 116, .int .u8 32, .int .u8 100, .int .u8 111, .int .u8 32, .int .u8 121, .int .u8 97, .int .u8 32, .int .u8 119, .int .u8 97, .int .u8 110, .int .u8 116, .int .u8 32] 5 (by kernel_rfl)) ?_
                      rintro _ W113 ⟨rfl, hb93, ch105, sz31⟩
                      have zz113 := ch105.size
                      have sS111 := Wk.Chg.step sS107 ch105 trivial
                      refine ⟨sS111, ?_⟩
                      refine Wk.dOp3 1 3 4 (by kernel_rfl) ?_ ?_ ?_
                      · refine Wk.oEx (some 4) _ rfl rfl (by kernel_rfl) (Mur.run_mark 22 (.tmp 3) 5 rfl Tryd.underlying22 Tryd.underlying5 W3.heap.size 4 4 #[.int .u8 74, .int .u8 101, .int .u8 102, .int .u8 101] (by kernel_rfl) (Wk.Chg.hp ch105 hb89 trivial)) ?_
                        rintro _ W114 ⟨rfl, hb94, ch106⟩
                        have zz114 := ch106.size
                        have sS112 := Wk.Chg.step sS111 ch106 ⟨.inr (by omega), trivial⟩
                        refine ⟨sS112, ?_⟩
                        exact tail8 _ _ _ (by kernel_rfl) ⟨W3.heap.size, W109.heap.size, by kernel_rfl, hb94, (Wk.Chg.hp ch106 hb93 ⟨by omega, trivial⟩), (by omega)⟩ sS112
                      · refine Wk.oEx (some 6) _ rfl rfl (by kernel_rfl) (Mur.run_mark 22 (.tmp 5) 5 rfl Tryd.underlying22 Tryd.underlying5 W109.heap.size 16 16 #[.int .u8 119, .int .u8 104, .int .u8 97, .int .u8 116, .int .u8 32, .int .u8 100, .int .u8 111, .int .u8 32, .int .u8 121, .int .u8 97, .int .u8 32, .int .u8 119, .int .u8 97, .int .u8 110, .int .u8 116, .int .u8 32] (by kernel_rfl) hb93) ?_
                        rintro _ W115 ⟨rfl, hb95, ch107⟩
                        have zz115 := ch107.size
                        have sS113 := Wk.Chg.step sS111 ch107 ⟨.inr (by omega), trivial⟩
                        refine ⟨sS113, ?_⟩
                        exact tail6 _ _ _ (by kernel_rfl) ⟨W3.heap.size, W109.heap.size, by kernel_rfl, (Wk.Chg.hp ch107 (Wk.Chg.hp ch105 hb89 trivial) ⟨by omega, trivial⟩), hb95, (by omega)⟩ sS113
                      · refine Wk.oEx (some 7) _ rfl rfl (by kernel_rfl) (Wk.new_ex (.slice (some ⟨W113.heap.size, 0, none⟩) 12 12) #[.int .u8 102, .int .u8 111, .int .u8 114, .int .u8 32, .int .u8 110, .int .u8 111, .int .u8 116, .int .u8 104, .int .u8 105, .int .u8 110, .int .u8 103, .int .u8 63] 5 (by kernel_rfl)) ?_
                        rintro _ W116 ⟨rfl, hb96, ch108, sz32⟩
                        have zz116 := ch108.size
                        have sS114 := Wk.Chg.step sS111 ch108 trivial
                        refine ⟨sS114, ?_⟩
                        exact tail5 _ _ _ (by kernel_rfl) ⟨W3.heap.size, W109.heap.size, W113.heap.size, by kernel_rfl, (Wk.Chg.hp ch108 (Wk.Chg.hp ch105 hb89 trivial) trivial), (Wk.Chg.hp ch108 hb93 trivial), hb96, (by omega)⟩ sS114
                    · refine Wk.oEx (some 7) _ rfl rfl (by kernel_rfl) (Wk.new_ex (.slice (some ⟨W109.heap.size, 0, none⟩) 12 12) #[.int .u8 102, .int .u8 111, .int .u8 114, .int .u8 32, .int .u8 110, .int .u8 111, .int .u8 116, .int .u8 104, .int .u8 105, .int .u8 110, .int .u8 103, .int .u8 63] 5 (by kernel_rfl)) ?_
                      rintro _ W117 ⟨rfl, hb97, ch109, sz33⟩
                      have zz117 := ch109.size
                      have sS115 := Wk.Chg.step sS107 ch109 trivial
                      refine ⟨sS115, ?_⟩
                      refine Wk.dOp3 1 2 5 (by kernel_rfl) ?_ ?_ ?_
                      · refine Wk.oEx (some 4) _ rfl rfl (by kernel_rfl) (Mur.run_mark 22 (.tmp 3) 5 rfl Tryd.underlying22 Tryd.underlying5 W3.heap.size 4 4 #[.int .u8 74, .int .u8 101, .int .u8 102, .int .u8 101] (by kernel_rfl) (Wk.Chg.hp ch109 hb89 trivial)) ?_
                        rintro _ W118 ⟨rfl, hb98, ch110⟩
                        have zz118 := ch110.size
                        have sS116 := Wk.Chg.step sS115 ch110 ⟨.inr (by omega), trivial⟩
                        refine ⟨sS116, ?_⟩
                        exact tail7 _ _ _ (by kernel_rfl) ⟨W3.heap.size, W109.heap.size, by kernel_rfl, hb98, (Wk.Chg.hp ch110 hb97 ⟨by omega, trivial⟩), (by omega)⟩ sS116
                      · refine Wk.oEx (some 5) _ rfl rfl (by kernel_rfl) (Wk.new_ex (.slice (some ⟨W117.heap.size, 0, none⟩) 16 16) #[.int .u8 119, .int .u8 104, .int .u8 97, .int .u8 116, .int .u8 32, .int .u8 100, .int .u8 111, .int .u8 32, .int .u8 121, .int .u8 97, .int .u8 32, .int .u8 119, .int .u8 97, .int .u8 110, .int .u8 116, .int .u8 32] 5 (by kernel_rfl)) ?_
                        rintro _ W119 ⟨rfl, hb99, ch111, sz34⟩
                        have zz119 := ch111.size
                        have sS117 := Wk.Chg.step sS115 ch111 trivial
                        refine ⟨sS117, ?_⟩
                        exact tail5 _ _ _ (by kernel_rfl) ⟨W3.heap.size, W117.heap.size, W109.heap.size, by kernel_rfl, (Wk.Chg.hp ch111 (Wk.Chg.hp ch109 hb89 trivial) trivial), hb99, (Wk.Chg.hp ch111 hb97 trivial), (by omega)⟩ sS117
                      · refine Wk.oEx (some 8) _ rfl rfl (by kernel_rfl) (Mur.run_mark 22 (.tmp 7) 5 rfl Tryd.underlying22 Tryd.underlying5 W109.heap.size 12 12 #[.int .u8 102, .int .u8 111, .int .u8 114, .int .u8 32, .int .u8 110, .int .u8 111, .int .u8 116, .int .u8 104, .int .u8 105, .int .u8 110, .int .u8 103, .int .u8 63] (by kernel_rfl) hb97) ?_
                        rintro _ W120 ⟨rfl, hb100, ch112⟩
                        have zz120 := ch112.size
                        have sS118 := Wk.Chg.step sS115 ch112 ⟨.inr (by omega), trivial⟩
                        refine ⟨sS118, ?_⟩
                        exact tail4 _ _ _ (by kernel_rfl) ⟨W3.heap.size, W109.heap.size, by kernel_rfl, (Wk.Chg.hp ch112 (Wk.Chg.hp ch109 hb89 trivial) ⟨by omega, trivial⟩), hb100, (by omega)⟩ sS118
                  · refine Wk.oEx (some 5) _ rfl rfl (by kernel_rfl) (Wk.new_ex (.slice (some ⟨W3.heap.size, 0, none⟩) 16 16) #[.int .u8 119, .int .u8 104, .int .u8 97, .int .u8 116, .int .u8 32, .int .u8 100, .int .u8 111, .int .u8 32, .int .u8 121, .int .u8 97, .int .u8 32, .int .u8 119, .int .u8 97, .int .u8 110, .int .u8 116, .int .u8 32] 5 (by kernel_rfl)) ?_
                    rintro _ W121 ⟨rfl, hb101, ch113, sz35⟩
                    have zz121 := ch113.size
                    have sS119 := Wk.Chg.step sS1 ch113 trivial
                    refine ⟨sS119, ?_⟩
                    refine Wk.dOp3 0 3 4 (by kernel_rfl) ?_ ?_ ?_
                    · refine Wk.oEx (some 3) _ rfl rfl (by kernel_rfl) (Wk.new_ex (.slice (some ⟨W121.heap.size, 0, none⟩) 4 4) #[.int .u8 74, .int .u8 101, .int .u8 102, .int .u8 101] 5 (by kernel_rfl)) ?_
                      rintro _ W122 ⟨rfl, hb102, ch114, sz36⟩
                      have zz122 := ch114.size
                      have sS120 := Wk.Chg.step sS119 ch114 trivial
                      refine ⟨sS120, ?_⟩
                      refine Wk.dOp3 1 3 4 (by kernel_rfl) ?_ ?_ ?_
                      · refine Wk.oEx (some 4) _ rfl rfl (by kernel_rfl) (Mur.run_mark 22 (.tmp 3) 5 rfl Tryd.underlying22 Tryd.underlying5 W121.heap.size 4 4 #[.int .u8 74, .int .u8 101, .int .u8 102, .int .u8 101] (by kernel_rfl) hb102) ?_
                        rintro _ W123 ⟨rfl, hb103, ch115⟩
                        have zz123 := ch115.size
                        have sS121 := Wk.Chg.step sS120 ch115 ⟨.inr (by omega), trivial⟩
                        refine ⟨sS121, ?_⟩
                        exact tail8 _ _ _ (by kernel_rfl) ⟨W121.heap.size, W3.heap.size, by kernel_rfl, hb103, (Wk.Chg.hp ch115 (Wk.Chg.hp ch114 hb101 trivial) ⟨by omega, trivial⟩), (by omega)⟩ sS121
                      · refine Wk.oEx (some 6) _ rfl rfl (by kernel_rfl) (Mur.run_mark 22 (.tmp 5) 5 rfl Tryd.underlying22 Tryd.underlying5 W3.heap.size 16 16 #[.int .u8 119, .int .u8 104, .int .u8 97, .int .u8 116, .int .u8 32, .int .u8 100, .int .u8 111, .int .u8 32, .int .u8 121, .int .u8 97, .int .u8 32, .int .u8 119, .int .u8 97, .int .u8 110, .int .u8 116, .int .u8 32] (by kernel_rfl) (Wk.Chg.hp ch114 hb101 trivial)) ?_
                        rintro _ W124 ⟨rfl, hb104, ch116⟩
                        have zz124 := ch116.size
                        have sS122 := Wk.Chg.step sS120 ch116 ⟨.inr (by omega), trivial⟩
                        refine ⟨sS122, ?_⟩
                        exact tail6 _ _ _ (by kernel_rfl) ⟨W121.heap.size, W3.heap.size, by kernel_rfl, (Wk.Chg.hp ch116 hb102 ⟨by omega, trivial⟩), hb104, (by omega)⟩ sS122
                      · refine Wk.oEx (some 7) _ rfl rfl (by kernel_rfl) (Wk.new_ex (.slice (some ⟨W122.heap.size, 0, none⟩) 12 12) #[.int .u8 102, .int .u8 111, .int .u8 114, .int .u8 32, .int .u8 110, .int .u8 111, .int .u8 116, .int .u8 104, .int .u8 105, .int .u8 110, .int .u8 103, .int .u8 63] 5 (by kernel_rfl)) ?_
                        rintro _ W125 ⟨rfl, hb105, ch117, sz37⟩
                        have zz125 := ch117.size
                        have sS123 := Wk.Chg.step sS120 ch117 trivial
                        refine ⟨sS123, ?_⟩
                        exact tail5 _ _ _ (by kernel_rfl) ⟨W121.heap.size, W3.heap.size, W122.heap.size, by kernel_rfl, (Wk.Chg.hp ch117 hb102 trivial), (Wk.Chg.hp ch117 (Wk.Chg.hp ch114 hb101 trivial) trivial), hb105, (by omega)⟩ sS123
                    · refine Wk.oEx (some 6) _ rfl rfl (by kernel_rfl) (Mur.run_mark 22 (.tmp 5) 5 rfl Tryd.underlying22 Tryd.underlying5 W3.heap.size 16 16 #[.int .u8 119, .int .u8 104, .int .u8 97, .int .u8 116, .int .u8 32, .int .u8 100, .int .u8 111, .int .u8 32, .int .u8 121, .int .u8 97, .int .u8 32, .int .u8 119, .int .u8 97, .int .u8 110, .int .u8 116, .int .u8 32] (by kernel_rfl) hb101) ?_
                      rintro _ W126 ⟨rfl, hb106, ch118⟩
                      have zz126 := ch118.size
                      have sS124 := Wk.Chg.step sS119 ch118 ⟨.inr (by omega), trivial⟩
                      refine ⟨sS124, ?_⟩
                      refine Wk.dOp2 0 4 (by kernel_rfl) ?_ ?_
                      · refine Wk.oEx (some 3) _ rfl rfl (by kernel_rfl) (Wk.new_ex (.slice (some ⟨W126.heap.size, 0, none⟩) 4 4) #[.int .u8 74, .int .u8 101, .int .u8 102, .int .u8 101] 5 (by kernel_rfl)) ?_
                        rintro _ W127 ⟨rfl, hb107, ch119, sz38⟩
                        have zz127 := ch119.size
                        have sS125 := Wk.Chg.step sS124 ch119 trivial
                        refine ⟨sS125, ?_⟩
                        exact tail6 _ _ _ (by kernel_rfl) ⟨W126.heap.size, W3.heap.size, by kernel_rfl, hb107, (Wk.Chg.hp ch119 hb106 trivial), (by omega)⟩ sS125
                      · refine Wk.oEx (some 7) _ rfl rfl (by kernel_rfl) (Wk.new_ex (.slice (some ⟨W126.heap.size, 0, none⟩) 12 12) #[.int .u8 102, .int .u8 111, .int .u8 114, .int .u8 32, .int .u8 110, .int .u8 111, .int .u8 116, .int .u8 104, .int .u8 105, .int .u8 110, .int .u8 103, .int .u8 63] 5 (by kernel_rfl)) ?_
                        rintro _ W128 ⟨rfl, hb108, ch120, sz39⟩
                        have zz128 := ch120.size
                        have sS126 := Wk.Chg.step sS124 ch120 trivial
                        refine ⟨sS126, ?_⟩
                        exact tail3 _ _ _ (by kernel_rfl) ⟨W3.heap.size, W126.heap.size, by kernel_rfl, (Wk.Chg.hp ch120 hb106 trivial), hb108, (by omega)⟩ sS126
                    · refine Wk.oEx (some 7) _ rfl rfl (by kernel_rfl) (Wk.new_ex (.slice (some ⟨W121.heap.size, 0, none⟩) 12 12) #[.int .u8 102, .int .u8 111, .int .u8 114, .int .u8 32, .int .u8 110, .int .u8 111, .int .u8 116, .int .u8 104, .int .u8 105, .int .u8 110, .int .u8 103, .int .u8 63] 5 (by kernel_rfl)) ?_
                      rintro _ W129 ⟨rfl, hb109, ch121, sz40⟩
                      have zz129 := ch121.size
                      have sS127 := Wk.Chg.step sS119 ch121 trivial
                      refine ⟨sS127, ?_⟩
                      refine Wk.dOp3 0 3 5 (by kernel_rfl) ?_ ?_ ?_
                      · refine Wk.oEx (some 3) _ rfl rfl (by kernel_rfl) (Wk.new_ex (.slice (some ⟨W129.heap.size, 0, none⟩) 4 4) #[.int .u8 74, .int .u8 101, .int .u8 102, .int .u8 101] 5 (by kernel_rfl)) ?_
                        rintro _ W130 ⟨rfl, hb110, ch122, sz41⟩
                        have zz130 := ch122.size
                        have sS128 := Wk.Chg.step sS127 ch122 trivial
                        refine ⟨sS128, ?_⟩
                        exact tail5 _ _ _ (by kernel_rfl) ⟨W129.heap.size, W3.heap.size, W121.heap.size, by kernel_rfl, hb110, (Wk.Chg.hp ch122 (Wk.Chg.hp ch121 hb101 trivial) trivial), (Wk.Chg.hp ch122 hb109 trivial), (by omega)⟩ sS128
                      · refine Wk.oEx (some 6) _ rfl rfl (by kernel_rfl) (Mur.run_mark 22 (.tmp 5) 5 rfl Tryd.underlying22 Tryd.underlying5 W3.heap.size 16 16 #[.int .u8 119, .int .u8 104, .int .u8 97, .int .u8 116, .int .u8 32, .int .u8 100, .int .u8 111, .int .u8 32, .int .u8 121, .int .u8 97, .int .u8 32, .int .u8 119, .int .u8 97, .int .u8 110, .int .u8 116, .int .u8 32] (by kernel_rfl) (Wk.Chg.hp ch121 hb101 trivial)) ?_
                        rintro _ W131 ⟨rfl, hb111, ch123⟩
                        have zz131 := ch123.size
                        have sS129 := Wk.Chg.step sS127 ch123 ⟨.inr (by omega), trivial⟩
                        refine ⟨sS129, ?_⟩
                        exact tail3 _ _ _ (by kernel_rfl) ⟨W3.heap.size, W121.heap.size, by kernel_rfl, hb111, (Wk.Chg.hp ch123 hb109 ⟨by omega, trivial⟩), (by omega)⟩ sS129
                      · refine Wk.oEx (some 8) _ rfl rfl (by kernel_rfl) (Mur.run_mark 22 (.tmp 7) 5 rfl Tryd.underlying22 Tryd.underlying5 W121.heap.size 12 12 #[.int .u8 102, .int .u8 111, .int .u8 114, .int .u8 32, .int .u8 110, .int .u8 111, .int .u8 116, .int .u8 104, .int .u8 105, .int .u8 110, .int .u8 103, .int .u8 63] (by kernel_rfl) hb109) ?_
                        rintro _ W132 ⟨rfl, hb112, ch124⟩
                        have zz132 := ch124.size
                        have sS130 := Wk.Chg.step sS127 ch124 ⟨.inr (by omega), trivial⟩
                        refine ⟨sS130, ?_⟩
                        exact tail2 _ _ _ (by kernel_rfl) ⟨W3.heap.size, W121.heap.size, by kernel_rfl, (Wk.Chg.hp ch124 (Wk.Chg.hp ch121 hb101 trivial) ⟨by omega, trivial⟩), hb112, (by omega)⟩ sS130
                  · refine Wk.oEx (some 7) _ rfl rfl (by kernel_rfl) (Wk.new_ex (.slice (some ⟨W3.heap.size, 0, none⟩) 12 12) #[.int .u8 102, .int .u8 111, .int .u8 114, .int .u8 32, .int .u8 110, .int .u8 111, .int .u8 116, .int .u8 104, .int .u8 105, .int .u8 110, .int .u8 103, .int .u8 63] 5 (by kernel_rfl)) ?_
                    rintro _ W133 ⟨rfl, hb113, ch125, sz42⟩
                    have zz133 := ch125.size
                    have sS131 := Wk.Chg.step sS1 ch125 trivial
                    refine ⟨sS131, ?_⟩
                    refine Wk.dOp3 0 2 5 (by kernel_rfl) ?_ ?_ ?_
                    · refine Wk.oEx (some 3) _ rfl rfl (by kernel_rfl) (Wk.new_ex (.slice (some ⟨W133.heap.size, 0, none⟩) 4 4) #[.int .u8 74, .int .u8 101, .int .u8 102, .int .u8 101] 5 (by kernel_rfl)) ?_
                      rintro _ W134 ⟨rfl, hb114, ch126, sz43⟩
                      have zz134 := ch126.size
                      have sS132 := Wk.Chg.step sS131 ch126 trivial
                      refine ⟨sS132, ?_⟩
                      refine Wk.dOp3 1 2 5 (by kernel_rfl) ?_ ?_ ?_
                      · refine Wk.oEx (some 4) _ rfl rfl (by kernel_rfl) (Mur.run_mark 22 (.tmp 3) 5 rfl Tryd.underlying22 Tryd.underlying5 W133.heap.size 4 4 #[.int .u8 74, .int .u8 101, .int .u8 102, .int .u8 101] (by kernel_rfl) hb114) ?_
                        rintro _ W135 ⟨rfl, hb115, ch127⟩
                        have zz135 := ch127.size
                        have sS133 := Wk.Chg.step sS132 ch127 ⟨.inr (by omega), trivial⟩
                        refine ⟨sS133, ?_⟩
                        exact tail7 _ _ _ (by kernel_rfl) ⟨W133.heap.size, W3.heap.size, by kernel_rfl, hb115, (Wk.Chg.hp ch127 (Wk.Chg.hp ch126 hb113 trivial) ⟨by omega, trivial⟩), (by omega)⟩ sS133
                      · refine Wk.oEx (some 5) _ rfl rfl (by kernel_rfl) (Wk.new_ex (.slice (some ⟨W134.heap.size, 0, none⟩) 16 16) #[.int .u8 119, .int .u8 104, .int .u8 97, .int .u8 116, .int .u8 32, .int .u8 100, .int .u8 111, .int .u8 32, .int .u8 121, .int .u8 97, .int .u8 32, .int .u8 119, .int .u8 97, .int .u8 110, .int .u8 116, .int .u8 32] 5 (by kernel_rfl)) ?_
                        rintro _ W136 ⟨rfl, hb116, ch128, sz44⟩
                        have zz136 := ch128.size
                        have sS134 := Wk.Chg.step sS132 ch128 trivial
                        refine ⟨sS134, ?_⟩
                        exact tail5 _ _ _ (by kernel_rfl) ⟨W133.heap.size, W134.heap.size, W3.heap.size, by kernel_rfl, (Wk.Chg.hp ch128 hb114 trivial), hb116, (Wk.Chg.hp ch128 (Wk.Chg.hp ch126 hb113 trivial) trivial), (by omega)⟩ sS134
                      · refine Wk.oEx (some 8) _ rfl rfl (by kernel_rfl) (Mur.run_mark 22 (.tmp 7) 5 rfl Tryd.underlying22 Tryd.underlying5 W3.heap.size 12 12 #[.int .u8 102, .int .u8 111, .int .u8 114, .int .u8 32, .int .u8 110, .int .u8 111, .int .u8 116, .int .u8 104, .int .u8 105, .int .u8 110, .int .u8 103, .int .u8 63] (by kernel_rfl) (Wk.Chg.hp ch126 hb113 trivial)) ?_
                        rintro _ W137 ⟨rfl, hb117, ch129⟩
                        have zz137 := ch129.size
                        have sS135 := Wk.Chg.step sS132 ch129 ⟨.inr (by omega), trivial⟩
                        refine ⟨sS135, ?_⟩
                        exact tail4 _ _ _ (by kernel_rfl) ⟨W133.heap.size, W3.heap.size, by kernel_rfl, (Wk.Chg.hp ch129 hb114 ⟨by omega, trivial⟩), hb117, (by omega)⟩ sS135
                    · refine Wk.oEx (some 5) _ rfl rfl (by kernel_rfl) (Wk.new_ex (.slice (some ⟨W133.heap.size, 0, none⟩) 16 16) #[.int .u8 119, .int .u8 104, .int .u8 97, .int .u8 116, .int .u8 32, .int .u8 100, .int .u8 111, .int .u8 32, .int .u8 121, .int .u8 97, .int .u8 32, .int .u8 119, .int .u8 97, .int .u8 110, .int .u8 116, .int .u8 32] 5 (by kernel_rfl)) ?_
                      rintro _ W138 ⟨rfl, hb118, ch130, sz45⟩
                      have zz138 := ch130.size
                      have sS136 := Wk.Chg.step sS131 ch130 trivial
                      refine ⟨sS136, ?_⟩
                      refine Wk.dOp3 0 3 5 (by kernel_rfl) ?_ ?_ ?_
                      · refine Wk.oEx (some 3) _ rfl rfl (by kernel_rfl) (Wk.new_ex (.slice (some ⟨W138.heap.size, 0, none⟩) 4 4) #[.int .u8 74, .int .u8 101, .int .u8 102, .int .u8 101] 5 (by kernel_rfl)) ?_
                        rintro _ W139 ⟨rfl, hb119, ch131, sz46⟩
                        have zz139 := ch131.size
                        have sS137 := Wk.Chg.step sS136 ch131 trivial
                        refine ⟨sS137, ?_⟩
                        exact tail5 _ _ _ (by kernel_rfl) ⟨W138.heap.size, W133.heap.size, W3.heap.size, by kernel_rfl, hb119, (Wk.Chg.hp ch131 hb118 trivial), (Wk.Chg.hp ch131 (Wk.Chg.hp ch130 hb113 trivial) trivial), (by omega)⟩ sS137
                      · refine Wk.oEx (some 6) _ rfl rfl (by kernel_rfl) (Mur.run_mark 22 (.tmp 5) 5 rfl Tryd.underlying22 Tryd.underlying5 W133.heap.size 16 16 #[.int .u8 119, .int .u8 104, .int .u8 97, .int .u8 116, .int .u8 32, .int .u8 100, .int .u8 111, .int .u8 32, .int .u8 121, .int .u8 97, .int .u8 32, .int .u8 119, .int .u8 97, .int .u8 110, .int .u8 116, .int .u8 32] (by kernel_rfl) hb118) ?_
                        rintro _ W140 ⟨rfl, hb120, ch132⟩
                        have zz140 := ch132.size
                        have sS138 := Wk.Chg.step sS136 ch132 ⟨.inr (by omega), trivial⟩
                        refine ⟨sS138, ?_⟩
                        exact tail3 _ _ _ (by kernel_rfl) ⟨W133.heap.size, W3.heap.size, by kernel_rfl, hb120, (Wk.Chg.hp ch132 (Wk.Chg.hp ch130 hb113 trivial) ⟨by omega, trivial⟩), (by omega)⟩ sS138
                      · refine Wk.oEx (some 8) _ rfl rfl (by kernel_rfl) (Mur.run_mark 22 (.tmp 7) 5 rfl Tryd.underlying22 Tryd.underlying5 W3.heap.size 12 12 #[.int .u8 102, .int .u8 111, .int .u8 114, .int .u8 32, .int .u8 110, .int .u8 111, .int .u8 116, .int .u8 104, .int .u8 105, .int .u8 110, .int .u8 103, .int .u8 63] (by kernel_rfl) (Wk.Chg.hp ch130 hb113 trivial)) ?_
                        rintro _ W141 ⟨rfl, hb121, ch133⟩
                        have zz141 := ch133.size
                        have sS139 := Wk.Chg.step sS136 ch133 ⟨.inr (by omega), trivial⟩
                        refine ⟨sS139, ?_⟩
                        exact tail2 _ _ _ (by kernel_rfl) ⟨W133.heap.size, W3.heap.size, by kernel_rfl, (Wk.Chg.hp ch133 hb118 ⟨by omega, trivial⟩), hb121, (by omega)⟩ sS139
                    · refine Wk.oEx (some 8) _ rfl rfl (by kernel_rfl) (Mur.run_mark 22 (.tmp 7) 5 rfl Tryd.underlying22 Tryd.underlying5 W3.heap.size 12 12 #[.int .u8 102, .int .u8 111, .int .u8 114, .int .u8 32, .int .u8 110, .int .u8 111, .int .u8 116, .int .u8 104, .int .u8 105, .int .u8 110, .int .u8 103, .int .u8 63] (by kernel_rfl) hb113) ?_
                      rintro _ W142 ⟨rfl, hb122, ch134⟩
                      have zz142 := ch134.size
                      have sS140 := Wk.Chg.step sS131 ch134 ⟨.inr (by omega), trivial⟩
                      refine ⟨sS140, ?_⟩
                      refine Wk.dOp2 0 2 (by kernel_rfl) ?_ ?_
                      · refine Wk.oEx (some 3) _ rfl rfl (by kernel_rfl) (Wk.new_ex (.slice (some ⟨W142.heap.size, 0, none⟩) 4 4) #[.int .u8 74, .int .u8 101, .int .u8 102, .int .u8 101] 5 (by kernel_rfl)) ?_
                        rintro _ W143 ⟨rfl, hb123, ch135, sz47⟩
                        have zz143 := ch135.size
                        have sS141 := Wk.Chg.step sS140 ch135 trivial
                        refine ⟨sS141, ?_⟩
                        exact tail4 _ _ _ (by kernel_rfl) ⟨W142.heap.size, W3.heap.size, by kernel_rfl, hb123, (Wk.Chg.hp ch135 hb122 trivial), (by omega)⟩ sS141
                      · refine Wk.oEx (some 5) _ rfl rfl (by kernel_rfl) (Wk.new_ex (.slice (some ⟨W142.heap.size, 0, none⟩) 16 16) #[.int .u8 119, .int .u8 104, .int .u8 97, .int .u8 116, .int .u8 32, .int .u8 100, .int .u8 111, .int .u8 32, .int .u8 121, .int .u8 97, .int .u8 32, .int .u8 119, .int .u8 97, .int .u8 110, .int .u8 116, .int .u8 32] 5 (by kernel_rfl)) ?_
                        rintro _ W144 ⟨rfl, hb124, ch136, sz48⟩
                        have zz144 := ch136.size
                        have sS142 := Wk.Chg.step sS140 ch136 trivial
                        refine ⟨sS142, ?_⟩
                        exact tail2 _ _ _ (by kernel_rfl) ⟨W142.heap.size, W3.heap.size, by kernel_rfl, hb124, (Wk.Chg.hp ch136 hb122 trivial), (by omega)⟩ sS142
end Go.Proofs.YtljfjjofhclhiaaDoor
