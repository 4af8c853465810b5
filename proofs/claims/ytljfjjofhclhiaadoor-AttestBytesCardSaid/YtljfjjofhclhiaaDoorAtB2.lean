/- AttestBytes, walked (bad). -/
import Derived.Test.YtljfjjofhclhiaaDoorAtL
namespace Go.Proofs.YtljfjjofhclhiaaDoor
open Go.RowKit
open Mur (b8s Byt Own8 Seg Segs flat cutA attC)
set_option maxRecDepth 100000
set_option maxHeartbeats 4000000
def ABbad_J4_1 (b : Array Value) (u2 : Value) (u3 : Value) (u7 : Value) (u8 : Value) : Act := ⟨#[b.getD 0 undef, b.getD 1 undef, u2, u3, b.getD 4 undef, b.getD 5 undef, b.getD 6 undef, u7, u8, b.getD 9 undef, b.getD 10 undef, b.getD 11 undef, b.getD 12 undef, b.getD 13 undef, b.getD 14 undef, b.getD 15 undef, b.getD 16 undef, b.getD 17 undef, b.getD 18 undef, b.getD 19 undef, b.getD 20 undef, b.getD 21 undef, b.getD 22 undef, b.getD 23 undef, b.getD 24 undef, b.getD 25 undef, b.getD 26 undef, b.getD 27 undef, b.getD 28 undef, b.getD 29 undef, b.getD 30 undef, b.getD 31 undef, b.getD 32 undef, b.getD 33 undef, b.getD 34 undef, b.getD 35 undef, b.getD 36 undef, b.getD 37 undef, b.getD 38 undef, b.getD 39 undef, b.getD 40 undef, b.getD 41 undef, b.getD 42 undef, b.getD 43 undef, b.getD 44 undef, b.getD 45 undef, b.getD 46 undef, b.getD 47 undef, b.getD 48 undef, b.getD 49 undef, b.getD 50 undef, b.getD 51 undef, b.getD 52 undef, b.getD 53 undef, b.getD 54 undef, b.getD 55 undef, b.getD 56 undef, b.getD 57 undef, b.getD 58 undef, b.getD 59 undef, b.getD 60 undef, b.getD 61 undef, b.getD 62 undef, b.getD 63 undef, b.getD 64 undef, b.getD 65 undef, b.getD 66 undef, b.getD 67 undef, b.getD 68 undef, b.getD 69 undef, b.getD 70 undef, b.getD 71 undef, b.getD 72 undef, b.getD 73 undef, b.getD 74 undef, b.getD 75 undef, b.getD 76 undef, b.getD 77 undef, b.getD 78 undef, b.getD 79 undef, b.getD 80 undef, b.getD 81 undef, b.getD 82 undef, b.getD 83 undef, b.getD 84 undef, b.getD 85 undef, b.getD 86 undef, b.getD 87 undef, b.getD 88 undef, b.getD 89 undef, b.getD 90 undef, b.getD 91 undef, b.getD 92 undef, b.getD 93 undef, b.getD 94 undef, b.getD 95 undef, b.getD 96 undef, b.getD 97 undef, b.getD 98 undef, b.getD 99 undef, b.getD 100 undef, b.getD 101 undef, b.getD 102 undef, b.getD 103 undef, b.getD 104 undef, b.getD 105 undef, b.getD 106 undef, b.getD 107 undef, b.getD 108 undef, b.getD 109 undef, b.getD 110 undef, b.getD 111 undef, b.getD 112 undef, b.getD 113 undef, b.getD 114 undef], []⟩
def ABbad_J8_2 (b : Array Value) (u2 : Value) (u74 : Value) : Act := ⟨#[b.getD 0 undef, b.getD 1 undef, u2, b.getD 3 undef, b.getD 4 undef, b.getD 5 undef, b.getD 6 undef, b.getD 7 undef, b.getD 8 undef, b.getD 9 undef, b.getD 10 undef, b.getD 11 undef, b.getD 12 undef, b.getD 13 undef, b.getD 14 undef, b.getD 15 undef, b.getD 16 undef, b.getD 17 undef, b.getD 18 undef, b.getD 19 undef, b.getD 20 undef, b.getD 21 undef, b.getD 22 undef, b.getD 23 undef, b.getD 24 undef, b.getD 25 undef, b.getD 26 undef, b.getD 27 undef, b.getD 28 undef, b.getD 29 undef, b.getD 30 undef, b.getD 31 undef, b.getD 32 undef, b.getD 33 undef, b.getD 34 undef, b.getD 35 undef, b.getD 36 undef, b.getD 37 undef, b.getD 38 undef, b.getD 39 undef, b.getD 40 undef, b.getD 41 undef, b.getD 42 undef, b.getD 43 undef, b.getD 44 undef, b.getD 45 undef, b.getD 46 undef, b.getD 47 undef, b.getD 48 undef, b.getD 49 undef, b.getD 50 undef, b.getD 51 undef, b.getD 52 undef, b.getD 53 undef, b.getD 54 undef, b.getD 55 undef, b.getD 56 undef, b.getD 57 undef, b.getD 58 undef, b.getD 59 undef, b.getD 60 undef, b.getD 61 undef, b.getD 62 undef, b.getD 63 undef, b.getD 64 undef, b.getD 65 undef, b.getD 66 undef, b.getD 67 undef, b.getD 68 undef, b.getD 69 undef, b.getD 70 undef, b.getD 71 undef, b.getD 72 undef, b.getD 73 undef, u74, b.getD 75 undef, b.getD 76 undef, b.getD 77 undef, b.getD 78 undef, b.getD 79 undef, b.getD 80 undef, b.getD 81 undef, b.getD 82 undef, b.getD 83 undef, b.getD 84 undef, b.getD 85 undef, b.getD 86 undef, b.getD 87 undef, b.getD 88 undef, b.getD 89 undef, b.getD 90 undef, b.getD 91 undef, b.getD 92 undef, b.getD 93 undef, b.getD 94 undef, b.getD 95 undef, b.getD 96 undef, b.getD 97 undef, b.getD 98 undef, b.getD 99 undef, b.getD 100 undef, b.getD 101 undef, b.getD 102 undef, b.getD 103 undef, b.getD 104 undef, b.getD 105 undef, b.getD 106 undef, b.getD 107 undef, b.getD 108 undef, b.getD 109 undef, b.getD 110 undef, b.getD 111 undef, b.getD 112 undef, b.getD 113 undef, b.getD 114 undef], []⟩
def ABbad_J4_3 (b : Array Value) (u2 : Value) (u3 : Value) (u7 : Value) (u8 : Value) : Act := ⟨#[b.getD 0 undef, b.getD 1 undef, u2, u3, b.getD 4 undef, b.getD 5 undef, b.getD 6 undef, u7, u8, b.getD 9 undef, b.getD 10 undef, b.getD 11 undef, b.getD 12 undef, b.getD 13 undef, b.getD 14 undef, b.getD 15 undef, b.getD 16 undef, b.getD 17 undef, b.getD 18 undef, b.getD 19 undef, b.getD 20 undef, b.getD 21 undef, b.getD 22 undef, b.getD 23 undef, b.getD 24 undef, b.getD 25 undef, b.getD 26 undef, b.getD 27 undef, b.getD 28 undef, b.getD 29 undef, b.getD 30 undef, b.getD 31 undef, b.getD 32 undef, b.getD 33 undef, b.getD 34 undef, b.getD 35 undef, b.getD 36 undef, b.getD 37 undef, b.getD 38 undef, b.getD 39 undef, b.getD 40 undef, b.getD 41 undef, b.getD 42 undef, b.getD 43 undef, b.getD 44 undef, b.getD 45 undef, b.getD 46 undef, b.getD 47 undef, b.getD 48 undef, b.getD 49 undef, b.getD 50 undef, b.getD 51 undef, b.getD 52 undef, b.getD 53 undef, b.getD 54 undef, b.getD 55 undef, b.getD 56 undef, b.getD 57 undef, b.getD 58 undef, b.getD 59 undef, b.getD 60 undef, b.getD 61 undef, b.getD 62 undef, b.getD 63 undef, b.getD 64 undef, b.getD 65 undef, b.getD 66 undef, b.getD 67 undef, b.getD 68 undef, b.getD 69 undef, b.getD 70 undef, b.getD 71 undef, b.getD 72 undef, b.getD 73 undef, b.getD 74 undef, b.getD 75 undef, b.getD 76 undef, b.getD 77 undef, b.getD 78 undef, b.getD 79 undef, b.getD 80 undef, b.getD 81 undef, b.getD 82 undef, b.getD 83 undef, b.getD 84 undef, b.getD 85 undef, b.getD 86 undef, b.getD 87 undef, b.getD 88 undef, b.getD 89 undef, b.getD 90 undef, b.getD 91 undef, b.getD 92 undef, b.getD 93 undef, b.getD 94 undef, b.getD 95 undef, b.getD 96 undef, b.getD 97 undef, b.getD 98 undef, b.getD 99 undef, b.getD 100 undef, b.getD 101 undef, b.getD 102 undef, b.getD 103 undef, b.getD 104 undef, b.getD 105 undef, b.getD 106 undef, b.getD 107 undef, b.getD 108 undef, b.getD 109 undef, b.getD 110 undef, b.getD 111 undef, b.getD 112 undef, b.getD 113 undef, b.getD 114 undef], []⟩
theorem abytes_bad (k1 r1 t1 : List UInt8) (n1 : Int) (hk1 : k1.length = 32) (hr1 : r1.length = 32) (ht1 : t1.length = 32) (hwn1 : (Lit.int .i64 n1).wf = true) (k2 r2 t2 : List UInt8) (n2 : Int) (hk2 : k2.length = 32) (hr2 : r2.length = 32) (ht2 : t2.length = 32) (_hwn2 : (Lit.int .i64 n2).wf = true) (gb ob c : Nat) (b K R E T : List UInt8) (V : Nat) (w : World) (hv : ShaVars w) (hb : Byt w (some ⟨gb, ob, none⟩) 104 b) (hnc : 104 ≤ c) (hK : (b.take 32).drop 0 = K) (hR : (b.take 64).drop 32 = R) (hE : (b.take 72).drop 64 = E) (hT : (b.take 104).drop 72 = T) (hV : Mur.be8 E = V) (hV5 : ¬ (1 ≤ V ∧ V ≤ 5000)) : Calls Tryd.prog 11 #[.agg (attC k1 r1 n1 t1).toArray, .agg (attC k2 r2 n2 t2).toArray, .slice (some ⟨gb, ob, none⟩) 104 c] w fun e w' => e = .returned (.bool true) ∧ Below w.heap.size w w' := by
  have HV := Go.Lib.hid hv
  clear hv
  have HB := Go.Lib.hid hb
  clear hb
  have hKl : K.length = 32 := by rw [← hK]; exact Mur.sub_len HB.out.1 (by omega) rfl
  have hRl : R.length = 32 := by rw [← hR]; exact Mur.sub_len HB.out.1 (by omega) rfl
  have hTl : T.length = 32 := by rw [← hT]; exact Mur.sub_len HB.out.1 (by omega) rfl
  refine calls_of_wp Tryd.func11 rfl ?_
  refine wp_seq ?_
  refine Wk.reg ?_
  refine Wk.rEx 0 (some 3) _ rfl rfl (by kernel_rfl) (Wk.new_ex (.pointer (some ⟨w.heap.size, 0, none⟩)) ((Mur.attC k1 r1 n1 t1).toArray) 36 (by kernel_rfl)) ?_
  rintro _ W1 ⟨rfl, hb1, ch1, sz1⟩
  have zz1 := ch1.size
  refine Wk.rEx 1 (some 4) _ rfl rfl (by kernel_rfl) (Wk.new_ex (.pointer (some ⟨W1.heap.size, 0, none⟩)) ((Mur.attC k2 r2 n2 t2).toArray) 36 (by kernel_rfl)) ?_
  rintro _ W2 ⟨rfl, hb2, ch2, sz2⟩
  have zz2 := ch2.size
  refine Wk.rPure 2 (some 6) (.bool false) rfl rfl (by kernel_rfl) (by kernel_rfl) ?_
  refine Wk.rEnd 3 rfl ?_
  refine Wk.nxt ?_
  refine wp_seq ?_
  refine wp_seq ?_
  refine Wk.reg ?_
  refine Wk.rPure 0 (some 13) (.slice (some ⟨gb, ob, none⟩) 104 c) rfl rfl (by kernel_rfl) (by kernel_rfl) ?_
  refine Wk.rPure 1 (some 14) (.int .i64 104) rfl rfl (by kernel_rfl) (by kernel_rfl) ?_
  refine Wk.rPure 2 (some 15) (.bool false) rfl rfl (by kernel_rfl) (Wk.boolF (b := decide ((104 : Int) > (300 : Int))) (decide_eq_false (by decide)) (by kernel_rfl)) ?_
  refine Wk.rEnd 3 rfl ?_
  refine Wk.nxt ?_
  refine wp_cond_false (by kernel_rfl) ?_
  refine wp_skip ?_
  refine Wk.nxt ?_
  refine wp_seq ?_
  refine Wk.reg ?_
  refine Wk.rPure 0 (some 18) (.agg ((Mur.attC k1 r1 n1 t1).toArray)) rfl rfl (by kernel_rfl) (Mur.loadArr 36 (.tmp 3) rfl _ Tryd.underlying36 rfl w.heap.size (by kernel_rfl) (Mur.attC k1 r1 n1 t1).toArray 97 (Mur.attC_size hk1 hr1 ht1) (by kernel_rfl) 36 (0, 0) (Wk.Chg.hp ch2 hb1 trivial)) ?_
  refine Wk.rCall 1 (some 19) 24 [.tmp 18] #[36] [.agg ((Mur.attC k1 r1 n1 t1).toArray)] rfl rfl (by kernel_rfl) rfl (by kernel_rfl) (by kernel_rfl) ?_
  by_cases hmay1 : Mur.may n1
  · have hmay1u : (1 ≤ n1 ∧ n1 ≤ 5000) := hmay1
    refine (Bytes_ok k1 r1 t1 n1 hk1 hr1 ht1 W2 hmay1).mono ?_
    rintro _ W3 ⟨qr1, cr1, RB1, hRB1, rfl, hbr1, hq1, hq2, ch3⟩
    have zz3 := ch3.size
    have hBt1 : ∀ g off, (some ⟨qr1, 0, none⟩ : Option Addr) = some ⟨g, off, none⟩ → W2.heap.size ≤ g ∧ g < W3.heap.size := fun g off e => by cases e; exact hq1
    refine ⟨_, rfl, ?_⟩
    refine Wk.rPure 2 (some 17) (.tuple #[.slice (some ⟨qr1, 0, none⟩) 104 cr1, .int .i64 0]) rfl rfl (by kernel_rfl) (by kernel_rfl) ?_
    refine Wk.rPure 3 (some 20) (.slice (some ⟨qr1, 0, none⟩) 104 cr1) rfl rfl (by kernel_rfl) (by kernel_rfl) ?_
    refine Wk.rPure 4 (some 21) (.int .i64 0) rfl rfl (by kernel_rfl) (by kernel_rfl) ?_
    refine Wk.rPure 5 (some 7) (.slice (some ⟨qr1, 0, none⟩) 104 cr1) rfl rfl (by kernel_rfl) (by kernel_rfl) ?_
    refine Wk.rPure 6 (some 8) (.int .i64 0) rfl rfl (by kernel_rfl) (by kernel_rfl) ?_
    refine Wk.rEnd 7 rfl ?_
    refine Wk.nxt ?_
    refine wp_seq ?_
    refine Wk.cut (fun a wj => a = ABbad_J4_1 a.tmps (.slice (some ⟨gb, ob, none⟩) 104 c) (.pointer (some ⟨w.heap.size, 0, none⟩)) (.slice (some ⟨qr1, 0, none⟩) 104 cr1) (.int .i64 0) ∧ Wk.Chg [] W3 wj) ?_ ?_
    · refine wp_seq ?_
      refine Wk.dReg ([]) (by kernel_rfl) ?_
      intro W4 ch4 sz3
      have zz4 := ch4.size
      have sS1 : Wk.Chg ([]) W4 W4 := (Wk.Chg.refl _).more (by simp)
      refine Wk.dVal 0 (some 22) (.int .i64 0) rfl rfl (by kernel_rfl) (by kernel_rfl) (by kernel_rfl) (fun _ _ _ h => h) (by kernel_rfl) (fun w' hw' => by kernel_rfl) sS1 ?_
      refine Wk.dVal 1 (some 23) (.bool true) rfl rfl (by kernel_rfl) (by kernel_rfl) (by kernel_rfl) (fun _ _ _ h => h) (by kernel_rfl) (fun w' hw' => (Wk.boolT (b := ((0 : Int) == (0 : Int))) (beq_iff_eq.2 (by decide)) (by kernel_rfl))) sS1 ?_
      refine Wk.dVal 2 (some 24) (.agg ((Mur.attC k1 r1 n1 t1).toArray)) rfl rfl (by kernel_rfl) (by kernel_rfl) (by kernel_rfl) (fun _ _ _ h => h) (by kernel_rfl) (fun w' hw' => (Mur.loadArr 36 (.tmp 3) rfl _ Tryd.underlying36 rfl w.heap.size (by kernel_rfl) (Mur.attC k1 r1 n1 t1).toArray 97 (Mur.attC_size hk1 hr1 ht1) (by kernel_rfl) 36 (0, 0) (Wk.Chg.hp hw' (Wk.Chg.hp ch4 (Wk.Chg.hp ch3 (Wk.Chg.hp ch2 hb1 trivial) trivial) trivial) trivial))) sS1 ?_
      refine Wk.dOp 3 (by kernel_rfl) ?_
      refine Wk.oCall (some 25) 21 [.tmp 24] #[36] [.agg ((Mur.attC k1 r1 n1 t1).toArray)] rfl rfl (by kernel_rfl) rfl (by kernel_rfl) (by kernel_rfl) ?_
      refine (Rmay_any k1 r1 t1 n1 hk1 hr1 ht1 W4).mono ?_
      rw [decide_eq_true (hmay1 : Mur.may n1)]
      rintro _ W5 ⟨rfl, ch5⟩
      have zz5 := ch5.size
      have sS2 := Wk.Chg.step sS1 ch5 trivial
      refine ⟨_, rfl, sS2, ?_⟩
      refine Wk.dVal 4 (some 26) (.bool false) rfl rfl (by kernel_rfl) (by kernel_rfl) (by kernel_rfl) (fun _ _ _ h => h) (by kernel_rfl) (fun w' hw' => by kernel_rfl) sS2 ?_
      refine Wk.dVal 5 (some 27) (.bool false) rfl rfl (by kernel_rfl) (by kernel_rfl) (by kernel_rfl) (fun _ _ _ h => h) (by kernel_rfl) (fun w' hw' => by kernel_rfl) sS2 ?_
      refine Wk.dVal 6 (some 28) (.int .i64 0) rfl rfl (by kernel_rfl) (by kernel_rfl) (by kernel_rfl) (fun _ _ _ h => h) (by kernel_rfl) (fun w' hw' => by kernel_rfl) sS2 ?_
      refine Wk.dVal 7 (some 29) (.bool false) rfl rfl (by kernel_rfl) (by kernel_rfl) (by kernel_rfl) (fun _ _ _ h => h) (by kernel_rfl) (fun w' hw' => (Wk.boolF (b := ((0 : Int) != (0 : Int))) (bne_eq_false_iff_eq.2 (by decide)) (by kernel_rfl))) sS2 ?_
      refine Wk.dVal 8 (some 30) (.bool false) rfl rfl (by kernel_rfl) (by kernel_rfl) (by kernel_rfl) (fun _ _ _ h => h) (by kernel_rfl) (fun w' hw' => by kernel_rfl) sS2 ?_
      refine Wk.dPass 9 (some 31) rfl rfl (by kernel_rfl) (by kernel_rfl) (by kernel_rfl) (fun _ _ _ h => h) (by kernel_rfl) sS2 ?_
      refine Wk.dPass 10 (some 32) rfl rfl (by kernel_rfl) (by kernel_rfl) (by kernel_rfl) (fun _ _ _ h => h) (by kernel_rfl) sS2 ?_
      refine Wk.dPass 11 (some 33) rfl rfl (by kernel_rfl) (by kernel_rfl) (by kernel_rfl) (fun _ _ _ h => h) (by kernel_rfl) sS2 ?_
      refine Wk.dPass 12 (some 34) rfl rfl (by kernel_rfl) (by kernel_rfl) (by kernel_rfl) (fun _ _ _ h => h) (by kernel_rfl) sS2 ?_
      refine Wk.dPass 13 (some 35) rfl rfl (by kernel_rfl) (by kernel_rfl) (by kernel_rfl) (fun _ _ _ h => h) (by kernel_rfl) sS2 ?_
      refine Wk.dPass 14 (some 36) rfl rfl (by kernel_rfl) (by kernel_rfl) (by kernel_rfl) (fun _ _ _ h => h) (by kernel_rfl) sS2 ?_
      refine Wk.dPass 15 (some 37) rfl rfl (by kernel_rfl) (by kernel_rfl) (by kernel_rfl) (fun _ _ _ h => h) (by kernel_rfl) sS2 ?_
      refine Wk.dVal 16 (some 38) (.bool false) rfl rfl (by kernel_rfl) (by kernel_rfl) (by kernel_rfl) (fun _ _ _ h => h) (by kernel_rfl) (fun w' hw' => by kernel_rfl) sS2 ?_
      refine Wk.dVal 17 (some 39) (.bool false) rfl rfl (by kernel_rfl) (by kernel_rfl) (by kernel_rfl) (fun _ _ _ h => h) (by kernel_rfl) (fun w' hw' => by kernel_rfl) sS2 ?_
      refine Wk.dVal 18 (some 40) (.bool false) rfl rfl (by kernel_rfl) (by kernel_rfl) (by kernel_rfl) (fun _ _ _ h => h) (by kernel_rfl) (fun w' hw' => by kernel_rfl) sS2 ?_
      refine Wk.dVal 19 (some 41) (.agg ((Mur.attC k1 r1 n1 t1).toArray)) rfl rfl (by kernel_rfl) (by kernel_rfl) (by kernel_rfl) (fun _ _ _ h => h) (by kernel_rfl) (fun w' hw' => (Mur.loadArr 36 (.tmp 3) rfl _ Tryd.underlying36 rfl w.heap.size (by kernel_rfl) (Mur.attC k1 r1 n1 t1).toArray 97 (Mur.attC_size hk1 hr1 ht1) (by kernel_rfl) 36 (0, 0) (Wk.Chg.hp hw' (Wk.Chg.hp ch4 (Wk.Chg.hp ch3 (Wk.Chg.hp ch2 hb1 trivial) trivial) trivial) trivial))) sS2 ?_
      refine Wk.dVal 20 (some 42) (.agg ((Mur.attC k2 r2 n2 t2).toArray)) rfl rfl (by kernel_rfl) (by kernel_rfl) (by kernel_rfl) (fun _ _ _ h => h) (by kernel_rfl) (fun w' hw' => (Mur.loadArr 36 (.tmp 4) rfl _ Tryd.underlying36 rfl W1.heap.size (by kernel_rfl) (Mur.attC k2 r2 n2 t2).toArray 97 (Mur.attC_size hk2 hr2 ht2) (by kernel_rfl) 36 (0, 0) (Wk.Chg.hp hw' (Wk.Chg.hp ch4 (Wk.Chg.hp ch3 hb2 trivial) trivial) trivial))) sS2 ?_
      refine Wk.dVal 22 (some 44) (.agg ((Mur.attC k1 r1 n1 t1).toArray)) rfl rfl (by kernel_rfl) (by kernel_rfl) (by kernel_rfl) (fun _ _ _ h => h) (by kernel_rfl) (fun w' hw' => (Mur.loadArr 36 (.tmp 3) rfl _ Tryd.underlying36 rfl w.heap.size (by kernel_rfl) (Mur.attC k1 r1 n1 t1).toArray 97 (Mur.attC_size hk1 hr1 ht1) (by kernel_rfl) 36 (0, 0) (Wk.Chg.hp hw' (Wk.Chg.hp ch4 (Wk.Chg.hp ch3 (Wk.Chg.hp ch2 hb1 trivial) trivial) trivial) trivial))) sS2 ?_
      refine Wk.dVal 25 (some 47) (.agg ((Mur.attC k2 r2 n2 t2).toArray)) rfl rfl (by kernel_rfl) (by kernel_rfl) (by kernel_rfl) (fun _ _ _ h => h) (by kernel_rfl) (fun w' hw' => (Mur.loadArr 36 (.tmp 4) rfl _ Tryd.underlying36 rfl W1.heap.size (by kernel_rfl) (Mur.attC k2 r2 n2 t2).toArray 97 (Mur.attC_size hk2 hr2 ht2) (by kernel_rfl) 36 (0, 0) (Wk.Chg.hp hw' (Wk.Chg.hp ch4 (Wk.Chg.hp ch3 hb2 trivial) trivial) trivial))) sS2 ?_
      refine Wk.dOp 21 (by kernel_rfl) ?_
      refine Wk.oCall (some 43) 23 [.tmp 41, .tmp 42] #[36, 36] [.agg ((Mur.attC k1 r1 n1 t1).toArray), .agg ((Mur.attC k2 r2 n2 t2).toArray)] rfl rfl (by kernel_rfl) rfl (by kernel_rfl) (by kernel_rfl) ?_
      refine (Less_any k1 r1 t1 n1 hk1 hr1 ht1 k2 r2 t2 n2 hk2 hr2 ht2 W5).mono ?_
      by_cases hls1 : Go.Lib.compareBytes (Mur.rawL k1 r1 n1 t1) (Mur.rawL k2 r2 n2 t2) < 0
      · rw [decide_eq_true (hls1 : Go.Lib.compareBytes (Mur.rawL k1 r1 n1 t1) (Mur.rawL k2 r2 n2 t2) < 0)]
        rintro _ W6 ⟨rfl, ch6⟩
        have zz6 := ch6.size
        have sS3 := Wk.Chg.step sS2 ch6 trivial
        refine ⟨_, rfl, sS3, ?_⟩
        refine Wk.dOp 23 (by kernel_rfl) ?_
        refine Wk.oCall (some 45) 25 [.tmp 44] #[36] [.agg ((Mur.attC k1 r1 n1 t1).toArray)] rfl rfl (by kernel_rfl) rfl (by kernel_rfl) (by kernel_rfl) ?_
        refine (Rbytes_any k1 r1 t1 n1 hk1 hr1 ht1 W6).mono ?_
        rintro _ W7 ⟨qr2, cr2, RB2, hRB2, rfl, hbr2, hq3, hq4, ch7⟩
        have zz7 := ch7.size
        have hBt2 : ∀ g off, (some ⟨qr2, 0, none⟩ : Option Addr) = some ⟨g, off, none⟩ → W6.heap.size ≤ g ∧ g < W7.heap.size := fun g off e => by cases e; exact hq3
        have sS4 := Wk.Chg.step sS3 ch7 trivial
        refine ⟨_, rfl, sS4, ?_⟩
        refine Wk.dOp2 24 26 (by kernel_rfl) ?_ ?_
        · refine Wk.oVal (some 46) (.string (Mur.str RB2)) rfl rfl (by kernel_rfl) (Mur.run_str 22 9 (.tmp 45) 5 rfl Tryd.underlying22 Tryd.underlying5 Tryd.underlying9 (some ⟨qr2, 0, none⟩) 104 cr2 RB2 (by kernel_rfl) hbr2) ?_
          refine ⟨sS4, ?_⟩
          refine Wk.dOp 26 (by kernel_rfl) ?_
          refine Wk.oCall (some 48) 25 [.tmp 47] #[36] [.agg ((Mur.attC k2 r2 n2 t2).toArray)] rfl rfl (by kernel_rfl) rfl (by kernel_rfl) (by kernel_rfl) ?_
          refine (Rbytes_any k2 r2 t2 n2 hk2 hr2 ht2 W7).mono ?_
          rintro _ W8 ⟨qr3, cr3, RB3, hRB3, rfl, hbr3, hq5, hq6, ch8⟩
          have zz8 := ch8.size
          have hBt3 : ∀ g off, (some ⟨qr3, 0, none⟩ : Option Addr) = some ⟨g, off, none⟩ → W7.heap.size ≤ g ∧ g < W8.heap.size := fun g off e => by cases e; exact hq5
          have sS5 := Wk.Chg.step sS4 ch8 trivial
          refine ⟨_, rfl, sS5, ?_⟩
          refine Wk.dOp 27 (by kernel_rfl) ?_
          refine Wk.oVal (some 49) (.string (Mur.str RB3)) rfl rfl (by kernel_rfl) (Mur.run_str 22 9 (.tmp 48) 5 rfl Tryd.underlying22 Tryd.underlying5 Tryd.underlying9 (some ⟨qr3, 0, none⟩) 104 cr3 RB3 (by kernel_rfl) hbr3) ?_
          refine ⟨sS5, ?_⟩
          refine Wk.dVal 28 (some 50) (.bool true) rfl rfl (by kernel_rfl) (by kernel_rfl) (by kernel_rfl) (fun _ _ _ h => h) (by kernel_rfl) (fun w' hw' => (Wk.boolT (b := decide (Go.Lib.compareBytes RB2 RB3 < 0)) (decide_eq_true (by rw [hRB2.out, hRB3.out]; exact hls1)) (Mur.strlss 9 9 (.tmp 46) (.tmp 49) rfl RB2 RB3 (by kernel_rfl) (by kernel_rfl)))) sS5 ?_
          refine Wk.dVal 29 (some 51) (.bool false) rfl rfl (by kernel_rfl) (by kernel_rfl) (by kernel_rfl) (fun _ _ _ h => h) (by kernel_rfl) (fun w' hw' => by kernel_rfl) sS5 ?_
          refine Wk.dVal 30 (some 52) (.bool false) rfl rfl (by kernel_rfl) (by kernel_rfl) (by kernel_rfl) (fun _ _ _ h => h) (by kernel_rfl) (fun w' hw' => by kernel_rfl) sS5 ?_
          refine Wk.dEnd (by kernel_rfl) ?_
          refine Wk.nxt ?_
          refine wp_cond_false (by kernel_rfl) ?_
          refine wp_skip ?_
          refine Wk.nxt ?_
          exact ⟨by kernel_rfl, (Wk.Chg.step (Wk.Chg.step (Wk.Chg.step (Wk.Chg.step (Wk.Chg.step ((Wk.Chg.refl _).more (by simp) : Wk.Chg [] W3 W3) ch4 trivial) ch5 trivial) ch6 trivial) ch7 trivial) ch8 trivial)⟩
        · refine Wk.oCall (some 48) 25 [.tmp 47] #[36] [.agg ((Mur.attC k2 r2 n2 t2).toArray)] rfl rfl (by kernel_rfl) rfl (by kernel_rfl) (by kernel_rfl) ?_
          refine (Rbytes_any k2 r2 t2 n2 hk2 hr2 ht2 W7).mono ?_
          rintro _ W9 ⟨qr4, cr4, RB4, hRB4, rfl, hbr4, hq7, hq8, ch9⟩
          have zz9 := ch9.size
          have hBt4 : ∀ g off, (some ⟨qr4, 0, none⟩ : Option Addr) = some ⟨g, off, none⟩ → W7.heap.size ≤ g ∧ g < W9.heap.size := fun g off e => by cases e; exact hq7
          have sS6 := Wk.Chg.step sS4 ch9 trivial
          refine ⟨_, rfl, sS6, ?_⟩
          refine Wk.dOp2 24 27 (by kernel_rfl) ?_ ?_
          · refine Wk.oVal (some 46) (.string (Mur.str RB2)) rfl rfl (by kernel_rfl) (Mur.run_str 22 9 (.tmp 45) 5 rfl Tryd.underlying22 Tryd.underlying5 Tryd.underlying9 (some ⟨qr2, 0, none⟩) 104 cr2 RB2 (by kernel_rfl) (Mur.byt_chg hbr2 ch9 (fun g off e hl => trivial))) ?_
            refine ⟨sS6, ?_⟩
            refine Wk.dOp 27 (by kernel_rfl) ?_
            refine Wk.oVal (some 49) (.string (Mur.str RB4)) rfl rfl (by kernel_rfl) (Mur.run_str 22 9 (.tmp 48) 5 rfl Tryd.underlying22 Tryd.underlying5 Tryd.underlying9 (some ⟨qr4, 0, none⟩) 104 cr4 RB4 (by kernel_rfl) hbr4) ?_
            refine ⟨sS6, ?_⟩
            refine Wk.dVal 28 (some 50) (.bool true) rfl rfl (by kernel_rfl) (by kernel_rfl) (by kernel_rfl) (fun _ _ _ h => h) (by kernel_rfl) (fun w' hw' => (Wk.boolT (b := decide (Go.Lib.compareBytes RB2 RB4 < 0)) (decide_eq_true (by rw [hRB2.out, hRB4.out]; exact hls1)) (Mur.strlss 9 9 (.tmp 46) (.tmp 49) rfl RB2 RB4 (by kernel_rfl) (by kernel_rfl)))) sS6 ?_
            refine Wk.dVal 29 (some 51) (.bool false) rfl rfl (by kernel_rfl) (by kernel_rfl) (by kernel_rfl) (fun _ _ _ h => h) (by kernel_rfl) (fun w' hw' => by kernel_rfl) sS6 ?_
            refine Wk.dVal 30 (some 52) (.bool false) rfl rfl (by kernel_rfl) (by kernel_rfl) (by kernel_rfl) (fun _ _ _ h => h) (by kernel_rfl) (fun w' hw' => by kernel_rfl) sS6 ?_
            refine Wk.dEnd (by kernel_rfl) ?_
            refine Wk.nxt ?_
            refine wp_cond_false (by kernel_rfl) ?_
            refine wp_skip ?_
            refine Wk.nxt ?_
            exact ⟨by kernel_rfl, (Wk.Chg.step (Wk.Chg.step (Wk.Chg.step (Wk.Chg.step (Wk.Chg.step ((Wk.Chg.refl _).more (by simp) : Wk.Chg [] W3 W3) ch4 trivial) ch5 trivial) ch6 trivial) ch7 trivial) ch9 trivial)⟩
          · refine Wk.oVal (some 49) (.string (Mur.str RB4)) rfl rfl (by kernel_rfl) (Mur.run_str 22 9 (.tmp 48) 5 rfl Tryd.underlying22 Tryd.underlying5 Tryd.underlying9 (some ⟨qr4, 0, none⟩) 104 cr4 RB4 (by kernel_rfl) hbr4) ?_
            refine ⟨sS6, ?_⟩
            refine Wk.dOp 24 (by kernel_rfl) ?_
            refine Wk.oVal (some 46) (.string (Mur.str RB2)) rfl rfl (by kernel_rfl) (Mur.run_str 22 9 (.tmp 45) 5 rfl Tryd.underlying22 Tryd.underlying5 Tryd.underlying9 (some ⟨qr2, 0, none⟩) 104 cr2 RB2 (by kernel_rfl) (Mur.byt_chg hbr2 ch9 (fun g off e hl => trivial))) ?_
            refine ⟨sS6, ?_⟩
            refine Wk.dVal 28 (some 50) (.bool true) rfl rfl (by kernel_rfl) (by kernel_rfl) (by kernel_rfl) (fun _ _ _ h => h) (by kernel_rfl) (fun w' hw' => (Wk.boolT (b := decide (Go.Lib.compareBytes RB2 RB4 < 0)) (decide_eq_true (by rw [hRB2.out, hRB4.out]; exact hls1)) (Mur.strlss 9 9 (.tmp 46) (.tmp 49) rfl RB2 RB4 (by kernel_rfl) (by kernel_rfl)))) sS6 ?_
            refine Wk.dVal 29 (some 51) (.bool false) rfl rfl (by kernel_rfl) (by kernel_rfl) (by kernel_rfl) (fun _ _ _ h => h) (by kernel_rfl) (fun w' hw' => by kernel_rfl) sS6 ?_
            refine Wk.dVal 30 (some 52) (.bool false) rfl rfl (by kernel_rfl) (by kernel_rfl) (by kernel_rfl) (fun _ _ _ h => h) (by kernel_rfl) (fun w' hw' => by kernel_rfl) sS6 ?_
            refine Wk.dEnd (by kernel_rfl) ?_
            refine Wk.nxt ?_
            refine wp_cond_false (by kernel_rfl) ?_
            refine wp_skip ?_
            refine Wk.nxt ?_
            exact ⟨by kernel_rfl, (Wk.Chg.step (Wk.Chg.step (Wk.Chg.step (Wk.Chg.step (Wk.Chg.step ((Wk.Chg.refl _).more (by simp) : Wk.Chg [] W3 W3) ch4 trivial) ch5 trivial) ch6 trivial) ch7 trivial) ch9 trivial)⟩
      · rw [decide_eq_false (hls1 : ¬ Go.Lib.compareBytes (Mur.rawL k1 r1 n1 t1) (Mur.rawL k2 r2 n2 t2) < 0)]
        rintro _ W6 ⟨rfl, ch6⟩
        have zz10 := ch6.size
        have sS7 := Wk.Chg.step sS2 ch6 trivial
        refine ⟨_, rfl, sS7, ?_⟩
        refine Wk.dOp 23 (by kernel_rfl) ?_
        refine Wk.oCall (some 45) 25 [.tmp 44] #[36] [.agg ((Mur.attC k1 r1 n1 t1).toArray)] rfl rfl (by kernel_rfl) rfl (by kernel_rfl) (by kernel_rfl) ?_
        refine (Rbytes_any k1 r1 t1 n1 hk1 hr1 ht1 W6).mono ?_
        rintro _ W10 ⟨qr5, cr5, RB5, hRB5, rfl, hbr5, hq9, hq10, ch10⟩
        have zz11 := ch10.size
        have hBt5 : ∀ g off, (some ⟨qr5, 0, none⟩ : Option Addr) = some ⟨g, off, none⟩ → W6.heap.size ≤ g ∧ g < W10.heap.size := fun g off e => by cases e; exact hq9
        have sS8 := Wk.Chg.step sS7 ch10 trivial
        refine ⟨_, rfl, sS8, ?_⟩
        refine Wk.dOp2 24 26 (by kernel_rfl) ?_ ?_
        · refine Wk.oVal (some 46) (.string (Mur.str RB5)) rfl rfl (by kernel_rfl) (Mur.run_str 22 9 (.tmp 45) 5 rfl Tryd.underlying22 Tryd.underlying5 Tryd.underlying9 (some ⟨qr5, 0, none⟩) 104 cr5 RB5 (by kernel_rfl) hbr5) ?_
          refine ⟨sS8, ?_⟩
          refine Wk.dOp 26 (by kernel_rfl) ?_
          refine Wk.oCall (some 48) 25 [.tmp 47] #[36] [.agg ((Mur.attC k2 r2 n2 t2).toArray)] rfl rfl (by kernel_rfl) rfl (by kernel_rfl) (by kernel_rfl) ?_
          refine (Rbytes_any k2 r2 t2 n2 hk2 hr2 ht2 W10).mono ?_
          rintro _ W11 ⟨qr6, cr6, RB6, hRB6, rfl, hbr6, hq11, hq12, ch11⟩
          have zz12 := ch11.size
          have hBt6 : ∀ g off, (some ⟨qr6, 0, none⟩ : Option Addr) = some ⟨g, off, none⟩ → W10.heap.size ≤ g ∧ g < W11.heap.size := fun g off e => by cases e; exact hq11
          have sS9 := Wk.Chg.step sS8 ch11 trivial
          refine ⟨_, rfl, sS9, ?_⟩
          refine Wk.dOp 27 (by kernel_rfl) ?_
          refine Wk.oVal (some 49) (.string (Mur.str RB6)) rfl rfl (by kernel_rfl) (Mur.run_str 22 9 (.tmp 48) 5 rfl Tryd.underlying22 Tryd.underlying5 Tryd.underlying9 (some ⟨qr6, 0, none⟩) 104 cr6 RB6 (by kernel_rfl) hbr6) ?_
          refine ⟨sS9, ?_⟩
          refine Wk.dVal 28 (some 50) (.bool false) rfl rfl (by kernel_rfl) (by kernel_rfl) (by kernel_rfl) (fun _ _ _ h => h) (by kernel_rfl) (fun w' hw' => (Wk.boolF (b := decide (Go.Lib.compareBytes RB5 RB6 < 0)) (decide_eq_false (by rw [hRB5.out, hRB6.out]; exact hls1)) (Mur.strlss 9 9 (.tmp 46) (.tmp 49) rfl RB5 RB6 (by kernel_rfl) (by kernel_rfl)))) sS9 ?_
          refine Wk.dVal 29 (some 51) (.bool false) rfl rfl (by kernel_rfl) (by kernel_rfl) (by kernel_rfl) (fun _ _ _ h => h) (by kernel_rfl) (fun w' hw' => by kernel_rfl) sS9 ?_
          refine Wk.dVal 30 (some 52) (.bool false) rfl rfl (by kernel_rfl) (by kernel_rfl) (by kernel_rfl) (fun _ _ _ h => h) (by kernel_rfl) (fun w' hw' => by kernel_rfl) sS9 ?_
          refine Wk.dEnd (by kernel_rfl) ?_
          refine Wk.nxt ?_
          refine wp_cond_false (by kernel_rfl) ?_
          refine wp_skip ?_
          refine Wk.nxt ?_
          exact ⟨by kernel_rfl, (Wk.Chg.step (Wk.Chg.step (Wk.Chg.step (Wk.Chg.step (Wk.Chg.step ((Wk.Chg.refl _).more (by simp) : Wk.Chg [] W3 W3) ch4 trivial) ch5 trivial) ch6 trivial) ch10 trivial) ch11 trivial)⟩
        · refine Wk.oCall (some 48) 25 [.tmp 47] #[36] [.agg ((Mur.attC k2 r2 n2 t2).toArray)] rfl rfl (by kernel_rfl) rfl (by kernel_rfl) (by kernel_rfl) ?_
          refine (Rbytes_any k2 r2 t2 n2 hk2 hr2 ht2 W10).mono ?_
          rintro _ W12 ⟨qr7, cr7, RB7, hRB7, rfl, hbr7, hq13, hq14, ch12⟩
          have zz13 := ch12.size
          have hBt7 : ∀ g off, (some ⟨qr7, 0, none⟩ : Option Addr) = some ⟨g, off, none⟩ → W10.heap.size ≤ g ∧ g < W12.heap.size := fun g off e => by cases e; exact hq13
          have sS10 := Wk.Chg.step sS8 ch12 trivial
          refine ⟨_, rfl, sS10, ?_⟩
          refine Wk.dOp2 24 27 (by kernel_rfl) ?_ ?_
          · refine Wk.oVal (some 46) (.string (Mur.str RB5)) rfl rfl (by kernel_rfl) (Mur.run_str 22 9 (.tmp 45) 5 rfl Tryd.underlying22 Tryd.underlying5 Tryd.underlying9 (some ⟨qr5, 0, none⟩) 104 cr5 RB5 (by kernel_rfl) (Mur.byt_chg hbr5 ch12 (fun g off e hl => trivial))) ?_
            refine ⟨sS10, ?_⟩
            refine Wk.dOp 27 (by kernel_rfl) ?_
            refine Wk.oVal (some 49) (.string (Mur.str RB7)) rfl rfl (by kernel_rfl) (Mur.run_str 22 9 (.tmp 48) 5 rfl Tryd.underlying22 Tryd.underlying5 Tryd.underlying9 (some ⟨qr7, 0, none⟩) 104 cr7 RB7 (by kernel_rfl) hbr7) ?_
            refine ⟨sS10, ?_⟩
            refine Wk.dVal 28 (some 50) (.bool false) rfl rfl (by kernel_rfl) (by kernel_rfl) (by kernel_rfl) (fun _ _ _ h => h) (by kernel_rfl) (fun w' hw' => (Wk.boolF (b := decide (Go.Lib.compareBytes RB5 RB7 < 0)) (decide_eq_false (by rw [hRB5.out, hRB7.out]; exact hls1)) (Mur.strlss 9 9 (.tmp 46) (.tmp 49) rfl RB5 RB7 (by kernel_rfl) (by kernel_rfl)))) sS10 ?_
            refine Wk.dVal 29 (some 51) (.bool false) rfl rfl (by kernel_rfl) (by kernel_rfl) (by kernel_rfl) (fun _ _ _ h => h) (by kernel_rfl) (fun w' hw' => by kernel_rfl) sS10 ?_
            refine Wk.dVal 30 (some 52) (.bool false) rfl rfl (by kernel_rfl) (by kernel_rfl) (by kernel_rfl) (fun _ _ _ h => h) (by kernel_rfl) (fun w' hw' => by kernel_rfl) sS10 ?_
            refine Wk.dEnd (by kernel_rfl) ?_
            refine Wk.nxt ?_
            refine wp_cond_false (by kernel_rfl) ?_
            refine wp_skip ?_
            refine Wk.nxt ?_
            exact ⟨by kernel_rfl, (Wk.Chg.step (Wk.Chg.step (Wk.Chg.step (Wk.Chg.step (Wk.Chg.step ((Wk.Chg.refl _).more (by simp) : Wk.Chg [] W3 W3) ch4 trivial) ch5 trivial) ch6 trivial) ch10 trivial) ch12 trivial)⟩
          · refine Wk.oVal (some 49) (.string (Mur.str RB7)) rfl rfl (by kernel_rfl) (Mur.run_str 22 9 (.tmp 48) 5 rfl Tryd.underlying22 Tryd.underlying5 Tryd.underlying9 (some ⟨qr7, 0, none⟩) 104 cr7 RB7 (by kernel_rfl) hbr7) ?_
            refine ⟨sS10, ?_⟩
            refine Wk.dOp 24 (by kernel_rfl) ?_
            refine Wk.oVal (some 46) (.string (Mur.str RB5)) rfl rfl (by kernel_rfl) (Mur.run_str 22 9 (.tmp 45) 5 rfl Tryd.underlying22 Tryd.underlying5 Tryd.underlying9 (some ⟨qr5, 0, none⟩) 104 cr5 RB5 (by kernel_rfl) (Mur.byt_chg hbr5 ch12 (fun g off e hl => trivial))) ?_
            refine ⟨sS10, ?_⟩
            refine Wk.dVal 28 (some 50) (.bool false) rfl rfl (by kernel_rfl) (by kernel_rfl) (by kernel_rfl) (fun _ _ _ h => h) (by kernel_rfl) (fun w' hw' => (Wk.boolF (b := decide (Go.Lib.compareBytes RB5 RB7 < 0)) (decide_eq_false (by rw [hRB5.out, hRB7.out]; exact hls1)) (Mur.strlss 9 9 (.tmp 46) (.tmp 49) rfl RB5 RB7 (by kernel_rfl) (by kernel_rfl)))) sS10 ?_
            refine Wk.dVal 29 (some 51) (.bool false) rfl rfl (by kernel_rfl) (by kernel_rfl) (by kernel_rfl) (fun _ _ _ h => h) (by kernel_rfl) (fun w' hw' => by kernel_rfl) sS10 ?_
            refine Wk.dVal 30 (some 52) (.bool false) rfl rfl (by kernel_rfl) (by kernel_rfl) (by kernel_rfl) (fun _ _ _ h => h) (by kernel_rfl) (fun w' hw' => by kernel_rfl) sS10 ?_
            refine Wk.dEnd (by kernel_rfl) ?_
            refine Wk.nxt ?_
            refine wp_cond_false (by kernel_rfl) ?_
            refine wp_skip ?_
            refine Wk.nxt ?_
            exact ⟨by kernel_rfl, (Wk.Chg.step (Wk.Chg.step (Wk.Chg.step (Wk.Chg.step (Wk.Chg.step ((Wk.Chg.refl _).more (by simp) : Wk.Chg [] W3 W3) ch4 trivial) ch5 trivial) ch6 trivial) ch10 trivial) ch12 trivial)⟩
    · rintro aa1 W13 ⟨hF1, ch13⟩
      have zz14 := ch13.size
      generalize aa1.tmps = bb1 at hF1
      subst hF1
      refine Wk.nxt ?_
      refine wp_seq ?_
      refine wp_seq ?_
      refine Wk.reg ?_
      refine Wk.rPure 0 (some 53) (.int .i64 0) rfl rfl (by kernel_rfl) (by kernel_rfl) ?_
      refine Wk.rPure 1 (some 54) (.bool true) rfl rfl (by kernel_rfl) (Wk.boolT (b := ((0 : Int) == (0 : Int))) (beq_iff_eq.2 (by decide)) (by kernel_rfl)) ?_
      refine Wk.rEnd 2 rfl ?_
      refine Wk.nxt ?_
      refine wp_cond_true (by kernel_rfl) ?_
      refine wp_seq ?_
      refine Wk.reg ?_
      refine Wk.rPure 0 (some 56) (.slice (some ⟨qr1, 0, none⟩) 104 cr1) rfl rfl (by kernel_rfl) (by kernel_rfl) ?_
      refine Wk.rCall 1 (some 57) 26 [.tmp 56] #[22] [.slice (some ⟨qr1, 0, none⟩) 104 cr1] rfl rfl (by kernel_rfl) rfl (by kernel_rfl) (by kernel_rfl) ?_
      refine (Read_ok qr1 0 cr1 RB1 k1 r1 (Mur.e8 (Mur.u64n n1)) t1 (Mur.u64n n1) W13 (Mur.byt_chg hbr1 ch13 (fun g off e hl => trivial)) (by omega) (by rw [hRB1.out]; exact Mur.raw_k hk1) (by rw [hRB1.out]; exact Mur.raw_r hk1 hr1) (by rw [hRB1.out]; exact Mur.raw_e hk1 hr1) (by rw [hRB1.out]; exact Mur.raw_t hk1 hr1 ht1) (Mur.e8_be' _ (Mur.u64n_lt _)) (by have := Mur.may_u64 hmay1; omega)).mono ?_
      rw [(Mur.may_u64 hmay1).2]
      rintro _ W14 ⟨rfl, ch14⟩
      have zz15 := ch14.size
      refine ⟨_, rfl, ?_⟩
      refine Wk.rPure 2 (some 55) (.tuple #[.agg ((Mur.attC k1 r1 n1 t1).toArray), .int .i64 0]) rfl rfl (by kernel_rfl) (by kernel_rfl) ?_
      refine Wk.rPure 3 (some 58) (.agg ((Mur.attC k1 r1 n1 t1).toArray)) rfl rfl (by kernel_rfl) (by kernel_rfl) ?_
      refine Wk.rPure 4 (some 59) (.int .i64 0) rfl rfl (by kernel_rfl) (by kernel_rfl) ?_
      refine Wk.rEx 5 (some 9) _ rfl rfl (by kernel_rfl) (Wk.new_ex (.pointer (some ⟨W14.heap.size, 0, none⟩)) #[.int .u8 0, .int .u8 0, .int .u8 0, .int .u8 0, .int .u8 0, .int .u8 0, .int .u8 0, .int .u8 0, .int .u8 0, .int .u8 0, .int .u8 0, .int .u8 0, .int .u8 0, .int .u8 0, .int .u8 0, .int .u8 0, .int .u8 0, .int .u8 0, .int .u8 0, .int .u8 0, .int .u8 0, .int .u8 0, .int .u8 0, .int .u8 0, .int .u8 0, .int .u8 0, .int .u8 0, .int .u8 0, .int .u8 0, .int .u8 0, .int .u8 0, .int .u8 0, .int .u8 0, .int .u8 0, .int .u8 0, .int .u8 0, .int .u8 0, .int .u8 0, .int .u8 0, .int .u8 0, .int .u8 0, .int .u8 0, .int .u8 0, .int .u8 0, .int .u8 0, .int .u8 0, .int .u8 0, .int .u8 0, .int .u8 0, .int .u8 0, .int .u8 0, .int .u8 0, .int .u8 0, .int .u8 0, .int .u8 0, .int .u8 0, .int .u8 0, .int .u8 0, .int .u8 0, .int .u8 0, .int .u8 0, .int .u8 0, .int .u8 0, .int .u8 0, .int .i64 0, .int .u8 0, .int .u8 0, .int .u8 0, .int .u8 0, .int .u8 0, .int .u8 0, .int .u8 0, .int .u8 0, .int .u8 0, .int .u8 0, .int .u8 0, .int .u8 0, .int .u8 0, .int .u8 0, .int .u8 0, .int .u8 0, .int .u8 0, .int .u8 0, .int .u8 0, .int .u8 0, .int .u8 0, .int .u8 0, .int .u8 0, .int .u8 0, .int .u8 0, .int .u8 0, .int .u8 0, .int .u8 0, .int .u8 0, .int .u8 0, .int .u8 0, .int .u8 0] 36 (by kernel_rfl)) ?_
      rintro _ W15 ⟨rfl, hb3, ch15, sz4⟩
      have zz16 := ch15.size
      rw [← Mur.attC_zero] at hb3
      refine Wk.rExS 6 none _ rfl rfl (by kernel_rfl) (Mur.storeArr 36 (.tmp 9) (.tmp 58) rfl W14.heap.size (by kernel_rfl) (Mur.attC k1 r1 n1 t1).toArray 97 (Mur.attC_size hk1 hr1 ht1) Mur.attC_all (by kernel_rfl) (by kernel_rfl) 36 ((Mur.attC Mur.z32 Mur.z32 0 Mur.z32).toArray) hb3 (Mur.attC_size rfl rfl rfl)) ?_
      rintro W16 ⟨hb4, ch16⟩
      have zz17 := ch16.size
      refine Wk.rPure 7 (some 10) (.int .i64 0) rfl rfl (by kernel_rfl) (by kernel_rfl) ?_
      refine Wk.rEnd 8 rfl ?_
      refine Wk.nxt ?_
      refine wp_seq ?_
      refine Wk.cut (fun a wj => a = ABbad_J8_2 a.tmps (.slice (some ⟨gb, ob, none⟩) 104 c) (.bool false) ∧ Wk.Chg [] W16 wj) ?_ ?_
      · refine Wk.dReg ([]) (by kernel_rfl) ?_
        intro W17 ch17 sz5
        have zz18 := ch17.size
        have sS11 : Wk.Chg ([]) W17 W17 := (Wk.Chg.refl _).more (by simp)
        refine Wk.dVal 0 (some 60) (.slice (some ⟨qr1, 0, none⟩) 104 cr1) rfl rfl (by kernel_rfl) (by kernel_rfl) (by kernel_rfl) (fun _ _ _ h => h) (by kernel_rfl) (fun w' hw' => by kernel_rfl) sS11 ?_
        refine Wk.dVal 1 (some 61) (.string (Mur.str RB1)) rfl rfl (by kernel_rfl) (by kernel_rfl) (by kernel_rfl) (fun _ _ _ h => h) (by kernel_rfl) (fun w' hw' => (Mur.run_str 22 9 (.tmp 60) 5 rfl Tryd.underlying22 Tryd.underlying5 Tryd.underlying9 (some ⟨qr1, 0, none⟩) 104 cr1 RB1 (by kernel_rfl) (Mur.byt_chg (Mur.byt_chg (Mur.byt_chg (Mur.byt_chg (Mur.byt_chg (Mur.byt_chg hbr1 ch13 (fun g off e hl => trivial)) ch14 (fun g off e hl => trivial)) ch15 (fun g off e hl => trivial)) ch16 (fun g off e hl => ⟨by have := hBt1 g off e; omega, trivial⟩)) ch17 (fun g off e hl => trivial)) hw' (fun g off e hl => trivial)))) sS11 ?_
        refine Wk.dVal 2 (some 62) (.agg ((Mur.attC k1 r1 n1 t1).toArray)) rfl rfl (by kernel_rfl) (by kernel_rfl) (by kernel_rfl) (fun _ _ _ h => h) (by kernel_rfl) (fun w' hw' => (Mur.loadArr 36 (.tmp 3) rfl _ Tryd.underlying36 rfl w.heap.size (by kernel_rfl) (Mur.attC k1 r1 n1 t1).toArray 97 (Mur.attC_size hk1 hr1 ht1) (by kernel_rfl) 36 (0, 0) (Wk.Chg.hp hw' (Wk.Chg.hp ch17 (Wk.Chg.hp ch16 (Wk.Chg.hp ch15 (Wk.Chg.hp ch14 (Wk.Chg.hp ch13 (Wk.Chg.hp ch3 (Wk.Chg.hp ch2 hb1 trivial) trivial) trivial) trivial) trivial) ⟨by omega, trivial⟩) trivial) trivial))) sS11 ?_
        refine Wk.dOp 3 (by kernel_rfl) ?_
        refine Wk.oCall (some 63) 25 [.tmp 62] #[36] [.agg ((Mur.attC k1 r1 n1 t1).toArray)] rfl rfl (by kernel_rfl) rfl (by kernel_rfl) (by kernel_rfl) ?_
        refine (Rbytes_any k1 r1 t1 n1 hk1 hr1 ht1 W17).mono ?_
        rintro _ W18 ⟨qr8, cr8, RB8, hRB8, rfl, hbr8, hq15, hq16, ch18⟩
        have zz19 := ch18.size
        have hBt8 : ∀ g off, (some ⟨qr8, 0, none⟩ : Option Addr) = some ⟨g, off, none⟩ → W17.heap.size ≤ g ∧ g < W18.heap.size := fun g off e => by cases e; exact hq15
        have sS12 := Wk.Chg.step sS11 ch18 trivial
        refine ⟨_, rfl, sS12, ?_⟩
        refine Wk.dOp 4 (by kernel_rfl) ?_
        refine Wk.oVal (some 64) (.string (Mur.str RB8)) rfl rfl (by kernel_rfl) (Mur.run_str 22 9 (.tmp 63) 5 rfl Tryd.underlying22 Tryd.underlying5 Tryd.underlying9 (some ⟨qr8, 0, none⟩) 104 cr8 RB8 (by kernel_rfl) hbr8) ?_
        refine ⟨sS12, ?_⟩
        refine Wk.dVal 5 (some 65) (.bool false) rfl rfl (by kernel_rfl) (by kernel_rfl) (by kernel_rfl) (fun _ _ _ h => h) (by kernel_rfl) (fun w' hw' => (Wk.boolF (b := decide (RB1 ≠ RB8)) (decide_eq_false (fun h => h (hRB1.out.trans hRB8.out.symm))) (Mur.strne 9 9 (.tmp 61) (.tmp 64) rfl RB1 RB8 (by kernel_rfl) (by kernel_rfl)))) sS12 ?_
        refine Wk.dVal 6 (some 66) (.bool false) rfl rfl (by kernel_rfl) (by kernel_rfl) (by kernel_rfl) (fun _ _ _ h => h) (by kernel_rfl) (fun w' hw' => by kernel_rfl) sS12 ?_
        refine Wk.dVal 7 (some 67) (.agg ((Mur.attC k1 r1 n1 t1).toArray)) rfl rfl (by kernel_rfl) (by kernel_rfl) (by kernel_rfl) (fun _ _ _ h => h) (by kernel_rfl) (fun w' hw' => (Mur.loadArr 36 (.tmp 9) rfl _ Tryd.underlying36 rfl W14.heap.size (by kernel_rfl) (Mur.attC k1 r1 n1 t1).toArray 97 (Mur.attC_size hk1 hr1 ht1) (by kernel_rfl) 36 (0, 0) (Wk.Chg.hp hw' (Wk.Chg.hp ch17 hb4 trivial) trivial))) sS12 ?_
        refine Wk.dVal 8 (some 68) (.agg ((Mur.attC k1 r1 n1 t1).toArray)) rfl rfl (by kernel_rfl) (by kernel_rfl) (by kernel_rfl) (fun _ _ _ h => h) (by kernel_rfl) (fun w' hw' => (Mur.loadArr 36 (.tmp 3) rfl _ Tryd.underlying36 rfl w.heap.size (by kernel_rfl) (Mur.attC k1 r1 n1 t1).toArray 97 (Mur.attC_size hk1 hr1 ht1) (by kernel_rfl) 36 (0, 0) (Wk.Chg.hp hw' (Wk.Chg.hp ch17 (Wk.Chg.hp ch16 (Wk.Chg.hp ch15 (Wk.Chg.hp ch14 (Wk.Chg.hp ch13 (Wk.Chg.hp ch3 (Wk.Chg.hp ch2 hb1 trivial) trivial) trivial) trivial) trivial) ⟨by omega, trivial⟩) trivial) trivial))) sS12 ?_
        refine Wk.dVal 9 (some 69) (.bool false) rfl rfl (by kernel_rfl) (by kernel_rfl) (by kernel_rfl) (fun _ _ _ h => h) (by kernel_rfl) (fun w' hw' => (Wk.boolF (b := !decide (k1 = k1 ∧ r1 = r1 ∧ n1 = n1 ∧ t1 = t1)) ((by rw [decide_eq_true (⟨rfl, rfl, rfl, rfl⟩)]; rfl)) (run_neq_att (.tmp 67) (.tmp 68) 36 rfl hk1 hr1 ht1 hk1 hr1 ht1 hwn1 hwn1 (by kernel_rfl) (by kernel_rfl)))) sS12 ?_
        refine Wk.dVal 10 (some 70) (.bool false) rfl rfl (by kernel_rfl) (by kernel_rfl) (by kernel_rfl) (fun _ _ _ h => h) (by kernel_rfl) (fun w' hw' => by kernel_rfl) sS12 ?_
        refine Wk.dVal 11 (some 71) (.bool false) rfl rfl (by kernel_rfl) (by kernel_rfl) (by kernel_rfl) (fun _ _ _ h => h) (by kernel_rfl) (fun w' hw' => by kernel_rfl) sS12 ?_
        refine Wk.dVal 12 (some 72) (.int .i64 0) rfl rfl (by kernel_rfl) (by kernel_rfl) (by kernel_rfl) (fun _ _ _ h => h) (by kernel_rfl) (fun w' hw' => by kernel_rfl) sS12 ?_
        refine Wk.dVal 13 (some 73) (.bool false) rfl rfl (by kernel_rfl) (by kernel_rfl) (by kernel_rfl) (fun _ _ _ h => h) (by kernel_rfl) (fun w' hw' => (Wk.boolF (b := ((0 : Int) != (0 : Int))) (bne_eq_false_iff_eq.2 (by decide)) (by kernel_rfl))) sS12 ?_
        refine Wk.dVal 14 (some 74) (.bool false) rfl rfl (by kernel_rfl) (by kernel_rfl) (by kernel_rfl) (fun _ _ _ h => h) (by kernel_rfl) (fun w' hw' => by kernel_rfl) sS12 ?_
        refine Wk.dEnd (by kernel_rfl) ?_
        refine Wk.nxt ?_
        exact ⟨by kernel_rfl, (Wk.Chg.step (Wk.Chg.step ((Wk.Chg.refl _).more (by simp) : Wk.Chg [] W16 W16) ch17 trivial) ch18 trivial)⟩
      · rintro aa2 W19 ⟨hF2, ch19⟩
        have zz20 := ch19.size
        generalize aa2.tmps = bb2 at hF2
        subst hF2
        refine Wk.nxt ?_
        refine wp_cond_false (by kernel_rfl) ?_
        refine wp_skip ?_
        refine Wk.nxt ?_
        refine wp_seq ?_
        refine Wk.reg ?_
        refine Wk.rPure 0 (some 76) (.slice (some ⟨gb, ob, none⟩) 104 c) rfl rfl (by kernel_rfl) (by kernel_rfl) ?_
        refine Wk.rCall 1 (some 77) 26 [.tmp 76] #[22] [.slice (some ⟨gb, ob, none⟩) 104 c] rfl rfl (by kernel_rfl) rfl (by kernel_rfl) (by kernel_rfl) ?_
        have kk1 : Wk.Chg [] w W1 := Wk.Chg.step ((Wk.Chg.refl _).more (by simp)) ch1 trivial
        have kk2 := Wk.Chg.step kk1 ch2 trivial
        have kk3 := Wk.Chg.step kk2 ch3 trivial
        have kk4 := Wk.Chg.step kk3 ch13 trivial
        have kk5 := Wk.Chg.step kk4 ch14 trivial
        have kk6 := Wk.Chg.step kk5 ch15 trivial
        have kk7 := Wk.Chg.step kk6 ch16 ⟨.inr (by omega), trivial⟩
        have kk8 := Wk.Chg.step kk7 ch19 trivial
        refine (Read_no gb ob c b K R E T V W19 (Mur.byt_chg HB.out kk8 (fun g off e hl => trivial)) (by omega) hK hR hE hT hV hV5).mono ?_
        rintro _ W20 ⟨rfl, ch20⟩
        have zz21 := ch20.size
        refine ⟨_, rfl, ?_⟩
        refine Wk.rPure 2 (some 75) (.tuple #[.agg ((Mur.attC Mur.z32 Mur.z32 0 Mur.z32).toArray), .int .i64 5]) rfl rfl (by kernel_rfl) (by kernel_rfl) ?_
        refine Wk.rPure 3 (some 78) (.agg ((Mur.attC Mur.z32 Mur.z32 0 Mur.z32).toArray)) rfl rfl (by kernel_rfl) (by kernel_rfl) ?_
        refine Wk.rPure 4 (some 79) (.int .i64 5) rfl rfl (by kernel_rfl) (by kernel_rfl) ?_
        refine Wk.rEx 5 (some 11) _ rfl rfl (by kernel_rfl) (Wk.new_ex (.pointer (some ⟨W20.heap.size, 0, none⟩)) #[.int .u8 0, .int .u8 0, .int .u8 0, .int .u8 0, .int .u8 0, .int .u8 0, .int .u8 0, .int .u8 0, .int .u8 0, .int .u8 0, .int .u8 0, .int .u8 0, .int .u8 0, .int .u8 0, .int .u8 0, .int .u8 0, .int .u8 0, .int .u8 0, .int .u8 0, .int .u8 0, .int .u8 0, .int .u8 0, .int .u8 0, .int .u8 0, .int .u8 0, .int .u8 0, .int .u8 0, .int .u8 0, .int .u8 0, .int .u8 0, .int .u8 0, .int .u8 0, .int .u8 0, .int .u8 0, .int .u8 0, .int .u8 0, .int .u8 0, .int .u8 0, .int .u8 0, .int .u8 0, .int .u8 0, .int .u8 0, .int .u8 0, .int .u8 0, .int .u8 0, .int .u8 0, .int .u8 0, .int .u8 0, .int .u8 0, .int .u8 0, .int .u8 0, .int .u8 0, .int .u8 0, .int .u8 0, .int .u8 0, .int .u8 0, .int .u8 0, .int .u8 0, .int .u8 0, .int .u8 0, .int .u8 0, .int .u8 0, .int .u8 0, .int .u8 0, .int .i64 0, .int .u8 0, .int .u8 0, .int .u8 0, .int .u8 0, .int .u8 0, .int .u8 0, .int .u8 0, .int .u8 0, .int .u8 0, .int .u8 0, .int .u8 0, .int .u8 0, .int .u8 0, .int .u8 0, .int .u8 0, .int .u8 0, .int .u8 0, .int .u8 0, .int .u8 0, .int .u8 0, .int .u8 0, .int .u8 0, .int .u8 0, .int .u8 0, .int .u8 0, .int .u8 0, .int .u8 0, .int .u8 0, .int .u8 0, .int .u8 0, .int .u8 0, .int .u8 0] 36 (by kernel_rfl)) ?_
        rintro _ W21 ⟨rfl, hb5, ch21, sz6⟩
        have zz22 := ch21.size
        rw [← Mur.attC_zero] at hb5
        refine Wk.rExS 6 none _ rfl rfl (by kernel_rfl) (Mur.storeArr 36 (.tmp 11) (.tmp 78) rfl W20.heap.size (by kernel_rfl) (Mur.attC Mur.z32 Mur.z32 0 Mur.z32).toArray 97 (Mur.attC_size rfl rfl rfl) Mur.attC_all (by kernel_rfl) (by kernel_rfl) 36 ((Mur.attC Mur.z32 Mur.z32 0 Mur.z32).toArray) hb5 (Mur.attC_size rfl rfl rfl)) ?_
        rintro W22 ⟨hb6, ch22⟩
        have zz23 := ch22.size
        refine Wk.rPure 7 (some 12) (.int .i64 5) rfl rfl (by kernel_rfl) (by kernel_rfl) ?_
        refine Wk.rEnd 8 rfl ?_
        refine Wk.nxt ?_
        refine wp_seq ?_
        refine wp_seq ?_
        refine Wk.reg ?_
        refine Wk.rPure 0 (some 80) (.int .i64 5) rfl rfl (by kernel_rfl) (by kernel_rfl) ?_
        refine Wk.rPure 1 (some 81) (.bool true) rfl rfl (by kernel_rfl) (Wk.boolT (b := ((5 : Int) != (0 : Int))) (bne_iff_ne.2 (by decide)) (by kernel_rfl)) ?_
        refine Wk.rEnd 2 rfl ?_
        refine Wk.nxt ?_
        refine wp_cond_true (by kernel_rfl) ?_
        refine wp_seq ?_
        refine Wk.reg ?_
        refine Wk.rPure 0 (some 82) (.int .i64 5) rfl rfl (by kernel_rfl) (by kernel_rfl) ?_
        refine Wk.rPure 1 (some 83) (.bool true) rfl rfl (by kernel_rfl) (Wk.boolT (b := ((5 : Int) == (5 : Int))) (beq_iff_eq.2 (by decide)) (by kernel_rfl)) ?_
        refine Wk.rPure 2 (some 84) (.bool true) rfl rfl (by kernel_rfl) (by kernel_rfl) ?_
        refine Wk.rPure 3 (some 85) (.agg ((Mur.attC Mur.z32 Mur.z32 0 Mur.z32).toArray)) rfl rfl (by kernel_rfl) (Mur.loadArr 36 (.tmp 11) rfl _ Tryd.underlying36 rfl W20.heap.size (by kernel_rfl) (Mur.attC Mur.z32 Mur.z32 0 Mur.z32).toArray 97 (Mur.attC_size rfl rfl rfl) (by kernel_rfl) 36 (0, 0) hb6) ?_
        refine Wk.rPure 4 (some 86) (.agg ((Mur.attC Mur.z32 Mur.z32 0 Mur.z32).toArray)) rfl rfl (by kernel_rfl) (by kernel_rfl) ?_
        refine Wk.rPure 5 (some 87) (.bool true) rfl rfl (by kernel_rfl) (Wk.boolT (b := decide (Mur.z32 = Mur.z32 ∧ Mur.z32 = Mur.z32 ∧ (0 : Int) = 0 ∧ Mur.z32 = Mur.z32)) (decide_eq_true (⟨rfl, rfl, rfl, rfl⟩)) (run_eql_att (.tmp 85) (.tmp 86) 36 rfl rfl rfl rfl rfl rfl rfl (by decide) (by decide) (by kernel_rfl) (by kernel_rfl))) ?_
        refine Wk.rPure 6 (some 88) (.bool true) rfl rfl (by kernel_rfl) (by kernel_rfl) ?_
        refine Wk.rPure 7 (some 89) (.bool true) rfl rfl (by kernel_rfl) (by kernel_rfl) ?_
        refine Wk.rPure 8 (some 90) (.slice (some ⟨gb, ob, none⟩) 104 c) rfl rfl (by kernel_rfl) (by kernel_rfl) ?_
        refine Wk.rPure 9 (some 91) (.int .i64 104) rfl rfl (by kernel_rfl) (by kernel_rfl) ?_
        refine Wk.rPure 10 (some 92) (.bool false) rfl rfl (by kernel_rfl) (Wk.boolF (b := ((104 : Int) != (104 : Int))) (bne_eq_false_iff_eq.2 (by decide)) (by kernel_rfl)) ?_
        refine Wk.rPure 11 (some 93) (.bool false) rfl rfl (by kernel_rfl) (by kernel_rfl) ?_
        refine Wk.rPure 12 (some 94) (.slice (some ⟨gb, ob, none⟩) 104 c) rfl rfl (by kernel_rfl) (by kernel_rfl) ?_
        refine Wk.rCall 13 (some 95) 27 [.tmp 94] #[22] [.slice (some ⟨gb, ob, none⟩) 104 c] rfl rfl (by kernel_rfl) rfl (by kernel_rfl) (by kernel_rfl) ?_
        have kk9 := Wk.Chg.step kk8 ch20 trivial
        have kk10 := Wk.Chg.step kk9 ch21 trivial
        have kk11 := Wk.Chg.step kk10 ch22 ⟨.inr (by omega), trivial⟩
        refine (Lengthy_any gb ob c b E V W22 (Mur.byt_chg HB.out kk11 (fun g off e hl => trivial)) hE hV).mono ?_
        rw [decide_eq_false hV5]
        rintro _ _ ⟨rfl, rfl⟩
        refine ⟨_, rfl, ?_⟩
        refine Wk.rPure 14 (some 96) (.bool true) rfl rfl (by kernel_rfl) (by kernel_rfl) ?_
        refine Wk.rPure 15 (some 97) (.bool true) rfl rfl (by kernel_rfl) (by kernel_rfl) ?_
        refine Wk.rPure 16 (some 98) (.bool true) rfl rfl (by kernel_rfl) (by kernel_rfl) ?_
        refine Wk.rPure 17 (some 99) (.bool true) rfl rfl (by kernel_rfl) (by kernel_rfl) ?_
        refine Wk.rCall 18 (some 100) 17 [] #[] [] rfl rfl (by kernel_rfl) rfl (by kernel_rfl) (by kernel_rfl) ?_
        refine (known9_any W22 (HV.out.below (Wk.Chg.below0 kk11))).mono ?_
        rintro _ W24 ⟨rfl, ch24⟩
        have zz24 := ch24.size
        refine ⟨_, rfl, ?_⟩
        refine Wk.rPure 19 (some 101) (.bool true) rfl rfl (by kernel_rfl) (by kernel_rfl) ?_
        refine Wk.rPure 20 (some 6) (.bool true) rfl rfl (by kernel_rfl) (by kernel_rfl) ?_
        refine Wk.rEnd 21 rfl ?_
        refine Wk.nxt ?_
        refine wp_ret ?_
        refine Wk.thR ?_
        have kk12 := Wk.Chg.step kk11 ch24 trivial
        refine Wk.ret (.bool true) rfl (by kernel_rfl) ?_
        exact ⟨rfl, Wk.Chg.below0 kk12⟩
  · have hmay1u : ¬ (1 ≤ n1 ∧ n1 ≤ 5000) := hmay1
    refine (Bytes_no k1 r1 t1 n1 hk1 hr1 ht1 W2 hmay1).mono ?_
    rintro _ W25 ⟨rfl, ch25⟩
    have zz25 := ch25.size
    refine ⟨_, rfl, ?_⟩
    refine Wk.rPure 2 (some 17) (.tuple #[.slice none 0 0, .int .i64 2]) rfl rfl (by kernel_rfl) (by kernel_rfl) ?_
    refine Wk.rPure 3 (some 20) (.slice none 0 0) rfl rfl (by kernel_rfl) (by kernel_rfl) ?_
    refine Wk.rPure 4 (some 21) (.int .i64 2) rfl rfl (by kernel_rfl) (by kernel_rfl) ?_
    refine Wk.rPure 5 (some 7) (.slice none 0 0) rfl rfl (by kernel_rfl) (by kernel_rfl) ?_
    refine Wk.rPure 6 (some 8) (.int .i64 2) rfl rfl (by kernel_rfl) (by kernel_rfl) ?_
    refine Wk.rEnd 7 rfl ?_
    refine Wk.nxt ?_
    refine wp_seq ?_
    refine Wk.cut (fun a wj => a = ABbad_J4_3 a.tmps (.slice (some ⟨gb, ob, none⟩) 104 c) (.pointer (some ⟨w.heap.size, 0, none⟩)) (.slice none 0 0) (.int .i64 2) ∧ Wk.Chg [] W25 wj) ?_ ?_
    · refine wp_seq ?_
      refine Wk.dReg ([]) (by kernel_rfl) ?_
      intro W26 ch26 sz7
      have zz26 := ch26.size
      have sS13 : Wk.Chg ([]) W26 W26 := (Wk.Chg.refl _).more (by simp)
      refine Wk.dVal 0 (some 22) (.int .i64 2) rfl rfl (by kernel_rfl) (by kernel_rfl) (by kernel_rfl) (fun _ _ _ h => h) (by kernel_rfl) (fun w' hw' => by kernel_rfl) sS13 ?_
      refine Wk.dVal 1 (some 23) (.bool false) rfl rfl (by kernel_rfl) (by kernel_rfl) (by kernel_rfl) (fun _ _ _ h => h) (by kernel_rfl) (fun w' hw' => (Wk.boolF (b := ((2 : Int) == (0 : Int))) (beq_eq_false_iff_ne.2 (by decide)) (by kernel_rfl))) sS13 ?_
      refine Wk.dVal 2 (some 24) (.agg ((Mur.attC k1 r1 n1 t1).toArray)) rfl rfl (by kernel_rfl) (by kernel_rfl) (by kernel_rfl) (fun _ _ _ h => h) (by kernel_rfl) (fun w' hw' => (Mur.loadArr 36 (.tmp 3) rfl _ Tryd.underlying36 rfl w.heap.size (by kernel_rfl) (Mur.attC k1 r1 n1 t1).toArray 97 (Mur.attC_size hk1 hr1 ht1) (by kernel_rfl) 36 (0, 0) (Wk.Chg.hp hw' (Wk.Chg.hp ch26 (Wk.Chg.hp ch25 (Wk.Chg.hp ch2 hb1 trivial) trivial) trivial) trivial))) sS13 ?_
      refine Wk.dOp 3 (by kernel_rfl) ?_
      refine Wk.oCall (some 25) 21 [.tmp 24] #[36] [.agg ((Mur.attC k1 r1 n1 t1).toArray)] rfl rfl (by kernel_rfl) rfl (by kernel_rfl) (by kernel_rfl) ?_
      refine (Rmay_any k1 r1 t1 n1 hk1 hr1 ht1 W26).mono ?_
      rw [decide_eq_false (hmay1 : ¬ Mur.may n1)]
      rintro _ W27 ⟨rfl, ch27⟩
      have zz27 := ch27.size
      have sS14 := Wk.Chg.step sS13 ch27 trivial
      refine ⟨_, rfl, sS14, ?_⟩
      refine Wk.dVal 4 (some 26) (.bool false) rfl rfl (by kernel_rfl) (by kernel_rfl) (by kernel_rfl) (fun _ _ _ h => h) (by kernel_rfl) (fun w' hw' => by kernel_rfl) sS14 ?_
      refine Wk.dVal 5 (some 27) (.bool false) rfl rfl (by kernel_rfl) (by kernel_rfl) (by kernel_rfl) (fun _ _ _ h => h) (by kernel_rfl) (fun w' hw' => by kernel_rfl) sS14 ?_
      refine Wk.dVal 6 (some 28) (.int .i64 2) rfl rfl (by kernel_rfl) (by kernel_rfl) (by kernel_rfl) (fun _ _ _ h => h) (by kernel_rfl) (fun w' hw' => by kernel_rfl) sS14 ?_
      refine Wk.dVal 7 (some 29) (.bool true) rfl rfl (by kernel_rfl) (by kernel_rfl) (by kernel_rfl) (fun _ _ _ h => h) (by kernel_rfl) (fun w' hw' => (Wk.boolT (b := ((2 : Int) != (0 : Int))) (bne_iff_ne.2 (by decide)) (by kernel_rfl))) sS14 ?_
      refine Wk.dVal 8 (some 30) (.bool true) rfl rfl (by kernel_rfl) (by kernel_rfl) (by kernel_rfl) (fun _ _ _ h => h) (by kernel_rfl) (fun w' hw' => by kernel_rfl) sS14 ?_
      refine Wk.dVal 9 (some 31) (.slice none 0 0) rfl rfl (by kernel_rfl) (by kernel_rfl) (by kernel_rfl) (fun _ _ _ h => h) (by kernel_rfl) (fun w' hw' => by kernel_rfl) sS14 ?_
      refine Wk.dVal 10 (some 32) (.int .i64 0) rfl rfl (by kernel_rfl) (by kernel_rfl) (by kernel_rfl) (fun _ _ _ h => h) (by kernel_rfl) (fun w' hw' => by kernel_rfl) sS14 ?_
      refine Wk.dVal 11 (some 33) (.bool false) rfl rfl (by kernel_rfl) (by kernel_rfl) (by kernel_rfl) (fun _ _ _ h => h) (by kernel_rfl) (fun w' hw' => (Wk.boolF (b := decide ((0 : Int) > (0 : Int))) (decide_eq_false (by decide)) (by kernel_rfl))) sS14 ?_
      refine Wk.dVal 12 (some 34) (.bool false) rfl rfl (by kernel_rfl) (by kernel_rfl) (by kernel_rfl) (fun _ _ _ h => h) (by kernel_rfl) (fun w' hw' => by kernel_rfl) sS14 ?_
      refine Wk.dVal 13 (some 35) (.int .i64 2) rfl rfl (by kernel_rfl) (by kernel_rfl) (by kernel_rfl) (fun _ _ _ h => h) (by kernel_rfl) (fun w' hw' => by kernel_rfl) sS14 ?_
      refine Wk.dVal 14 (some 36) (.bool false) rfl rfl (by kernel_rfl) (by kernel_rfl) (by kernel_rfl) (fun _ _ _ h => h) (by kernel_rfl) (fun w' hw' => (Wk.boolF (b := ((2 : Int) != (2 : Int))) (bne_eq_false_iff_eq.2 (by decide)) (by kernel_rfl))) sS14 ?_
      refine Wk.dVal 15 (some 37) (.bool false) rfl rfl (by kernel_rfl) (by kernel_rfl) (by kernel_rfl) (fun _ _ _ h => h) (by kernel_rfl) (fun w' hw' => by kernel_rfl) sS14 ?_
      refine Wk.dVal 16 (some 38) (.bool false) rfl rfl (by kernel_rfl) (by kernel_rfl) (by kernel_rfl) (fun _ _ _ h => h) (by kernel_rfl) (fun w' hw' => by kernel_rfl) sS14 ?_
      refine Wk.dVal 17 (some 39) (.bool false) rfl rfl (by kernel_rfl) (by kernel_rfl) (by kernel_rfl) (fun _ _ _ h => h) (by kernel_rfl) (fun w' hw' => by kernel_rfl) sS14 ?_
      refine Wk.dVal 18 (some 40) (.bool false) rfl rfl (by kernel_rfl) (by kernel_rfl) (by kernel_rfl) (fun _ _ _ h => h) (by kernel_rfl) (fun w' hw' => by kernel_rfl) sS14 ?_
      refine Wk.dVal 19 (some 41) (.agg ((Mur.attC k1 r1 n1 t1).toArray)) rfl rfl (by kernel_rfl) (by kernel_rfl) (by kernel_rfl) (fun _ _ _ h => h) (by kernel_rfl) (fun w' hw' => (Mur.loadArr 36 (.tmp 3) rfl _ Tryd.underlying36 rfl w.heap.size (by kernel_rfl) (Mur.attC k1 r1 n1 t1).toArray 97 (Mur.attC_size hk1 hr1 ht1) (by kernel_rfl) 36 (0, 0) (Wk.Chg.hp hw' (Wk.Chg.hp ch26 (Wk.Chg.hp ch25 (Wk.Chg.hp ch2 hb1 trivial) trivial) trivial) trivial))) sS14 ?_
      refine Wk.dVal 20 (some 42) (.agg ((Mur.attC k2 r2 n2 t2).toArray)) rfl rfl (by kernel_rfl) (by kernel_rfl) (by kernel_rfl) (fun _ _ _ h => h) (by kernel_rfl) (fun w' hw' => (Mur.loadArr 36 (.tmp 4) rfl _ Tryd.underlying36 rfl W1.heap.size (by kernel_rfl) (Mur.attC k2 r2 n2 t2).toArray 97 (Mur.attC_size hk2 hr2 ht2) (by kernel_rfl) 36 (0, 0) (Wk.Chg.hp hw' (Wk.Chg.hp ch26 (Wk.Chg.hp ch25 hb2 trivial) trivial) trivial))) sS14 ?_
      refine Wk.dVal 22 (some 44) (.agg ((Mur.attC k1 r1 n1 t1).toArray)) rfl rfl (by kernel_rfl) (by kernel_rfl) (by kernel_rfl) (fun _ _ _ h => h) (by kernel_rfl) (fun w' hw' => (Mur.loadArr 36 (.tmp 3) rfl _ Tryd.underlying36 rfl w.heap.size (by kernel_rfl) (Mur.attC k1 r1 n1 t1).toArray 97 (Mur.attC_size hk1 hr1 ht1) (by kernel_rfl) 36 (0, 0) (Wk.Chg.hp hw' (Wk.Chg.hp ch26 (Wk.Chg.hp ch25 (Wk.Chg.hp ch2 hb1 trivial) trivial) trivial) trivial))) sS14 ?_
      refine Wk.dVal 25 (some 47) (.agg ((Mur.attC k2 r2 n2 t2).toArray)) rfl rfl (by kernel_rfl) (by kernel_rfl) (by kernel_rfl) (fun _ _ _ h => h) (by kernel_rfl) (fun w' hw' => (Mur.loadArr 36 (.tmp 4) rfl _ Tryd.underlying36 rfl W1.heap.size (by kernel_rfl) (Mur.attC k2 r2 n2 t2).toArray 97 (Mur.attC_size hk2 hr2 ht2) (by kernel_rfl) 36 (0, 0) (Wk.Chg.hp hw' (Wk.Chg.hp ch26 (Wk.Chg.hp ch25 hb2 trivial) trivial) trivial))) sS14 ?_
      refine Wk.dOp 21 (by kernel_rfl) ?_
      refine Wk.oCall (some 43) 23 [.tmp 41, .tmp 42] #[36, 36] [.agg ((Mur.attC k1 r1 n1 t1).toArray), .agg ((Mur.attC k2 r2 n2 t2).toArray)] rfl rfl (by kernel_rfl) rfl (by kernel_rfl) (by kernel_rfl) ?_
      refine (Less_any k1 r1 t1 n1 hk1 hr1 ht1 k2 r2 t2 n2 hk2 hr2 ht2 W27).mono ?_
      by_cases hls2 : Go.Lib.compareBytes (Mur.rawL k1 r1 n1 t1) (Mur.rawL k2 r2 n2 t2) < 0
      · rw [decide_eq_true (hls2 : Go.Lib.compareBytes (Mur.rawL k1 r1 n1 t1) (Mur.rawL k2 r2 n2 t2) < 0)]
        rintro _ W28 ⟨rfl, ch28⟩
        have zz28 := ch28.size
        have sS15 := Wk.Chg.step sS14 ch28 trivial
        refine ⟨_, rfl, sS15, ?_⟩
        refine Wk.dOp 23 (by kernel_rfl) ?_
        refine Wk.oCall (some 45) 25 [.tmp 44] #[36] [.agg ((Mur.attC k1 r1 n1 t1).toArray)] rfl rfl (by kernel_rfl) rfl (by kernel_rfl) (by kernel_rfl) ?_
        refine (Rbytes_any k1 r1 t1 n1 hk1 hr1 ht1 W28).mono ?_
        rintro _ W29 ⟨qr9, cr9, RB9, hRB9, rfl, hbr9, hq17, hq18, ch29⟩
        have zz29 := ch29.size
        have hBt9 : ∀ g off, (some ⟨qr9, 0, none⟩ : Option Addr) = some ⟨g, off, none⟩ → W28.heap.size ≤ g ∧ g < W29.heap.size := fun g off e => by cases e; exact hq17
        have sS16 := Wk.Chg.step sS15 ch29 trivial
        refine ⟨_, rfl, sS16, ?_⟩
        refine Wk.dOp2 24 26 (by kernel_rfl) ?_ ?_
        · refine Wk.oVal (some 46) (.string (Mur.str RB9)) rfl rfl (by kernel_rfl) (Mur.run_str 22 9 (.tmp 45) 5 rfl Tryd.underlying22 Tryd.underlying5 Tryd.underlying9 (some ⟨qr9, 0, none⟩) 104 cr9 RB9 (by kernel_rfl) hbr9) ?_
          refine ⟨sS16, ?_⟩
          refine Wk.dOp 26 (by kernel_rfl) ?_
          refine Wk.oCall (some 48) 25 [.tmp 47] #[36] [.agg ((Mur.attC k2 r2 n2 t2).toArray)] rfl rfl (by kernel_rfl) rfl (by kernel_rfl) (by kernel_rfl) ?_
          refine (Rbytes_any k2 r2 t2 n2 hk2 hr2 ht2 W29).mono ?_
          rintro _ W30 ⟨qr10, cr10, RB10, hRB10, rfl, hbr10, hq19, hq20, ch30⟩
          have zz30 := ch30.size
          have hBt10 : ∀ g off, (some ⟨qr10, 0, none⟩ : Option Addr) = some ⟨g, off, none⟩ → W29.heap.size ≤ g ∧ g < W30.heap.size := fun g off e => by cases e; exact hq19
          have sS17 := Wk.Chg.step sS16 ch30 trivial
          refine ⟨_, rfl, sS17, ?_⟩
          refine Wk.dOp 27 (by kernel_rfl) ?_
          refine Wk.oVal (some 49) (.string (Mur.str RB10)) rfl rfl (by kernel_rfl) (Mur.run_str 22 9 (.tmp 48) 5 rfl Tryd.underlying22 Tryd.underlying5 Tryd.underlying9 (some ⟨qr10, 0, none⟩) 104 cr10 RB10 (by kernel_rfl) hbr10) ?_
          refine ⟨sS17, ?_⟩
          refine Wk.dVal 28 (some 50) (.bool true) rfl rfl (by kernel_rfl) (by kernel_rfl) (by kernel_rfl) (fun _ _ _ h => h) (by kernel_rfl) (fun w' hw' => (Wk.boolT (b := decide (Go.Lib.compareBytes RB9 RB10 < 0)) (decide_eq_true (by rw [hRB9.out, hRB10.out]; exact hls2)) (Mur.strlss 9 9 (.tmp 46) (.tmp 49) rfl RB9 RB10 (by kernel_rfl) (by kernel_rfl)))) sS17 ?_
          refine Wk.dVal 29 (some 51) (.bool false) rfl rfl (by kernel_rfl) (by kernel_rfl) (by kernel_rfl) (fun _ _ _ h => h) (by kernel_rfl) (fun w' hw' => by kernel_rfl) sS17 ?_
          refine Wk.dVal 30 (some 52) (.bool false) rfl rfl (by kernel_rfl) (by kernel_rfl) (by kernel_rfl) (fun _ _ _ h => h) (by kernel_rfl) (fun w' hw' => by kernel_rfl) sS17 ?_
          refine Wk.dEnd (by kernel_rfl) ?_
          refine Wk.nxt ?_
          refine wp_cond_false (by kernel_rfl) ?_
          refine wp_skip ?_
          refine Wk.nxt ?_
          exact ⟨by kernel_rfl, (Wk.Chg.step (Wk.Chg.step (Wk.Chg.step (Wk.Chg.step (Wk.Chg.step ((Wk.Chg.refl _).more (by simp) : Wk.Chg [] W25 W25) ch26 trivial) ch27 trivial) ch28 trivial) ch29 trivial) ch30 trivial)⟩
        · refine Wk.oCall (some 48) 25 [.tmp 47] #[36] [.agg ((Mur.attC k2 r2 n2 t2).toArray)] rfl rfl (by kernel_rfl) rfl (by kernel_rfl) (by kernel_rfl) ?_
          refine (Rbytes_any k2 r2 t2 n2 hk2 hr2 ht2 W29).mono ?_
          rintro _ W31 ⟨qr11, cr11, RB11, hRB11, rfl, hbr11, hq21, hq22, ch31⟩
          have zz31 := ch31.size
          have hBt11 : ∀ g off, (some ⟨qr11, 0, none⟩ : Option Addr) = some ⟨g, off, none⟩ → W29.heap.size ≤ g ∧ g < W31.heap.size := fun g off e => by cases e; exact hq21
          have sS18 := Wk.Chg.step sS16 ch31 trivial
          refine ⟨_, rfl, sS18, ?_⟩
          refine Wk.dOp2 24 27 (by kernel_rfl) ?_ ?_
          · refine Wk.oVal (some 46) (.string (Mur.str RB9)) rfl rfl (by kernel_rfl) (Mur.run_str 22 9 (.tmp 45) 5 rfl Tryd.underlying22 Tryd.underlying5 Tryd.underlying9 (some ⟨qr9, 0, none⟩) 104 cr9 RB9 (by kernel_rfl) (Mur.byt_chg hbr9 ch31 (fun g off e hl => trivial))) ?_
            refine ⟨sS18, ?_⟩
            refine Wk.dOp 27 (by kernel_rfl) ?_
            refine Wk.oVal (some 49) (.string (Mur.str RB11)) rfl rfl (by kernel_rfl) (Mur.run_str 22 9 (.tmp 48) 5 rfl Tryd.underlying22 Tryd.underlying5 Tryd.underlying9 (some ⟨qr11, 0, none⟩) 104 cr11 RB11 (by kernel_rfl) hbr11) ?_
            refine ⟨sS18, ?_⟩
            refine Wk.dVal 28 (some 50) (.bool true) rfl rfl (by kernel_rfl) (by kernel_rfl) (by kernel_rfl) (fun _ _ _ h => h) (by kernel_rfl) (fun w' hw' => (Wk.boolT (b := decide (Go.Lib.compareBytes RB9 RB11 < 0)) (decide_eq_true (by rw [hRB9.out, hRB11.out]; exact hls2)) (Mur.strlss 9 9 (.tmp 46) (.tmp 49) rfl RB9 RB11 (by kernel_rfl) (by kernel_rfl)))) sS18 ?_
            refine Wk.dVal 29 (some 51) (.bool false) rfl rfl (by kernel_rfl) (by kernel_rfl) (by kernel_rfl) (fun _ _ _ h => h) (by kernel_rfl) (fun w' hw' => by kernel_rfl) sS18 ?_
            refine Wk.dVal 30 (some 52) (.bool false) rfl rfl (by kernel_rfl) (by kernel_rfl) (by kernel_rfl) (fun _ _ _ h => h) (by kernel_rfl) (fun w' hw' => by kernel_rfl) sS18 ?_
            refine Wk.dEnd (by kernel_rfl) ?_
            refine Wk.nxt ?_
            refine wp_cond_false (by kernel_rfl) ?_
            refine wp_skip ?_
            refine Wk.nxt ?_
            exact ⟨by kernel_rfl, (Wk.Chg.step (Wk.Chg.step (Wk.Chg.step (Wk.Chg.step (Wk.Chg.step ((Wk.Chg.refl _).more (by simp) : Wk.Chg [] W25 W25) ch26 trivial) ch27 trivial) ch28 trivial) ch29 trivial) ch31 trivial)⟩
          · refine Wk.oVal (some 49) (.string (Mur.str RB11)) rfl rfl (by kernel_rfl) (Mur.run_str 22 9 (.tmp 48) 5 rfl Tryd.underlying22 Tryd.underlying5 Tryd.underlying9 (some ⟨qr11, 0, none⟩) 104 cr11 RB11 (by kernel_rfl) hbr11) ?_
            refine ⟨sS18, ?_⟩
            refine Wk.dOp 24 (by kernel_rfl) ?_
            refine Wk.oVal (some 46) (.string (Mur.str RB9)) rfl rfl (by kernel_rfl) (Mur.run_str 22 9 (.tmp 45) 5 rfl Tryd.underlying22 Tryd.underlying5 Tryd.underlying9 (some ⟨qr9, 0, none⟩) 104 cr9 RB9 (by kernel_rfl) (Mur.byt_chg hbr9 ch31 (fun g off e hl => trivial))) ?_
            refine ⟨sS18, ?_⟩
            refine Wk.dVal 28 (some 50) (.bool true) rfl rfl (by kernel_rfl) (by kernel_rfl) (by kernel_rfl) (fun _ _ _ h => h) (by kernel_rfl) (fun w' hw' => (Wk.boolT (b := decide (Go.Lib.compareBytes RB9 RB11 < 0)) (decide_eq_true (by rw [hRB9.out, hRB11.out]; exact hls2)) (Mur.strlss 9 9 (.tmp 46) (.tmp 49) rfl RB9 RB11 (by kernel_rfl) (by kernel_rfl)))) sS18 ?_
            refine Wk.dVal 29 (some 51) (.bool false) rfl rfl (by kernel_rfl) (by kernel_rfl) (by kernel_rfl) (fun _ _ _ h => h) (by kernel_rfl) (fun w' hw' => by kernel_rfl) sS18 ?_
            refine Wk.dVal 30 (some 52) (.bool false) rfl rfl (by kernel_rfl) (by kernel_rfl) (by kernel_rfl) (fun _ _ _ h => h) (by kernel_rfl) (fun w' hw' => by kernel_rfl) sS18 ?_
            refine Wk.dEnd (by kernel_rfl) ?_
            refine Wk.nxt ?_
            refine wp_cond_false (by kernel_rfl) ?_
            refine wp_skip ?_
            refine Wk.nxt ?_
            exact ⟨by kernel_rfl, (Wk.Chg.step (Wk.Chg.step (Wk.Chg.step (Wk.Chg.step (Wk.Chg.step ((Wk.Chg.refl _).more (by simp) : Wk.Chg [] W25 W25) ch26 trivial) ch27 trivial) ch28 trivial) ch29 trivial) ch31 trivial)⟩
      · rw [decide_eq_false (hls2 : ¬ Go.Lib.compareBytes (Mur.rawL k1 r1 n1 t1) (Mur.rawL k2 r2 n2 t2) < 0)]
        rintro _ W28 ⟨rfl, ch28⟩
        have zz32 := ch28.size
        have sS19 := Wk.Chg.step sS14 ch28 trivial
        refine ⟨_, rfl, sS19, ?_⟩
        refine Wk.dOp 23 (by kernel_rfl) ?_
        refine Wk.oCall (some 45) 25 [.tmp 44] #[36] [.agg ((Mur.attC k1 r1 n1 t1).toArray)] rfl rfl (by kernel_rfl) rfl (by kernel_rfl) (by kernel_rfl) ?_
        refine (Rbytes_any k1 r1 t1 n1 hk1 hr1 ht1 W28).mono ?_
        rintro _ W32 ⟨qr12, cr12, RB12, hRB12, rfl, hbr12, hq23, hq24, ch32⟩
        have zz33 := ch32.size
        have hBt12 : ∀ g off, (some ⟨qr12, 0, none⟩ : Option Addr) = some ⟨g, off, none⟩ → W28.heap.size ≤ g ∧ g < W32.heap.size := fun g off e => by cases e; exact hq23
        have sS20 := Wk.Chg.step sS19 ch32 trivial
        refine ⟨_, rfl, sS20, ?_⟩
        refine Wk.dOp2 24 26 (by kernel_rfl) ?_ ?_
        · refine Wk.oVal (some 46) (.string (Mur.str RB12)) rfl rfl (by kernel_rfl) (Mur.run_str 22 9 (.tmp 45) 5 rfl Tryd.underlying22 Tryd.underlying5 Tryd.underlying9 (some ⟨qr12, 0, none⟩) 104 cr12 RB12 (by kernel_rfl) hbr12) ?_
          refine ⟨sS20, ?_⟩
          refine Wk.dOp 26 (by kernel_rfl) ?_
          refine Wk.oCall (some 48) 25 [.tmp 47] #[36] [.agg ((Mur.attC k2 r2 n2 t2).toArray)] rfl rfl (by kernel_rfl) rfl (by kernel_rfl) (by kernel_rfl) ?_
          refine (Rbytes_any k2 r2 t2 n2 hk2 hr2 ht2 W32).mono ?_
          rintro _ W33 ⟨qr13, cr13, RB13, hRB13, rfl, hbr13, hq25, hq26, ch33⟩
          have zz34 := ch33.size
          have hBt13 : ∀ g off, (some ⟨qr13, 0, none⟩ : Option Addr) = some ⟨g, off, none⟩ → W32.heap.size ≤ g ∧ g < W33.heap.size := fun g off e => by cases e; exact hq25
          have sS21 := Wk.Chg.step sS20 ch33 trivial
          refine ⟨_, rfl, sS21, ?_⟩
          refine Wk.dOp 27 (by kernel_rfl) ?_
          refine Wk.oVal (some 49) (.string (Mur.str RB13)) rfl rfl (by kernel_rfl) (Mur.run_str 22 9 (.tmp 48) 5 rfl Tryd.underlying22 Tryd.underlying5 Tryd.underlying9 (some ⟨qr13, 0, none⟩) 104 cr13 RB13 (by kernel_rfl) hbr13) ?_
          refine ⟨sS21, ?_⟩
          refine Wk.dVal 28 (some 50) (.bool false) rfl rfl (by kernel_rfl) (by kernel_rfl) (by kernel_rfl) (fun _ _ _ h => h) (by kernel_rfl) (fun w' hw' => (Wk.boolF (b := decide (Go.Lib.compareBytes RB12 RB13 < 0)) (decide_eq_false (by rw [hRB12.out, hRB13.out]; exact hls2)) (Mur.strlss 9 9 (.tmp 46) (.tmp 49) rfl RB12 RB13 (by kernel_rfl) (by kernel_rfl)))) sS21 ?_
          refine Wk.dVal 29 (some 51) (.bool false) rfl rfl (by kernel_rfl) (by kernel_rfl) (by kernel_rfl) (fun _ _ _ h => h) (by kernel_rfl) (fun w' hw' => by kernel_rfl) sS21 ?_
          refine Wk.dVal 30 (some 52) (.bool false) rfl rfl (by kernel_rfl) (by kernel_rfl) (by kernel_rfl) (fun _ _ _ h => h) (by kernel_rfl) (fun w' hw' => by kernel_rfl) sS21 ?_
          refine Wk.dEnd (by kernel_rfl) ?_
          refine Wk.nxt ?_
          refine wp_cond_false (by kernel_rfl) ?_
          refine wp_skip ?_
          refine Wk.nxt ?_
          exact ⟨by kernel_rfl, (Wk.Chg.step (Wk.Chg.step (Wk.Chg.step (Wk.Chg.step (Wk.Chg.step ((Wk.Chg.refl _).more (by simp) : Wk.Chg [] W25 W25) ch26 trivial) ch27 trivial) ch28 trivial) ch32 trivial) ch33 trivial)⟩
        · refine Wk.oCall (some 48) 25 [.tmp 47] #[36] [.agg ((Mur.attC k2 r2 n2 t2).toArray)] rfl rfl (by kernel_rfl) rfl (by kernel_rfl) (by kernel_rfl) ?_
          refine (Rbytes_any k2 r2 t2 n2 hk2 hr2 ht2 W32).mono ?_
          rintro _ W34 ⟨qr14, cr14, RB14, hRB14, rfl, hbr14, hq27, hq28, ch34⟩
          have zz35 := ch34.size
          have hBt14 : ∀ g off, (some ⟨qr14, 0, none⟩ : Option Addr) = some ⟨g, off, none⟩ → W32.heap.size ≤ g ∧ g < W34.heap.size := fun g off e => by cases e; exact hq27
          have sS22 := Wk.Chg.step sS20 ch34 trivial
          refine ⟨_, rfl, sS22, ?_⟩
          refine Wk.dOp2 24 27 (by kernel_rfl) ?_ ?_
          · refine Wk.oVal (some 46) (.string (Mur.str RB12)) rfl rfl (by kernel_rfl) (Mur.run_str 22 9 (.tmp 45) 5 rfl Tryd.underlying22 Tryd.underlying5 Tryd.underlying9 (some ⟨qr12, 0, none⟩) 104 cr12 RB12 (by kernel_rfl) (Mur.byt_chg hbr12 ch34 (fun g off e hl => trivial))) ?_
            refine ⟨sS22, ?_⟩
            refine Wk.dOp 27 (by kernel_rfl) ?_
            refine Wk.oVal (some 49) (.string (Mur.str RB14)) rfl rfl (by kernel_rfl) (Mur.run_str 22 9 (.tmp 48) 5 rfl Tryd.underlying22 Tryd.underlying5 Tryd.underlying9 (some ⟨qr14, 0, none⟩) 104 cr14 RB14 (by kernel_rfl) hbr14) ?_
            refine ⟨sS22, ?_⟩
            refine Wk.dVal 28 (some 50) (.bool false) rfl rfl (by kernel_rfl) (by kernel_rfl) (by kernel_rfl) (fun _ _ _ h => h) (by kernel_rfl) (fun w' hw' => (Wk.boolF (b := decide (Go.Lib.compareBytes RB12 RB14 < 0)) (decide_eq_false (by rw [hRB12.out, hRB14.out]; exact hls2)) (Mur.strlss 9 9 (.tmp 46) (.tmp 49) rfl RB12 RB14 (by kernel_rfl) (by kernel_rfl)))) sS22 ?_
            refine Wk.dVal 29 (some 51) (.bool false) rfl rfl (by kernel_rfl) (by kernel_rfl) (by kernel_rfl) (fun _ _ _ h => h) (by kernel_rfl) (fun w' hw' => by kernel_rfl) sS22 ?_
            refine Wk.dVal 30 (some 52) (.bool false) rfl rfl (by kernel_rfl) (by kernel_rfl) (by kernel_rfl) (fun _ _ _ h => h) (by kernel_rfl) (fun w' hw' => by kernel_rfl) sS22 ?_
            refine Wk.dEnd (by kernel_rfl) ?_
            refine Wk.nxt ?_
            refine wp_cond_false (by kernel_rfl) ?_
            refine wp_skip ?_
            refine Wk.nxt ?_
            exact ⟨by kernel_rfl, (Wk.Chg.step (Wk.Chg.step (Wk.Chg.step (Wk.Chg.step (Wk.Chg.step ((Wk.Chg.refl _).more (by simp) : Wk.Chg [] W25 W25) ch26 trivial) ch27 trivial) ch28 trivial) ch32 trivial) ch34 trivial)⟩
          · refine Wk.oVal (some 49) (.string (Mur.str RB14)) rfl rfl (by kernel_rfl) (Mur.run_str 22 9 (.tmp 48) 5 rfl Tryd.underlying22 Tryd.underlying5 Tryd.underlying9 (some ⟨qr14, 0, none⟩) 104 cr14 RB14 (by kernel_rfl) hbr14) ?_
            refine ⟨sS22, ?_⟩
            refine Wk.dOp 24 (by kernel_rfl) ?_
            refine Wk.oVal (some 46) (.string (Mur.str RB12)) rfl rfl (by kernel_rfl) (Mur.run_str 22 9 (.tmp 45) 5 rfl Tryd.underlying22 Tryd.underlying5 Tryd.underlying9 (some ⟨qr12, 0, none⟩) 104 cr12 RB12 (by kernel_rfl) (Mur.byt_chg hbr12 ch34 (fun g off e hl => trivial))) ?_
            refine ⟨sS22, ?_⟩
            refine Wk.dVal 28 (some 50) (.bool false) rfl rfl (by kernel_rfl) (by kernel_rfl) (by kernel_rfl) (fun _ _ _ h => h) (by kernel_rfl) (fun w' hw' => (Wk.boolF (b := decide (Go.Lib.compareBytes RB12 RB14 < 0)) (decide_eq_false (by rw [hRB12.out, hRB14.out]; exact hls2)) (Mur.strlss 9 9 (.tmp 46) (.tmp 49) rfl RB12 RB14 (by kernel_rfl) (by kernel_rfl)))) sS22 ?_
            refine Wk.dVal 29 (some 51) (.bool false) rfl rfl (by kernel_rfl) (by kernel_rfl) (by kernel_rfl) (fun _ _ _ h => h) (by kernel_rfl) (fun w' hw' => by kernel_rfl) sS22 ?_
            refine Wk.dVal 30 (some 52) (.bool false) rfl rfl (by kernel_rfl) (by kernel_rfl) (by kernel_rfl) (fun _ _ _ h => h) (by kernel_rfl) (fun w' hw' => by kernel_rfl) sS22 ?_
            refine Wk.dEnd (by kernel_rfl) ?_
            refine Wk.nxt ?_
            refine wp_cond_false (by kernel_rfl) ?_
            refine wp_skip ?_
            refine Wk.nxt ?_
            exact ⟨by kernel_rfl, (Wk.Chg.step (Wk.Chg.step (Wk.Chg.step (Wk.Chg.step (Wk.Chg.step ((Wk.Chg.refl _).more (by simp) : Wk.Chg [] W25 W25) ch26 trivial) ch27 trivial) ch28 trivial) ch32 trivial) ch34 trivial)⟩
    · rintro aa3 W35 ⟨hF3, ch35⟩
      have zz36 := ch35.size
      generalize aa3.tmps = bb3 at hF3
      subst hF3
      refine Wk.nxt ?_
      refine wp_seq ?_
      refine wp_seq ?_
      refine Wk.reg ?_
      refine Wk.rPure 0 (some 53) (.int .i64 2) rfl rfl (by kernel_rfl) (by kernel_rfl) ?_
      refine Wk.rPure 1 (some 54) (.bool false) rfl rfl (by kernel_rfl) (Wk.boolF (b := ((2 : Int) == (0 : Int))) (beq_eq_false_iff_ne.2 (by decide)) (by kernel_rfl)) ?_
      refine Wk.rEnd 2 rfl ?_
      refine Wk.nxt ?_
      refine wp_cond_false (by kernel_rfl) ?_
      refine wp_skip ?_
      refine Wk.nxt ?_
      refine wp_seq ?_
      refine Wk.reg ?_
      refine Wk.rPure 0 (some 76) (.slice (some ⟨gb, ob, none⟩) 104 c) rfl rfl (by kernel_rfl) (by kernel_rfl) ?_
      refine Wk.rCall 1 (some 77) 26 [.tmp 76] #[22] [.slice (some ⟨gb, ob, none⟩) 104 c] rfl rfl (by kernel_rfl) rfl (by kernel_rfl) (by kernel_rfl) ?_
      have kk13 : Wk.Chg [] w W1 := Wk.Chg.step ((Wk.Chg.refl _).more (by simp)) ch1 trivial
      have kk14 := Wk.Chg.step kk13 ch2 trivial
      have kk15 := Wk.Chg.step kk14 ch25 trivial
      have kk16 := Wk.Chg.step kk15 ch35 trivial
      refine (Read_no gb ob c b K R E T V W35 (Mur.byt_chg HB.out kk16 (fun g off e hl => trivial)) (by omega) hK hR hE hT hV hV5).mono ?_
      rintro _ W36 ⟨rfl, ch36⟩
      have zz37 := ch36.size
      refine ⟨_, rfl, ?_⟩
      refine Wk.rPure 2 (some 75) (.tuple #[.agg ((Mur.attC Mur.z32 Mur.z32 0 Mur.z32).toArray), .int .i64 5]) rfl rfl (by kernel_rfl) (by kernel_rfl) ?_
      refine Wk.rPure 3 (some 78) (.agg ((Mur.attC Mur.z32 Mur.z32 0 Mur.z32).toArray)) rfl rfl (by kernel_rfl) (by kernel_rfl) ?_
      refine Wk.rPure 4 (some 79) (.int .i64 5) rfl rfl (by kernel_rfl) (by kernel_rfl) ?_
      refine Wk.rEx 5 (some 11) _ rfl rfl (by kernel_rfl) (Wk.new_ex (.pointer (some ⟨W36.heap.size, 0, none⟩)) #[.int .u8 0, .int .u8 0, .int .u8 0, .int .u8 0, .int .u8 0, .int .u8 0, .int .u8 0, .int .u8 0, .int .u8 0, .int .u8 0, .int .u8 0, .int .u8 0, .int .u8 0, .int .u8 0, .int .u8 0, .int .u8 0, .int .u8 0, .int .u8 0, .int .u8 0, .int .u8 0, .int .u8 0, .int .u8 0, .int .u8 0, .int .u8 0, .int .u8 0, .int .u8 0, .int .u8 0, .int .u8 0, .int .u8 0, .int .u8 0, .int .u8 0, .int .u8 0, .int .u8 0, .int .u8 0, .int .u8 0, .int .u8 0, .int .u8 0, .int .u8 0, .int .u8 0, .int .u8 0, .int .u8 0, .int .u8 0, .int .u8 0, .int .u8 0, .int .u8 0, .int .u8 0, .int .u8 0, .int .u8 0, .int .u8 0, .int .u8 0, .int .u8 0, .int .u8 0, .int .u8 0, .int .u8 0, .int .u8 0, .int .u8 0, .int .u8 0, .int .u8 0, .int .u8 0, .int .u8 0, .int .u8 0, .int .u8 0, .int .u8 0, .int .u8 0, .int .i64 0, .int .u8 0, .int .u8 0, .int .u8 0, .int .u8 0, .int .u8 0, .int .u8 0, .int .u8 0, .int .u8 0, .int .u8 0, .int .u8 0, .int .u8 0, .int .u8 0, .int .u8 0, .int .u8 0, .int .u8 0, .int .u8 0, .int .u8 0, .int .u8 0, .int .u8 0, .int .u8 0, .int .u8 0, .int .u8 0, .int .u8 0, .int .u8 0, .int .u8 0, .int .u8 0, .int .u8 0, .int .u8 0, .int .u8 0, .int .u8 0, .int .u8 0, .int .u8 0] 36 (by kernel_rfl)) ?_
      rintro _ W37 ⟨rfl, hb7, ch37, sz8⟩
      have zz38 := ch37.size
      rw [← Mur.attC_zero] at hb7
      refine Wk.rExS 6 none _ rfl rfl (by kernel_rfl) (Mur.storeArr 36 (.tmp 11) (.tmp 78) rfl W36.heap.size (by kernel_rfl) (Mur.attC Mur.z32 Mur.z32 0 Mur.z32).toArray 97 (Mur.attC_size rfl rfl rfl) Mur.attC_all (by kernel_rfl) (by kernel_rfl) 36 ((Mur.attC Mur.z32 Mur.z32 0 Mur.z32).toArray) hb7 (Mur.attC_size rfl rfl rfl)) ?_
      rintro W38 ⟨hb8, ch38⟩
      have zz39 := ch38.size
      refine Wk.rPure 7 (some 12) (.int .i64 5) rfl rfl (by kernel_rfl) (by kernel_rfl) ?_
      refine Wk.rEnd 8 rfl ?_
      refine Wk.nxt ?_
      refine wp_seq ?_
      refine wp_seq ?_
      refine Wk.reg ?_
      refine Wk.rPure 0 (some 80) (.int .i64 5) rfl rfl (by kernel_rfl) (by kernel_rfl) ?_
      refine Wk.rPure 1 (some 81) (.bool true) rfl rfl (by kernel_rfl) (Wk.boolT (b := ((5 : Int) != (0 : Int))) (bne_iff_ne.2 (by decide)) (by kernel_rfl)) ?_
      refine Wk.rEnd 2 rfl ?_
      refine Wk.nxt ?_
      refine wp_cond_true (by kernel_rfl) ?_
      refine wp_seq ?_
      refine Wk.reg ?_
      refine Wk.rPure 0 (some 82) (.int .i64 5) rfl rfl (by kernel_rfl) (by kernel_rfl) ?_
      refine Wk.rPure 1 (some 83) (.bool true) rfl rfl (by kernel_rfl) (Wk.boolT (b := ((5 : Int) == (5 : Int))) (beq_iff_eq.2 (by decide)) (by kernel_rfl)) ?_
      refine Wk.rPure 2 (some 84) (.bool true) rfl rfl (by kernel_rfl) (by kernel_rfl) ?_
      refine Wk.rPure 3 (some 85) (.agg ((Mur.attC Mur.z32 Mur.z32 0 Mur.z32).toArray)) rfl rfl (by kernel_rfl) (Mur.loadArr 36 (.tmp 11) rfl _ Tryd.underlying36 rfl W36.heap.size (by kernel_rfl) (Mur.attC Mur.z32 Mur.z32 0 Mur.z32).toArray 97 (Mur.attC_size rfl rfl rfl) (by kernel_rfl) 36 (0, 0) hb8) ?_
      refine Wk.rPure 4 (some 86) (.agg ((Mur.attC Mur.z32 Mur.z32 0 Mur.z32).toArray)) rfl rfl (by kernel_rfl) (by kernel_rfl) ?_
      refine Wk.rPure 5 (some 87) (.bool true) rfl rfl (by kernel_rfl) (Wk.boolT (b := decide (Mur.z32 = Mur.z32 ∧ Mur.z32 = Mur.z32 ∧ (0 : Int) = 0 ∧ Mur.z32 = Mur.z32)) (decide_eq_true (⟨rfl, rfl, rfl, rfl⟩)) (run_eql_att (.tmp 85) (.tmp 86) 36 rfl rfl rfl rfl rfl rfl rfl (by decide) (by decide) (by kernel_rfl) (by kernel_rfl))) ?_
      refine Wk.rPure 6 (some 88) (.bool true) rfl rfl (by kernel_rfl) (by kernel_rfl) ?_
      refine Wk.rPure 7 (some 89) (.bool true) rfl rfl (by kernel_rfl) (by kernel_rfl) ?_
      refine Wk.rPure 8 (some 90) (.slice (some ⟨gb, ob, none⟩) 104 c) rfl rfl (by kernel_rfl) (by kernel_rfl) ?_
      refine Wk.rPure 9 (some 91) (.int .i64 104) rfl rfl (by kernel_rfl) (by kernel_rfl) ?_
      refine Wk.rPure 10 (some 92) (.bool false) rfl rfl (by kernel_rfl) (Wk.boolF (b := ((104 : Int) != (104 : Int))) (bne_eq_false_iff_eq.2 (by decide)) (by kernel_rfl)) ?_
      refine Wk.rPure 11 (some 93) (.bool false) rfl rfl (by kernel_rfl) (by kernel_rfl) ?_
      refine Wk.rPure 12 (some 94) (.slice (some ⟨gb, ob, none⟩) 104 c) rfl rfl (by kernel_rfl) (by kernel_rfl) ?_
      refine Wk.rCall 13 (some 95) 27 [.tmp 94] #[22] [.slice (some ⟨gb, ob, none⟩) 104 c] rfl rfl (by kernel_rfl) rfl (by kernel_rfl) (by kernel_rfl) ?_
      have kk17 := Wk.Chg.step kk16 ch36 trivial
      have kk18 := Wk.Chg.step kk17 ch37 trivial
      have kk19 := Wk.Chg.step kk18 ch38 ⟨.inr (by omega), trivial⟩
      refine (Lengthy_any gb ob c b E V W38 (Mur.byt_chg HB.out kk19 (fun g off e hl => trivial)) hE hV).mono ?_
      rw [decide_eq_false hV5]
      rintro _ _ ⟨rfl, rfl⟩
      refine ⟨_, rfl, ?_⟩
      refine Wk.rPure 14 (some 96) (.bool true) rfl rfl (by kernel_rfl) (by kernel_rfl) ?_
      refine Wk.rPure 15 (some 97) (.bool true) rfl rfl (by kernel_rfl) (by kernel_rfl) ?_
      refine Wk.rPure 16 (some 98) (.bool true) rfl rfl (by kernel_rfl) (by kernel_rfl) ?_
      refine Wk.rPure 17 (some 99) (.bool true) rfl rfl (by kernel_rfl) (by kernel_rfl) ?_
      refine Wk.rCall 18 (some 100) 17 [] #[] [] rfl rfl (by kernel_rfl) rfl (by kernel_rfl) (by kernel_rfl) ?_
      refine (known9_any W38 (HV.out.below (Wk.Chg.below0 kk19))).mono ?_
      rintro _ W40 ⟨rfl, ch40⟩
      have zz40 := ch40.size
      refine ⟨_, rfl, ?_⟩
      refine Wk.rPure 19 (some 101) (.bool true) rfl rfl (by kernel_rfl) (by kernel_rfl) ?_
      refine Wk.rPure 20 (some 6) (.bool true) rfl rfl (by kernel_rfl) (by kernel_rfl) ?_
      refine Wk.rEnd 21 rfl ?_
      refine Wk.nxt ?_
      refine wp_ret ?_
      refine Wk.thR ?_
      have kk20 := Wk.Chg.step kk19 ch40 trivial
      refine Wk.ret (.bool true) rfl (by kernel_rfl) ?_
      exact ⟨rfl, Wk.Chg.below0 kk20⟩
end Go.Proofs.YtljfjjofhclhiaaDoor
